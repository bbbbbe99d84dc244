import PyProof.Rows.All
import Wide.All
import OpenK.AllK
import Wide.FinOn
import HandS.ForMost
import HandS.ForExc
import HandS.Deep
import HandS.DictComp
import HandS.Zip
import HandS.CallSlots
import KE.KDictWalk
import KE.KDictCopyH
import KE.SortData
import HandS.Conv
import HandS.Wide
import HandS.TupAny
import HandS.TupMul
import HandS.TupLe
import HandS.ExcIs
import HandS.TupLen
import HandS.ListItems
import HandS.IsInst
import HandS.Replace
import HandS.SetFor
import HandS.Style
import HandS.NoneIn
import HandS.Defaults
import KE.KStateDown
import HandS.Head0
import HandS.Head1
import HandS.Head2
import HandS.HeadEnd
import HandS.HeadHook1
import HandS.HeadHook2
import PySem.Challenge.RW_menuletters_k01_menus

set_option linter.all false
namespace Mi

/-- an atom of a key; a key -/
abbrev At := Sum Int (List Nat)
inductive Ky where
  | a (x : At)
  | t (xs : List At)
  deriving DecidableEq

/-- data; texts are lists of code points; dic true: keys are atoms, dic false: tuples; scr: the law's script -/
inductive D where
  | non
  | bl (b : Bool)
  | int (i : Int)
  | str (x : List Nat)
  | lst (xs : List D)
  | tup (xs : List D)
  | dic (b : Bool) (kvs : List (Ky × D))
  | scr (ns : List Int)

/-- a result: a value; a raised class (by its number); not told -/
inductive R (α : Type) where
  | ok (a : α)
  | rz (c : Nat)
  | no

def R.bind {α β : Type} : R α → (α → R β) → R β
  | .ok a, f => f a
  | .rz c, _ => .rz c
  | .no, _ => .no
theorem bind_ok {α β : Type} (a : α) (f : α → R β) : (R.ok a).bind f = f a := rfl
theorem bind_rz {α β : Type} (c : Nat) (f : α → R β) : (R.rz c : R α).bind f = .rz c := rfl
theorem bind_no {α β : Type} (f : α → R β) : (R.no : R α).bind f = .no := rfl
def R.ofO {α : Type} : Option α → R α
  | some a => .ok a
  | none => .no

/-- the greatest length of a list, tuple, text, dict -/
def LIM : Nat := 16777216

/-! ### keys -/
def atD : At → D
  | .inl i => .int i
  | .inr x => .str x
def Ky.d : Ky → D
  | .a x => atD x
  | .t xs => .tup (xs.map atD)
def D.at? : D → Option At
  | .int i => some (.inl i)
  | .str x => some (.inr x)
  | _ => none
def atAll : List D → Option (List At)
  | [] => some []
  | x :: xs => match x.at? with
    | some a => match atAll xs with
      | some r => some (a :: r)
      | none => none
    | none => none
def D.ky : D → Option Ky
  | .int i => some (.a (.inl i))
  | .str x => some (.a (.inr x))
  | .tup xs => match atAll xs with
    | some r => some (.t r)
    | none => none
  | _ => none
def Ky.kind : Ky → Bool
  | .a _ => true
  | .t _ => false
abbrev KVs := List (Ky × D)
def kget (kvs : KVs) (k : Ky) : Option D := (kvs.find? fun p => decide (p.1 = k)).map (·.2)
def kput (kvs : KVs) (k : Ky) (v : D) : KVs :=
  if kvs.any (fun p => decide (p.1 = k)) then kvs.map fun p => if p.1 = k then (p.1, v) else p else kvs ++ [(k, v)]

/-! ### equality -/
def b2i (b : Bool) : Int := if b then 1 else 0
mutual
def D.eqv : D → D → Bool
  | .non, .non => true
  | .bl a, .bl b => a == b
  | .bl a, .int j => b2i a == j
  | .int i, .bl b => i == b2i b
  | .int i, .int j => i == j
  | .str x, .str y => x == y
  | .lst xs, .lst ys => eqvs xs ys
  | .tup xs, .tup ys => eqvs xs ys
  | _, _ => false
def eqvs : List D → List D → Bool
  | [], [] => true
  | x :: xs, y :: ys => D.eqv x y && eqvs xs ys
  | _, _ => false
end
/-- no dict within, at most n deep -/
def D.dat : Nat → D → Bool
  | _, .non => true
  | _, .bl _ => true
  | _, .int _ => true
  | _, .str _ => true
  | n + 1, .lst xs => xs.all (D.dat n)
  | n + 1, .tup xs => xs.all (D.dat n)
  | _, _ => false
def D.flat : D → Bool
  | .non => true
  | .bl _ => true
  | .int _ => true
  | .str _ => true
  | _ => false

/-! ### order -/
def lexN : List Nat → List Nat → Bool
  | [], [] => false
  | [], _ :: _ => true
  | _ :: _, [] => false
  | x :: xs, y :: ys => if x = y then lexN xs ys else decide (x < y)
/-- x < y of two atoms of one kind -/
def atLt : D → D → Option Bool
  | .int i, .int j => some (decide (i < j))
  | .str x, .str y => some (lexN x y)
  | _, _ => none
def lexD : List D → List D → Bool
  | [], [] => false
  | [], _ :: _ => true
  | _ :: _, [] => false
  | x :: xs, y :: ys => if D.eqv x y then lexD xs ys else (atLt x y).getD false
/-- all intsD; all texts -/
def allInt : List D → Bool := fun xs => xs.all fun x => match x with
  | .int _ => true
  | _ => false
def allStr : List D → Bool := fun xs => xs.all fun x => match x with
  | .str _ => true
  | _ => false
def tupLt (xs ys : List D) : Option Bool := if (allInt xs && allInt ys) || (allStr xs && allStr ys) then some (lexD xs ys) else none
def D.lt : D → D → Option Bool
  | .tup xs, .tup ys => tupLt xs ys
  | x, y => atLt x y

/-! ### operators -/
inductive Op where
  | add | sub | mul | div | mod | pow
inductive Cm where
  | eq | ne | lt | le | gt | ge | is | nis | inn | nin

def mkL (xs : List D) : R D := if xs.length ≤ LIM then .ok (.lst xs) else .no
def mkT (xs : List D) : R D := if xs.length ≤ LIM then .ok (.tup xs) else .no
def mkS (xs : List Nat) : R D := if xs.length ≤ LIM then .ok (.str xs) else .no
def small64 (i : Int) : Bool := decide (-(2 ^ 64) < i) && decide (i < 2 ^ 64)
def reps {α : Type} (xs : List α) (k : Int) : List α := (List.replicate k.toNat xs).flatten
def okRep (n : Nat) (k : Int) : Bool := decide (0 ≤ k) && decide (k ≤ 1000000) && decide (n * k.toNat ≤ LIM)
def opR : Op → D → D → R D
  | .add, .int i, .int j => .ok (.int (i + j))
  | .add, .str x, .str y => mkS (x ++ y)
  | .add, .lst x, .lst y => mkL (x ++ y)
  | .add, .tup x, .tup y => mkT (x ++ y)
  | .sub, .int i, .int j => .ok (.int (i - j))
  | .mul, .int i, .int j => if small64 i || small64 j then .ok (.int (i * j)) else .no
  | .mul, .str x, .int k => if okRep x.length k then .ok (.str (reps x k)) else .no
  | .mul, .lst x, .int k => if okRep x.length k then .ok (.lst (reps x k)) else .no
  | .mul, .tup x, .int k => if decide (x.length ≤ 1000) && !x.isEmpty && decide (0 ≤ k) && decide (k ≤ 1000) then .ok (.tup (reps x k)) else .no
  | .div, .int i, .int j => if decide (0 < j) && decide (j.natAbs.log2 < 9000) then .ok (.int (i / j)) else .no
  | .mod, .int i, .int j => if decide (0 < j) then .ok (.int (i % j)) else .no
  | .pow, .int i, .int j => if decide (0 ≤ j) && decide (j ≤ 1000000) && decide (i.natAbs < 2 ^ 64) then .ok (.int (i ^ j.toNat)) else .no
  | _, _, _ => .no

def inSeq (x : D) (ys : List D) : Bool := ys.any fun y => D.eqv y x
def inR (x : D) : D → R Bool
  | .lst ys => if x.dat 30 && ys.all (D.dat 30) then .ok (inSeq x ys) else .no
  | .tup ys => if x.flat && ys.all D.flat then .ok (inSeq x ys) else .no
  | .str y => match x with
    | .str [c] => .ok (decide (c ∈ y))
    | _ => .no
  | .dic b kvs => match x.ky with
    | some k => if k.kind == b then .ok (kget kvs k).isSome else .no
    | none => .no
  | _ => .no
def ltR (x y : D) : R Bool := R.ofO (D.lt x y)
def leR : D → D → R Bool
  | .int i, .int j => .ok (decide (i ≤ j))
  | _, _ => .no
def gtR : D → D → R Bool
  | .int i, .int j => .ok (decide (j < i))
  | _, _ => .no
def geR : D → D → R Bool
  | .int i, .int j => .ok (decide (j ≤ i))
  | .tup xs, .tup ys => match tupLt xs ys with
    | some b => .ok (!b)
    | none => .no
  | _, _ => .no
def isND : D → Bool
  | .non => true
  | _ => false
/-- is None, is True, is False -/
def isR : D → D → R Bool
  | x, .non => .ok (isND x)
  | .bl c, .bl b => .ok (c == b)
  | _, _ => .no
def eqR : D → D → R Bool
  | .scr ns, .lst [] => .ok ns.isEmpty
  | x, y => if x.dat 30 && y.dat 30 then .ok (D.eqv x y) else .no
def neg (r : R Bool) : R Bool := r.bind fun b => .ok (!b)
def cmR : Cm → D → D → R Bool
  | .eq, x, y => eqR x y
  | .ne, x, y => neg (eqR x y)
  | .lt, x, y => ltR x y
  | .gt, x, y => gtR x y
  | .le, x, y => leR x y
  | .ge, x, y => geR x y
  | .is, x, y => isR x y
  | .nis, x, y => neg (isR x y)
  | .inn, x, y => inR x y
  | .nin, x, y => neg (inR x y)

/-! ### subscripts, slices -/
def ixN (n : Nat) (i : Int) : Option Nat := if 0 ≤ i then (if i < n then some i.toNat else none) else if -(n : Int) ≤ i then some (i + n).toNat else none
def atI {α : Type} (xs : List α) (i : Int) : Option α := (ixN xs.length i).bind fun j => xs[j]?
def ixR : D → D → R D
  | .scr xs, .int i => match atI xs i with
    | some c => .ok (.int c)
    | none => .no
  | .lst xs, .int i => R.ofO (atI xs i)
  | .tup xs, .int i => R.ofO (atI xs i)
  | .str x, .int i => match atI x i with
    | some c => .ok (.str [c])
    | none => .no
  | .dic b kvs, k => match k.ky with
    | some q => if q.kind == b then R.ofO (kget kvs q) else .no
    | none => .no
  | _, _ => .no
/-- a bound of a slice: none or an int, in a sequence of n items; d where it is left out -/
def sIx (n d : Nat) : Option Int → Nat
  | none => d
  | some v => if v < 0 then (v + n).toNat else min v.toNat n
def cut {α : Type} (xs : List α) (lo hi : Option Int) : List α := (xs.drop (sIx xs.length 0 lo)).take (sIx xs.length xs.length hi - sIx xs.length 0 lo)
def partR (b : Bool) (r : R D) : R (Option Int) := if b then r.bind fun d => match d with
    | .int i => .ok (some i)
    | _ => .no
  else .ok none
def slR (x : D) (lo hi : Option Int) : R D := match x with
  | .lst xs => .ok (.lst (cut xs lo hi))
  | .tup xs => .ok (.tup (cut xs lo hi))
  | .str xs => .ok (.str (cut xs lo hi))
  | _ => .no
def revR : D → R D
  | .lst xs => .ok (.lst xs.reverse)
  | .tup xs => .ok (.tup xs.reverse)
  | .str xs => .ok (.str xs.reverse)
  | _ => .no

/-! ### what is walked -/
def chars (x : List Nat) : List D := x.map fun c => .str [c]
def itemsR : D → R (List D)
  | .lst xs => .ok xs
  | .tup xs => .ok xs
  | .str x => .ok (chars x)
  | .dic _ kvs => .ok (kvs.map fun p => p.1.d)
  | _ => .no
def rngL (a b : Int) : List D := (List.range (b - a).toNat).map fun n => .int (a + (n : Nat))
def okRng (a b : Int) : Bool := decide (-1000000 ≤ a) && decide (a ≤ 1000000) && decide (-1000000 ≤ b) && decide (b ≤ 1000000)
def rngR : D → D → R (List D)
  | .int a, .int b => if okRng a b then .ok (rngL a b) else .no
  | _, _ => .no
def enumL : Nat → List D → List D
  | _, [] => []
  | n, x :: xs => .tup [.int n, x] :: enumL (n + 1) xs
def zipL : List D → List D → List D
  | x :: xs, y :: ys => .tup [x, y] :: zipL xs ys
  | _, _ => []
/-- the least length of some lists; the j-th items -/
def col (j : Nat) : List (List D) → Option (List D)
  | [] => some []
  | xs :: r => match xs[j]?, col j r with
    | some x, some q => some (x :: q)
    | _, _ => none
def colsN (ls : List (List D)) : Nat → Nat → List D
  | _, 0 => []
  | j, n + 1 => match col j ls with
    | some q => .tup q :: colsN ls (j + 1) n
    | none => []
def tups : List D → Option (List (List D))
  | [] => some []
  | .tup x :: r => (tups r).map (x :: ·)
  | _ :: _ => none

/-! ### built-ins of one value -/
inductive B1 where
  | len | list | tuple | dict | sum | min | max | all | any | sorted | sset | lset
  | isInt | isBool | isStr | isTuple | isList
inductive B2 where
  | index | join | find | get | min | max | count | split
inductive B3 where
  | get | replace

/-- without what comes again -/
def nub {α : Type} [DecidableEq α] : List α → List α
  | [] => []
  | x :: r => if x ∈ nub r then nub r else x :: nub r
def intsD : List D → Option (List Int)
  | [] => some []
  | .int i :: r => (intsD r).map (i :: ·)
  | _ :: _ => none
def blsD : List D → Option (List Bool)
  | [] => some []
  | .bl b :: r => (blsD r).map (b :: ·)
  | _ :: _ => none
def strsD : List D → Option (List (List Nat))
  | [] => some []
  | .str x :: r => (strsD r).map (x :: ·)
  | _ :: _ => none
def tupIs : List D → Option (List (List Int))
  | [] => some []
  | .tup xs :: r => match intsD xs with
    | some ns => (tupIs r).map (ns :: ·)
    | none => none
  | _ :: _ => none
def pairIs : List D → Option (List (Int × List Int))
  | [] => some []
  | .tup [.int n, .tup xs] :: r => match intsD xs with
    | some ns => (pairIs r).map ((n, ns) :: ·)
    | none => none
  | _ :: _ => none
def leI (a b : Int) : Bool := decide (a ≤ b)
def leS (a b : List Nat) : Bool := decide (a ≤ b)
def leT (a b : List Int) : Bool := decide (a ≤ b)
def leP (a b : Int × List Int) : Bool := if a.1 = b.1 then decide (a.2 ≤ b.2) else decide (a.1 < b.1)
/-- intsD, texts, tuples of intsD that are not empty, pairs of an int and a tuple of intsD: in their order -/
def sortR (xs : List D) : R D := match intsD xs with
  | some ns => .ok (.lst ((ns.mergeSort leI).map .int))
  | none => match strsD xs with
    | some ss => .ok (.lst ((ss.mergeSort leS).map .str))
    | none => match tupIs xs with
      | some ts => if ts.all (fun t => !t.isEmpty) then .ok (.lst ((ts.mergeSort leT).map fun t => .tup (t.map .int))) else .no
      | none => match pairIs xs with
        | some ps => .ok (.lst ((ps.mergeSort leP).map fun p => .tup [.int p.1, .tup (p.2.map .int)]))
        | none => .no
def seqR : D → R (List D)
  | .lst xs => .ok xs
  | .tup xs => .ok xs
  | _ => .no
def minI : Int → List Int → Int
  | m, [] => m
  | m, x :: r => minI (if x < m then x else m) r
def maxI : Int → List Int → Int
  | m, [] => m
  | m, x :: r => maxI (if m < x then x else m) r
/-- dict(pairs) -/
def dictOf : List D → Option KVs
  | [] => some []
  | .tup [k, v] :: r => match k.ky with
    | some q => (dictOf r).map ((q, v) :: ·)
    | none => none
  | _ :: _ => none
def merge (acc : KVs) : KVs → KVs
  | [] => acc
  | (k, v) :: r => merge (kput acc k v) r
def oneKind (b : Bool) (kvs : KVs) : Bool := kvs.all fun q => q.1.kind == b
def kindOf : KVs → Bool
  | [] => true
  | p :: _ => p.1.kind
/-- None, intsD and texts: what may stand in a set here -/
def scans : List D → Option (List (Option At))
  | [] => some []
  | .non :: r => (scans r).map (none :: ·)
  | .int i :: r => (scans r).map (some (.inl i) :: ·)
  | .str x :: r => (scans r).map (some (.inr x) :: ·)
  | _ :: _ => none
/-- the number of a type -/
def tyD : D → Option Nat
  | .non => some 0
  | .bl _ => some 1
  | .int _ => some 2
  | .str _ => some 3
  | .tup _ => some 4
  | .lst _ => some 5
  | _ => none
def isT (p : Nat → Bool) (x : D) : R D := match tyD x with
  | some t => .ok (.bl (p t))
  | none => .no
def b1R : B1 → D → R D
  | .len, .lst xs => .ok (.int xs.length)
  | .len, .tup xs => .ok (.int xs.length)
  | .len, .str xs => .ok (.int xs.length)
  | .len, .dic _ xs => .ok (.int xs.length)
  | .len, .scr xs => .ok (.int xs.length)
  | .list, x => (seqR x).bind fun xs => .ok (.lst xs)
  | .tuple, .dic _ _ => .no
  | .tuple, x => (itemsR x).bind fun xs => .ok (.tup xs)
  | .dict, .dic b kvs => .ok (.dic b kvs)
  | .dict, .lst ps => match dictOf ps with
    | some kvs => if oneKind (kindOf kvs) kvs then .ok (.dic (kindOf kvs) (merge [] kvs)) else .no
    | none => .no
  | .sum, x => (seqR x).bind fun xs => match intsD xs with
    | some ns => .ok (.int ns.sum)
    | none => .no
  | .min, .lst xs => match intsD xs with
    | some (n :: ns) => .ok (.int (minI n ns))
    | _ => .no
  | .max, .lst xs => match intsD xs with
    | some (n :: ns) => .ok (.int (maxI n ns))
    | _ => .no
  | .all, .lst xs => match blsD xs with
    | some bs => .ok (.bl (bs.all id))
    | none => .no
  | .any, .lst xs => match blsD xs with
    | some bs => .ok (.bl (bs.any id))
    | none => .no
  | .sorted, .dic false _ => .no
  | .sorted, x => (itemsR x).bind sortR
  | .sset, .dic _ _ => .no
  | .sset, x => (itemsR x).bind fun xs => if xs.length < 4000 then match intsD xs with
      | some ns => .ok (.lst (((nub ns).mergeSort leI).map .int))
      | none => match strsD xs with
        | some ss => .ok (.lst (((nub ss).mergeSort leS).map .str))
        | none => .no
    else .no
  | .lset, .dic _ _ => .no
  | .lset, x => (itemsR x).bind fun xs => if xs.length < 4000 then match scans xs with
      | some ks => .ok (.int (nub ks).length)
      | none => .no
    else .no
  | .isInt, x => isT (fun t => t == 2 || t == 1) x
  | .isBool, x => isT (fun t => t == 1) x
  | .isStr, x => isT (fun t => t == 3) x
  | .isTuple, x => isT (fun t => t == 4) x
  | .isList, x => isT (fun t => t == 5) x
  | _, _ => .no
def idxOf (p : Nat → Bool) : List Nat → Nat → Option Nat
  | [], _ => none
  | c :: r, n => if p c then some n else idxOf p r (n + 1)
def idxD (p : D → Bool) : List D → Nat → Option Nat
  | [], _ => none
  | c :: r, n => if p c then some n else idxD p r (n + 1)
def joinL (s : List Nat) : List (List Nat) → List Nat
  | [] => []
  | [x] => x
  | x :: y :: r => x ++ s ++ joinL s (y :: r)
def b2R : B2 → D → D → R D
  | .index, .str x, .str [c] => match idxOf (· == c) x 0 with
    | some n => .ok (.int n)
    | none => .no
  | .index, .lst xs, y => if y.dat 30 && xs.all (D.dat 30) then match idxD (fun x => D.eqv x y) xs 0 with
      | some n => .ok (.int n)
      | none => .no
    else .no
  | .find, .str x, .str [c] => match idxOf (· == c) x 0 with
    | some n => .ok (.int n)
    | none => .ok (.int (-1))
  | .join, .str s, .lst xs => match strsD xs with
    | some ys => if (ys.map (·.length)).sum + ys.length * s.length ≤ LIM then .ok (.str (joinL s ys)) else .no
    | none => .no
  | .get, .dic b kvs, k => match k.ky with
    | some q => if q.kind == b then .ok ((kget kvs q).getD .non) else .no
    | none => .no
  | .min, .int i, .int j => .ok (.int (if j < i then j else i))
  | .max, .int i, .int j => .ok (.int (if j > i then j else i))
  | _, _, _ => .no
/-- the receivers of methods -/
def recv2 : B2 → D → Bool
  | .index, .str _ => true
  | .index, .lst _ => true
  | .join, .str _ => true
  | .find, .str _ => true
  | .split, .str _ => true
  | .count, .lst _ => true
  | .get, .dic _ _ => true
  | .min, _ => true
  | .max, _ => true
  | _, _ => false
def recv3 : B3 → D → Bool
  | .get, .dic _ _ => true
  | .replace, .str _ => true
  | _, _ => false
def b3R : B3 → D → D → D → R D
  | .get, .dic b kvs, k, x => match k.ky with
    | some q => if q.kind == b then .ok ((kget kvs q).getD x) else .no
    | none => .no
  | _, _, _, _ => .no

/-! ### the code of expressions -/
inductive Tg where
  | one (i : Nat)
  | two (i j : Nat)
inductive C where
  | k (d : D)
  | v (i : Nat)
  | o (i : Nat)
  | nil
  | cons (a b : C)
  | tup (as : C)
  | lst (as : C)
  | dct (b : Bool) (ks vs : C)
  | op (o : Op) (a b : C)
  | neg (a : C)
  | not (a : C)
  | cm (c : Cm) (a b : C)
  | ch (c d : Cm) (a b e : C)
  | and (a b : C)
  | or (a b : C)
  | ife (c a b : C)
  | ix (a i : C)
  | sl (a : C) (bl : Bool) (lo : C) (bh : Bool) (hi : C)
  | rev (a : C)
  | b1 (b : B1) (a : C)
  | b2 (b : B2) (a c : C)
  | b3 (b : B3) (a c e : C)
  | call (f : Nat) (as : C)
  | pick (fs : List Nat) (i as : C)
  | isx (c : Nat)
  | it (a : C)
  | rg1 (a : C)
  | rg2 (a b : C)
  | enum (a : C)
  | zip (a b : C)
  | zips (a : C)
  | items (a : C)
  | lc (g : Tg) (it c e : C)
  | lc2 (g : Tg) (it : C) (h : Tg) (it2 c e : C)
  | dc (g : Tg) (it c k v : C)
  | dc2 (g : Tg) (it : C) (h : Tg) (it2 c k v : C)

/-- a slot: empty; a value; a list, a dict that the def alone holds -/
inductive Sl where
  | no
  | sh (d : D)
  | ol (xs : List D)
  | od (b : Bool) (kvs : KVs)
abbrev Env := List Sl
def getS : Env → Nat → Sl
  | [], _ => .no
  | x :: _, 0 => x
  | _ :: r, n + 1 => getS r n
def setS : Env → Nat → Sl → Env
  | [], _, _ => []
  | _ :: r, 0, y => y :: r
  | x :: r, n + 1, y => x :: setS r n y
def two : D → Option (D × D)
  | .tup [x, y] => some (x, y)
  | _ => none
def tgR : Tg → D → Env → R Env
  | .one i, d, ρ => .ok (setS ρ i (.sh d))
  | .two i j, d, ρ => match two d with
    | some (x, y) => .ok (setS (setS ρ i (.sh x)) j (.sh y))
    | none => .no
def wipT : Tg → Env → Env
  | .one i, ρ => setS ρ i .no
  | .two i j, ρ => setS (setS ρ j .no) i .no
def blR : D → R Bool
  | .bl b => .ok b
  | _ => .no
def lstR : D → R (List D)
  | .lst xs => .ok xs
  | _ => .no
def optC : Option D → List D → List D
  | some y, ys => y :: ys
  | none, ys => ys
/-- a comprehension's loop: f gives nothing, or a new item -/
def lcR (f : D → R (Option D)) : List D → R (List D)
  | [] => .ok []
  | x :: r => (f x).bind fun o => (lcR f r).bind fun ys => .ok (optC o ys)
def lc2R (f : D → R (List D)) : List D → R (List D)
  | [] => .ok []
  | x :: r => (f x).bind fun o => (lc2R f r).bind fun ys => .ok (o ++ ys)
/-- raising within a comprehension isn't told -/
def R.calm {α : Type} : R α → R α
  | .ok a => .ok a
  | _ => .no
def dcR (f : D → R (Option (Ky × D))) : List D → KVs → R KVs
  | [], acc => .ok acc
  | x :: r, acc => (f x).bind fun o => match o with
    | some (k, v) => if k.kind then dcR f r (kput acc k v) else .no
    | none => dcR f r acc
def dc2R (f : D → KVs → R KVs) : List D → KVs → R KVs
  | [], acc => .ok acc
  | x :: r, acc => (f x acc).bind fun a => dc2R f r a
/-- the world of calls: defs; the exception that an except suite handles -/
structure Cl where
  f : Nat → List D → R D
  x : Option Nat
def slD : Sl → R D
  | .sh d => .ok d
  | _ => .no
def slO : Sl → R D
  | .ol xs => .ok (.lst xs)
  | .od b kvs => .ok (.dic b kvs)
  | _ => .no
def pairKV : List D → List D → Option KVs
  | [], [] => some []
  | k :: ks, v :: vs => match k.ky with
    | some q => (pairKV ks vs).map ((q, v) :: ·)
    | none => none
  | _, _ => none
/-- d.items(): atoms for keys, pairs for targets -/
def itemsC (x : D) : R D := match x with
  | .dic true kvs => .ok (.lst (kvs.map fun p => .tup [p.1.d, p.2]))
  | _ => .no
def enumC (x : D) : R D := match x with
  | .lst xs => .ok (.lst (enumL 0 xs))
  | _ => .no
def zipC (x y : D) : R D := match x, y with
  | .lst xs, .lst ys => .ok (.lst (zipL xs ys))
  | .tup xs, .tup ys => .ok (.lst (zipL xs ys))
  | _, _ => .no
def isSub (c : Nat) (x : Nat) : Bool := c == x || c == 0
def ev (w : Cl) : C → Env → R D
  | .k d, _ => .ok d
  | .v i, ρ => slD (getS ρ i)
  | .o i, ρ => slO (getS ρ i)
  | .nil, _ => .ok (.lst [])
  | .cons a b, ρ => (ev w a ρ).bind fun x => (ev w b ρ).bind fun y => (lstR y).bind fun ys => .ok (.lst (x :: ys))
  | .tup as, ρ => (ev w as ρ).bind fun x => (lstR x).bind fun xs => mkT xs
  | .lst as, ρ => (ev w as ρ).bind fun x => (lstR x).bind fun xs => mkL xs
  | .dct b ks vs, ρ => (ev w ks ρ).bind fun x => (ev w vs ρ).bind fun y => (lstR x).bind fun xs => (lstR y).bind fun ys => match pairKV xs ys with
    | some kvs => if oneKind b kvs then .ok (.dic b (merge [] kvs)) else .no
    | none => .no
  | .op o a b, ρ => (ev w a ρ).bind fun x => (ev w b ρ).bind fun y => opR o x y
  | .neg a, ρ => (ev w a ρ).bind fun x => match x with
    | .int i => .ok (.int (-i))
    | _ => .no
  | .not a, ρ => (ev w a ρ).bind fun x => (blR x).bind fun b => .ok (.bl (!b))
  | .cm c a b, ρ => (ev w a ρ).bind fun x => (ev w b ρ).bind fun y => (cmR c x y).bind fun b => .ok (.bl b)
  | .ch c d a b e, ρ => (ev w a ρ).bind fun x => (ev w b ρ).bind fun y => (cmR c x y).bind fun k => if k then (ev w e ρ).bind fun z => (cmR d y z).bind fun q => .ok (.bl q) else .ok (.bl false)
  | .and a b, ρ => (ev w a ρ).bind fun x => (blR x).bind fun k => if k then ev w b ρ else .ok (.bl false)
  | .or a b, ρ => (ev w a ρ).bind fun x => (blR x).bind fun k => if k then .ok (.bl true) else ev w b ρ
  | .ife c a b, ρ => (ev w c ρ).bind fun x => (blR x).bind fun k => if k then ev w a ρ else ev w b ρ
  | .ix a i, ρ => (ev w a ρ).bind fun x => (ev w i ρ).bind fun y => ixR x y
  | .sl a bl lo bh hi, ρ => (ev w a ρ).bind fun x => (partR bl (ev w lo ρ)).bind fun l => (partR bh (ev w hi ρ)).bind fun h => slR x l h
  | .rev a, ρ => (ev w a ρ).bind revR
  | .b1 b a, ρ => (ev w a ρ).bind fun x => b1R b x
  | .b2 b a c, ρ => (ev w a ρ).bind fun x => if recv2 b x then (ev w c ρ).bind fun y => b2R b x y else .no
  | .b3 b a c e, ρ => (ev w a ρ).bind fun x => if recv3 b x then (ev w c ρ).bind fun y => (ev w e ρ).bind fun z => b3R b x y z else .no
  | .call f as, ρ => (ev w as ρ).bind fun x => (lstR x).bind fun xs => w.f f xs
  | .pick fs i as, ρ => (ev w i ρ).bind fun x => match x with
    | .int n => match atI fs n with
      | some f => (ev w as ρ).bind fun y => (lstR y).bind fun xs => w.f f xs
      | none => .no
    | _ => .no
  | .isx c, _ => match w.x with
    | some x => .ok (.bl (isSub c x))
    | none => .no
  | .it a, ρ => (ev w a ρ).bind fun x => (itemsR x).bind fun xs => .ok (.lst xs)
  | .rg1 a, ρ => (ev w a ρ).bind fun x => (rngR (.int 0) x).bind fun xs => .ok (.lst xs)
  | .rg2 a b, ρ => (ev w a ρ).bind fun x => (ev w b ρ).bind fun y => (rngR x y).bind fun xs => .ok (.lst xs)
  | .enum a, ρ => (ev w a ρ).bind enumC
  | .zip a b, ρ => (ev w a ρ).bind fun x => (ev w b ρ).bind fun y => zipC x y
  | .zips a, ρ => (ev w a ρ).bind fun x => (lstR x).bind fun xs => match tups xs with
    | some (l :: ls) => .ok (.lst (colsN (l :: ls) 0 l.length))
    | _ => .no
  | .items a, ρ => (ev w a ρ).bind itemsC
  | .lc g it c e, ρ => (ev w it ρ).bind fun x => (lstR x).bind fun xs => ((lcR (fun x => (tgR g x (wipT g ρ)).bind fun ρ' => (ev w c ρ').bind fun y => (blR y).bind fun b => if b then (ev w e ρ').bind fun z => .ok (some z) else .ok none) xs).calm).bind fun ys => .ok (.lst ys)
  | .lc2 g it h it2 c e, ρ => (ev w it ρ).bind fun x => (lstR x).bind fun xs => ((lc2R (fun x => (tgR g x (wipT g (wipT h ρ))).bind fun ρ' => (ev w it2 ρ').bind fun y => (lstR y).bind fun ys =>
      lcR (fun x => (tgR h x ρ').bind fun ρ'' => (ev w c ρ'').bind fun y => (blR y).bind fun b => if b then (ev w e ρ'').bind fun z => .ok (some z) else .ok none) ys) xs).calm).bind fun ys => mkL ys
  | .dc g it c k v, ρ => (ev w it ρ).bind fun x => (lstR x).bind fun xs => ((dcR (fun x => (tgR g x (wipT g ρ)).bind fun ρ' => (ev w c ρ').bind fun y => (blR y).bind fun b => if b then
      (ev w k ρ').bind fun a => (ev w v ρ').bind fun z => match a.ky with
        | some q => .ok (some (q, z))
        | none => .no
      else .ok none) xs []).calm).bind fun ys => .ok (.dic true ys)
  | .dc2 g it h it2 c k v, ρ => (ev w it ρ).bind fun x => (lstR x).bind fun xs => ((dc2R (fun x acc => (tgR g x (wipT g (wipT h ρ))).bind fun ρ' => (ev w it2 ρ').bind fun y => (lstR y).bind fun ys =>
      dcR (fun x => (tgR h x ρ').bind fun ρ'' => (ev w c ρ'').bind fun y => (blR y).bind fun b => if b then
        (ev w k ρ'').bind fun a => (ev w v ρ'').bind fun z => match a.ky with
          | some q => .ok (some (q, z))
          | none => .no
        else .ok none) ys acc) xs []).calm).bind fun ys => if ys.length ≤ LIM then .ok (.dic true ys) else .no

/-! ### statements -/
inductive S where
  | pass
  | seq (a b : S)
  | set (i : Nat) (e : C)
  | own (i : Nat) (e : C)
  | par (i j : Nat) (a b : C)
  | pa3 (i j k : Nat) (a b c : C)
  | unp (i j : Nat) (e : C)
  | app (i : Nat) (e : C)
  | ext (i : Nat) (e : C)
  | sti (i : Nat) (k e : C)
  | frz (i : Nat)
  | ex (e : C)
  | ret (e : C)
  | ife (c : C) (a b : S)
  | fr (g : Tg) (it : C) (b : S)
  | wh (c : C) (b : S)
  | brk
  | rz (c : Nat)
  | cio (i f : Nat) (as : C) (j : Nat)
  | try_ (i : Nat) (b : S) (h : S)
inductive Out where
  | nx (ρ : Env)
  | rt (d : D) (ρ : Env)
  | bk (ρ : Env)
  | rz (c : Nat) (ρ : Env)
  | no
/-- on with a value -/
def R.out {α : Type} (r : R α) (ρ : Env) (f : α → Out) : Out := match r with
  | .ok a => f a
  | .rz c => .rz c ρ
  | .no => .no
def Out.andThen : Out → (Env → Out) → Out
  | .nx ρ, f => f ρ
  | o, _ => o
def forR (g : Tg) (b : Env → Out) : List D → Env → Out
  | [], ρ => .nx ρ
  | x :: r, ρ => match tgR g x ρ with
    | .ok ρ' => match b ρ' with
      | .nx ρ'' => forR g b r ρ''
      | .bk ρ'' => .nx ρ''
      | o => o
    | _ => .no
def whR (c : Env → R Bool) (b : Env → Out) : Nat → Env → Out
  | 0, _ => .no
  | n + 1, ρ => match c ρ with
    | .ok true => match b ρ with
      | .nx ρ' => whR c b n ρ'
      | .bk ρ' => .nx ρ'
      | o => o
    | .ok false => .nx ρ
    | .rz x => .rz x ρ
    | .no => .no
/-- a list, a dict that is new -/
def fresh : D → Option Sl
  | .lst xs => some (.ol xs)
  | .dic b kvs => some (.od b kvs)
  | _ => none
/-- how often a while may turn -/
def TURNS : Nat := 1000000
structure Cw extends Cl where
  io : Nat → List D → List D → R (D × List D)
def exec (w : Cw) : S → Env → Out
  | .pass, ρ => .nx ρ
  | .seq a b, ρ => (exec w a ρ).andThen (exec w b)
  | .set i e, ρ => (ev w.toCl e ρ).out ρ fun d => .nx (setS ρ i (.sh d))
  | .own i e, ρ => (ev w.toCl e ρ).out ρ fun d => match fresh d with
    | some s => .nx (setS ρ i s)
    | none => .no
  | .par i j a b, ρ => (ev w.toCl a ρ).out ρ fun x => (ev w.toCl b ρ).out ρ fun y => .nx (setS (setS ρ i (.sh x)) j (.sh y))
  | .pa3 i j k a b c, ρ => (ev w.toCl a ρ).out ρ fun x => (ev w.toCl b ρ).out ρ fun y => (ev w.toCl c ρ).out ρ fun z => .nx (setS (setS (setS ρ i (.sh x)) j (.sh y)) k (.sh z))
  | .unp i j e, ρ => (ev w.toCl e ρ).out ρ fun d => match two d with
    | some (x, y) => .nx (setS (setS ρ i (.sh x)) j (.sh y))
    | none => .no
  | .app i e, ρ => (ev w.toCl e ρ).out ρ fun d => match getS ρ i with
    | .ol xs => if xs.length < LIM then .nx (setS ρ i (.ol (xs ++ [d]))) else .no
    | _ => .no
  | .ext i e, ρ => (ev w.toCl e ρ).out ρ fun d => match getS ρ i, d with
    | .ol xs, .lst ys => if xs.length + ys.length ≤ LIM then .nx (setS ρ i (.ol (xs ++ ys))) else .no
    | _, _ => .no
  | .sti i k e, ρ => (ev w.toCl e ρ).out ρ fun d => (ev w.toCl k ρ).out ρ fun q => match getS ρ i with
    | .ol xs => match q with
      | .int n => match ixN xs.length n with
        | some j => .nx (setS ρ i (.ol (xs.set j d)))
        | none => .no
      | _ => .no
    | .od b kvs => match q.ky with
      | some y => if y.kind == b && decide (kvs.length < LIM) then .nx (setS ρ i (.od b (kput kvs y d))) else .no
      | none => .no
    | _ => .no
  | .frz i, ρ => (slO (getS ρ i)).out ρ fun d => .nx (setS ρ i (.sh d))
  | .ex e, ρ => (ev w.toCl e ρ).out ρ fun _ => .nx ρ
  | .ret e, ρ => (ev w.toCl e ρ).out ρ fun d => .rt d ρ
  | .ife c a b, ρ => ((ev w.toCl c ρ).bind blR).out ρ fun k => if k then exec w a ρ else exec w b ρ
  | .fr g it b, ρ => ((ev w.toCl it ρ).bind lstR).out ρ fun xs => forR g (exec w b) xs ρ
  | .wh c b, ρ => whR (fun ρ => (ev w.toCl c ρ).bind blR) (exec w b) TURNS ρ
  | .brk, ρ => .bk ρ
  | .rz c, ρ => .rz c ρ
  | .cio i f as j, ρ => ((ev w.toCl as ρ).bind lstR).out ρ fun xs => match getS ρ j with
    | .ol ys => (w.io f xs ys).out ρ fun p => .nx (setS (setS ρ j (.ol p.2)) i (.sh p.1))
    | _ => .no
  | .try_ i b h, ρ => match exec w b ρ with
    | .rz c ρ' => if i < ρ'.length then match exec { w with x := some c } h (setS ρ' i .no) with
        | .nx ρ2 => .nx (setS ρ2 i .no)
        | .rt d ρ2 => .rt d (setS ρ2 i .no)
        | _ => .no
      else .no
    | o => o

/-! ### defs -/
/-- a def: how many parameters, how many slots, its body; io: its last parameter is a list that it may change -/
structure Fd where
  ps : Nat
  ns : Nat
  io : Bool
  body : S
def startE (n : Nat) (xs : List Sl) : Env := xs ++ List.replicate (n - xs.length) .no
def endR : Out → R D
  | .nx _ => .ok .non
  | .rt d _ => .ok d
  | .rz c _ => .rz c
  | _ => .no
def endIo (j : Nat) : Out → R (D × List D)
  | .nx ρ => match getS ρ j with
    | .ol xs => .ok (.non, xs)
    | _ => .no
  | .rt d ρ => match getS ρ j with
    | .ol xs => .ok (d, xs)
    | _ => .no
  | _ => .no
mutual
def run (T : Nat → Option Fd) : Nat → Nat → List D → R D
  | 0, _, _ => .no
  | n + 1, f, xs => match T f with
    | some fd => if fd.io then
        match xs.reverse with
        | .lst ys :: r => (runIo T n f r.reverse ys).bind fun p => .ok p.1
        | _ => .no
      else if xs.length = fd.ps then endR (exec { f := run T n, x := none, io := runIo T n } fd.body (startE fd.ns (xs.map .sh))) else .no
    | none => .no
def runIo (T : Nat → Option Fd) : Nat → Nat → List D → List D → R (D × List D)
  | 0, _, _, _ => .no
  | n + 1, f, xs, ys => match T f with
    | some fd => if fd.io && decide (xs.length + 1 = fd.ps) then endIo xs.length (exec { f := run T n, x := none, io := runIo T n } fd.body (startE fd.ns (xs.map .sh ++ [.ol ys]))) else .no
    | none => .no
end
end Mi

set_option Elab.async false
set_option linter.all false
set_option maxRecDepth 100000
set_option maxHeartbeats 4000000
/-! Mi, soundness 1: data and the values that bear them -/
namespace Mi
open PySem L2

abbrev AP_ := Addr → Prop
def toS (x : List Nat) : Str := ⟨x.toArray⟩
theorem toS_len (x : List Nat) : (toS x).length = x.length := by simp [toS, Str.length]
theorem toS_inj {x y : List Nat} (h : toS x = toS y) : x = y := by
  have := congrArg (fun s : Str => s.cps.toList) h
  simpa [toS] using this
theorem toS_app (x y : List Nat) : toS x ++ toS y = toS (x ++ y) := by
  show (⟨x.toArray ++ y.toArray⟩ : Str) = ⟨(x ++ y).toArray⟩
  simp
/-- a text of Python's -/
def OkS (x : List Nat) : Prop := x.length ≤ sizeLine ∧ ∀ c ∈ x, c < 0x110000
def AtOk : At → Prop
  | .inl _ => True
  | .inr x => OkS x
def keyOf : At → Key
  | .inl i => .inl i
  | .inr x => .inr (toS x)
theorem keyOf_inj {a b : At} (h : keyOf a = keyOf b) : a = b := by
  cases a <;> cases b <;> simp [keyOf] at h
  · rw [h]
  · rw [toS_inj h]
theorem keysOf_inj : ∀ {a b : List At}, a.map keyOf = b.map keyOf → a = b
  | [], [], _ => rfl
  | [], _ :: _, h => by simp at h
  | _ :: _, [], h => by simp at h
  | x :: a, y :: b, h => by
    simp only [List.map_cons, List.cons.injEq] at h
    rw [keyOf_inj h.1, keysOf_inj h.2]
/-- a list at a that is read: tracked (or known) and outside O, or an object of the module -/
def SqO (K : PySem.W.Frag) (O : AP_) (H : Hp) (a : Addr) (vs : List V) : Prop :=
  (¬ O a ∧ Rd H a (.lst vs)) ∨ ∃ (o : Obj) (its : Array Value) (n : Nat), K.lookup a = some o ∧ o.cls = .type "list" ∧ o.dict = none ∧ o.data = .seq its n ∧ its.size ≤ sizeLine ∧ Vals vs its.toList
theorem SqO.l {K : PySem.W.Frag} {O : AP_} {H : Hp} {a : Addr} {vs : List V} (h : SqO K O H a vs) : SqL K H a vs := by
  rcases h with ⟨_, h⟩ | h
  · exact .inl h
  · exact .inr h
mutual
/-- v bears d in H, all that is read stands outside O -/
inductive Rp (K : PySem.W.Frag) (O : AP_) (H : Hp) : V → D → Prop
  | non : Rp K O H .non .non
  | bl (b : Bool) : Rp K O H (.bl b) (.bl b)
  | int (i : Int) : Rp K O H (.int i) (.int i)
  | str (x : List Nat) : OkS x → Rp K O H (.str (toS x)) (.str x)
  | lst {a : Addr} {vs : List V} {ds : List D} : ¬ O a → H a = some (.lst vs) → Rps K O H vs ds → Rp K O H (.ref a) (.lst ds)
  | tup {a : Addr} {vs : List V} {ds : List D} : ¬ O a → H a = some (.tup vs) → Rps K O H vs ds → Rp K O H (.ref a) (.tup ds)
  | dk {a : Addr} {od : Obj} {kvs : List (Key × V)} {ks : KVs} : ¬ O a → H a = some (.frz od (.dK kvs)) → RKs K O H kvs ks → Rp K O H (.ref a) (.dic true ks)
  | dt {a : Addr} {od : Obj} {kvs : List (List Key × V)} {ks : KVs} : ¬ O a → H a = some (.frz od (.dT kvs)) → RTs K O H kvs ks → Rp K O H (.ref a) (.dic false ks)
  | scr {a : Addr} {ns : List Int} : SqO K O H a (ns.map V.int) → Rp K O H (.ref a) (.scr ns)
inductive Rps (K : PySem.W.Frag) (O : AP_) (H : Hp) : List V → List D → Prop
  | nil : Rps K O H [] []
  | cons {v : V} {vs : List V} {d : D} {ds : List D} : Rp K O H v d → Rps K O H vs ds → Rps K O H (v :: vs) (d :: ds)
inductive RKs (K : PySem.W.Frag) (O : AP_) (H : Hp) : List (Key × V) → KVs → Prop
  | nil : RKs K O H [] []
  | cons {k : At} {v : V} {d : D} {r : List (Key × V)} {s : KVs} : AtOk k → Rp K O H v d → RKs K O H r s → RKs K O H ((keyOf k, v) :: r) ((.a k, d) :: s)
inductive RTs (K : PySem.W.Frag) (O : AP_) (H : Hp) : List (List Key × V) → KVs → Prop
  | nil : RTs K O H [] []
  | cons {k : List At} {v : V} {d : D} {r : List (List Key × V)} {s : KVs} : (∀ x ∈ k, AtOk x) → Rp K O H v d → RTs K O H r s → RTs K O H ((k.map keyOf, v) :: r) ((.t k, d) :: s)
end
section
variable {K : PySem.W.Frag} {O O' : AP_} {H H' : Hp}
theorem SqO.keep {a : Addr} {vs : List V} (h : SqO K O H a vs) (ho : ∀ a, O' a → H a ≠ none → O a) (k : ∀ a u, ¬ O a → H a = some u → H' a = some u) : SqO K O' H' a vs := by
  rcases h with ⟨n, h⟩ | h
  · rcases h with h | ⟨o, h⟩
    · exact .inl ⟨fun z => n (ho a z (by rw [h]; simp)), .inl (k a _ n h)⟩
    · exact .inl ⟨fun z => n (ho a z (by rw [h]; simp)), .inr ⟨o, k a _ n h⟩⟩
  · exact .inr h
mutual
theorem Rp.keep {v : V} {d : D} (h : Rp K O H v d) (ho : ∀ a, O' a → H a ≠ none → O a) (k : ∀ a u, ¬ O a → H a = some u → H' a = some u) : Rp K O' H' v d := by
  cases h with
  | non => exact .non
  | bl b => exact .bl b
  | int i => exact .int i
  | str x l => exact .str x l
  | lst h1 h2 h3 => exact .lst (fun z => h1 (ho _ z (by rw [h2]; simp))) (k _ _ h1 h2) (h3.keep ho k)
  | scr h => exact .scr (h.keep ho k)
  | tup h1 h2 h3 => exact .tup (fun z => h1 (ho _ z (by rw [h2]; simp))) (k _ _ h1 h2) (h3.keep ho k)
  | dk h1 h2 h3 => exact .dk (fun z => h1 (ho _ z (by rw [h2]; simp))) (k _ _ h1 h2) (h3.keep ho k)
  | dt h1 h2 h3 => exact .dt (fun z => h1 (ho _ z (by rw [h2]; simp))) (k _ _ h1 h2) (h3.keep ho k)
theorem Rps.keep {v : List V} {d : List D} (h : Rps K O H v d) (ho : ∀ a, O' a → H a ≠ none → O a) (k : ∀ a u, ¬ O a → H a = some u → H' a = some u) : Rps K O' H' v d := by
  cases h with
  | nil => exact .nil
  | cons h1 h2 => exact .cons (h1.keep ho k) (h2.keep ho k)
theorem RKs.keep {v : List (Key × V)} {d : KVs} (h : RKs K O H v d) (ho : ∀ a, O' a → H a ≠ none → O a) (k : ∀ a u, ¬ O a → H a = some u → H' a = some u) : RKs K O' H' v d := by
  cases h with
  | nil => exact .nil
  | cons h0 h1 h2 => exact .cons h0 (h1.keep ho k) (h2.keep ho k)
theorem RTs.keep {v : List (List Key × V)} {d : KVs} (h : RTs K O H v d) (ho : ∀ a, O' a → H a ≠ none → O a) (k : ∀ a u, ¬ O a → H a = some u → H' a = some u) : RTs K O' H' v d := by
  cases h with
  | nil => exact .nil
  | cons h0 h1 h2 => exact .cons h0 (h1.keep ho k) (h2.keep ho k)
end
theorem Rp.more {v : V} {d : D} (h : Rp K O H v d) (e : Same H H') : Rp K O H' v d := h.keep (fun _ z _ => z) fun a u _ q => e a u q
theorem Rps.more {v : List V} {d : List D} (h : Rps K O H v d) (e : Same H H') : Rps K O H' v d := h.keep (fun _ z _ => z) fun a u _ q => e a u q
theorem Rps.length : ∀ {vs : List V} {ds : List D}, Rps K O H vs ds → vs.length = ds.length
  | _, _, .nil => rfl
  | _, _, .cons _ h => by simp [h.length]
theorem Rps.get : ∀ {vs : List V} {ds : List D} {i : Nat} {d : D}, Rps K O H vs ds → ds[i]? = some d → ∃ v, vs[i]? = some v ∧ Rp K O H v d
  | _, _, 0, _, .cons h _, e => by simp at e; subst e; exact ⟨_, rfl, h⟩
  | _, _, i + 1, _, .cons _ h, e => by
    obtain ⟨v, e1, h1⟩ := Rps.get (i := i) h (by simpa using e)
    exact ⟨v, by simpa using e1, h1⟩
theorem Rps.getV : ∀ {vs : List V} {ds : List D} {i : Nat} {v : V}, Rps K O H vs ds → vs[i]? = some v → ∃ d, ds[i]? = some d ∧ Rp K O H v d
  | _, _, 0, _, .cons h _, e => by simp at e; subst e; exact ⟨_, rfl, h⟩
  | _, _, i + 1, _, .cons _ h, e => by
    obtain ⟨v, e1, h1⟩ := Rps.getV (i := i) h (by simpa using e)
    exact ⟨v, by simpa using e1, h1⟩
theorem Rps.append : ∀ {vs ws : List V} {ds es : List D}, Rps K O H vs ds → Rps K O H ws es → Rps K O H (vs ++ ws) (ds ++ es)
  | _, _, _, _, .nil, h => h
  | _, _, _, _, .cons a r, h => .cons a (r.append h)
theorem Rps.take : ∀ {vs : List V} {ds : List D} (n : Nat), Rps K O H vs ds → Rps K O H (vs.take n) (ds.take n)
  | _, _, 0, _ => .nil
  | _, _, _ + 1, .nil => .nil
  | _, _, n + 1, .cons a r => .cons a (r.take n)
theorem Rps.drop : ∀ {vs : List V} {ds : List D} (n : Nat), Rps K O H vs ds → Rps K O H (vs.drop n) (ds.drop n)
  | _, _, 0, h => h
  | _, _, _ + 1, .nil => .nil
  | _, _, n + 1, .cons _ r => r.drop n
theorem Rps.set : ∀ {vs : List V} {ds : List D} {v : V} {d : D} (i : Nat), Rps K O H vs ds → Rp K O H v d → Rps K O H (vs.set i v) (ds.set i d)
  | _, _, _, _, _, .nil, _ => .nil
  | _, _, _, _, 0, .cons _ r, h => .cons h r
  | _, _, _, _, i + 1, .cons a r, h => .cons a (r.set i h)
theorem Rps.reverse {vs : List V} {ds : List D} (h : Rps K O H vs ds) : Rps K O H vs.reverse ds.reverse := by
  induction vs generalizing ds with
  | nil => cases h; exact .nil
  | cons v vs ih =>
    cases h with
    | cons a r =>
      rw [List.reverse_cons, List.reverse_cons]
      exact (ih r).append (.cons a .nil)
theorem Rps.map {f : D → D} {g : V → V} : ∀ {vs : List V} {ds : List D}, Rps K O H vs ds → (∀ v d, Rp K O H v d → Rp K O H (g v) (f d)) → Rps K O H (vs.map g) (ds.map f)
  | _, _, .nil, _ => .nil
  | _, _, .cons a r, k => .cons (k _ _ a) (r.map k)
theorem Rp.inv_non {v : V} (h : Rp K O H v .non) : v = .non := by cases h; rfl
theorem Rp.inv_bl {v : V} {b : Bool} (h : Rp K O H v (.bl b)) : v = .bl b := by cases h; rfl
theorem Rp.inv_int {v : V} {i : Int} (h : Rp K O H v (.int i)) : v = .int i := by cases h; rfl
theorem Rp.inv_str {v : V} {x : List Nat} (h : Rp K O H v (.str x)) : v = .str (toS x) ∧ OkS x := by cases h; exact ⟨rfl, by assumption⟩
theorem Rp.inv_lst {v : V} {ds : List D} (h : Rp K O H v (.lst ds)) : ∃ a vs, v = .ref a ∧ ¬ O a ∧ H a = some (.lst vs) ∧ Rps K O H vs ds := by cases h; exact ⟨_, _, rfl, by assumption, by assumption, by assumption⟩
theorem Rp.inv_scr {v : V} {ns : List Int} (h : Rp K O H v (.scr ns)) : ∃ a, v = .ref a ∧ SqL K H a (ns.map V.int) := by cases h with | scr h => exact ⟨_, rfl, h.l⟩
theorem Rp.inv_tup {v : V} {ds : List D} (h : Rp K O H v (.tup ds)) : ∃ a vs, v = .ref a ∧ ¬ O a ∧ H a = some (.tup vs) ∧ Rps K O H vs ds := by cases h; exact ⟨_, _, rfl, by assumption, by assumption, by assumption⟩
theorem Rp.inv_dk {v : V} {ks : KVs} (h : Rp K O H v (.dic true ks)) : ∃ a od kvs, v = .ref a ∧ ¬ O a ∧ H a = some (.frz od (.dK kvs)) ∧ RKs K O H kvs ks := by cases h; exact ⟨_, _, _, rfl, by assumption, by assumption, by assumption⟩
theorem Rp.inv_dt {v : V} {ks : KVs} (h : Rp K O H v (.dic false ks)) : ∃ a od kvs, v = .ref a ∧ ¬ O a ∧ H a = some (.frz od (.dT kvs)) ∧ RTs K O H kvs ks := by cases h; exact ⟨_, _, _, rfl, by assumption, by assumption, by assumption⟩
theorem Rps.ints : ∀ {vs : List V} {ds : List D} {ns : List Int}, Rps K O H vs ds → Mi.intsD ds = some ns → vs = ns.map V.int
  | _, _, ns, .nil, e => by simp [Mi.intsD] at e; subst e; rfl
  | _, d :: ds, ns, .cons h r, e => by
    cases d with
    | int i =>
      simp only [Mi.intsD, Option.map_eq_some_iff] at e
      obtain ⟨ms, e1, e2⟩ := e
      subst e2
      rw [h.inv_int, r.ints e1, List.map_cons]
    | _ => simp [Mi.intsD] at e
theorem Rps.bls : ∀ {vs : List V} {ds : List D} {ns : List Bool}, Rps K O H vs ds → Mi.blsD ds = some ns → vs = ns.map V.bl
  | _, _, ns, .nil, e => by simp [Mi.blsD] at e; subst e; rfl
  | _, d :: ds, ns, .cons h r, e => by
    cases d with
    | bl i =>
      simp only [Mi.blsD, Option.map_eq_some_iff] at e
      obtain ⟨ms, e1, e2⟩ := e
      subst e2
      rw [h.inv_bl, r.bls e1, List.map_cons]
    | _ => simp [Mi.blsD] at e
theorem Rps.strs : ∀ {vs : List V} {ds : List D} {ns : List (List Nat)}, Rps K O H vs ds → Mi.strsD ds = some ns → vs = (ns.map toS).map V.str
  | _, _, ns, .nil, e => by simp [Mi.strsD] at e; subst e; rfl
  | _, d :: ds, ns, .cons h r, e => by
    cases d with
    | str i =>
      simp only [Mi.strsD, Option.map_eq_some_iff] at e
      obtain ⟨ms, e1, e2⟩ := e
      subst e2
      rw [h.inv_str.1, r.strs e1, List.map_cons, List.map_cons]
    | _ => simp [Mi.strsD] at e
/-- what is made of values alone -/
theorem Rps.ofInts : ∀ ns : List Int, Rps K O H (ns.map V.int) (ns.map D.int)
  | [] => .nil
  | n :: r => .cons (.int n) (Rps.ofInts r)
end

/-! ### data as the library has it -/
mutual
def D.py : D → PyData
  | .non => .none
  | .bl b => .bool b
  | .int i => .int i
  | .str x => .str (toS x)
  | .lst xs => .list (pys xs)
  | .tup xs => .tuple (pys xs)
  | .dic _ _ => .none
  | .scr _ => .none
def pys : List D → List PyData
  | [] => []
  | x :: xs => x.py :: pys xs
end
theorem pys_map (xs : List D) : pys xs = xs.map D.py := by
  induction xs with
  | nil => rfl
  | cons x xs ih => rw [pys, ih]; rfl
mutual
theorem Rp.dp {K : PySem.W.Frag} {O : AP_} {H : Hp} {v : V} {d : D} {n : Nat} (h : Rp K O H v d) (hd : d.dat n = true) : Dp K H v d.py := by
  cases h with
  | non => exact .non
  | bl b => exact .bl b
  | int i => exact .int i
  | str x _ => exact .str _
  | scr _ => cases n <;> simp [D.dat] at hd
  | lst h1 h2 h3 =>
    cases n with
    | zero => simp [D.dat] at hd
    | succ n => rw [D.py]; exact .lst (.of h2) (h3.dp (by simpa [D.dat] using hd))
  | tup h1 h2 h3 =>
    cases n with
    | zero => simp [D.dat] at hd
    | succ n => rw [D.py]; exact .tup (.of h2) (h3.dp (by simpa [D.dat] using hd))
  | dk _ _ _ => cases n <;> simp [D.dat] at hd
  | dt _ _ _ => cases n <;> simp [D.dat] at hd
theorem Rps.dp {K : PySem.W.Frag} {O : AP_} {H : Hp} {v : List V} {d : List D} {n : Nat} (h : Rps K O H v d) (hd : ∀ x ∈ d, x.dat n = true) : DpAll K H v (pys d) := by
  cases h with
  | nil => exact .nil
  | cons h1 h2 => rw [pys]; exact .cons (h1.dp (hd _ List.mem_cons_self)) (h2.dp fun x hx => hd x (List.mem_cons_of_mem _ hx))
end
mutual
theorem Rp.lay {K : PySem.W.Frag} {O : AP_} {H : Hp} {v : V} {d : D} {n : Nat} (h : Rp K O H v d) (hd : d.dat n = true) : d.py.canLay0 = true := by
  cases h with
  | non => rw [D.py, PyData.canLay0]
  | bl b => rw [D.py, PyData.canLay0]
  | int i => rw [D.py, PyData.canLay0]
  | str x h =>
    rw [D.py, PyData.canLay0]
    show (x.toArray.all fun c => decide (c < 0x110000)) = true
    rw [List.all_toArray, List.all_eq_true]
    exact fun c hc => decide_eq_true (h.2 c hc)
  | scr _ => cases n <;> simp [D.dat] at hd
  | lst h1 h2 h3 =>
    cases n with
    | zero => simp [D.dat] at hd
    | succ n => rw [D.py, PyData.canLay0]; exact h3.lay (by simpa [D.dat] using hd)
  | tup h1 h2 h3 =>
    cases n with
    | zero => simp [D.dat] at hd
    | succ n => rw [D.py, PyData.canLay0]; exact h3.lay (by simpa [D.dat] using hd)
  | dk _ _ _ => cases n <;> simp [D.dat] at hd
  | dt _ _ _ => cases n <;> simp [D.dat] at hd
theorem Rps.lay {K : PySem.W.Frag} {O : AP_} {H : Hp} {v : List V} {d : List D} {n : Nat} (h : Rps K O H v d) (hd : ∀ x ∈ d, x.dat n = true) : PyData.canLayAll0 (pys d) = true := by
  cases h with
  | nil => rw [pys, PyData.canLayAll0]
  | cons h1 h2 =>
    rw [pys, PyData.canLayAll0, h1.lay (hd _ List.mem_cons_self), h2.lay fun x hx => hd x (List.mem_cons_of_mem _ hx)]
    rfl
end
mutual
theorem D.py_deep : ∀ d : D, ∀ n, d.dat n = true → d.py.depth ≤ n
  | .non, _, _ => by simp [D.py, PyData.depth]
  | .bl _, _, _ => by simp [D.py, PyData.depth]
  | .int _, _, _ => by simp [D.py, PyData.depth]
  | .str _, _, _ => by simp [D.py, PyData.depth]
  | .lst xs, 0, h => by simp [D.dat] at h
  | .tup xs, 0, h => by simp [D.dat] at h
  | .lst xs, n + 1, h => by
    have := pys_deep xs n (by simpa [D.dat] using h)
    rw [D.py, PyData.depth]; omega
  | .tup xs, n + 1, h => by
    have := pys_deep xs n (by simpa [D.dat] using h)
    rw [D.py, PyData.depth]; omega
  | .dic _ _, 0, h => by simp [D.dat] at h
  | .dic _ _, _ + 1, h => by simp [D.dat] at h
  | .scr _, 0, h => by simp [D.dat] at h
  | .scr _, _ + 1, h => by simp [D.dat] at h
theorem pys_deep : ∀ d : List D, ∀ n, (∀ x ∈ d, x.dat n = true) → PyData.depthAll (pys d) ≤ n
  | [], _, _ => by simp [pys, PyData.depthAll]
  | x :: xs, n, h => by
    have h1 := D.py_deep x n (h x List.mem_cons_self)
    have h2 := pys_deep xs n fun y hy => h y (List.mem_cons_of_mem _ hy)
    rw [pys, PyData.depthAll]
    omega
end
theorem Rp.shaped {K : PySem.W.Frag} {O : AP_} {H : Hp} {v : V} {d : D} {n : Nat} (r : Rp K O H v d) (h : d.dat n = true) (hn : n ≤ 64) : SeqAt.shaped d.py = true := by
  have h1 := r.lay h
  have h2 := D.py_deep d n h
  unfold SeqAt.shaped
  rw [h1, decide_eq_true (Nat.le_trans h2 hn)]
  rfl
theorem toS_beq (x y : List Nat) : (toS x == toS y) = (x == y) := by
  by_cases e : x = y
  · subst e; simp
  · have : ¬ toS x = toS y := fun z => e (toS_inj z)
    rw [beq_eq_false_iff_ne.mpr e, beq_eq_false_iff_ne.mpr this]
mutual
theorem D.py_eqv : ∀ (d e : D) (n m : Nat), d.dat n = true → e.dat m = true → PyData.eqv d.py e.py = D.eqv d e
  | .lst xs, .lst ys, n, m, h, h' => by
    rw [D.py, D.py, PyData.eqv, D.eqv]
    cases n with
    | zero => simp [D.dat] at h
    | succ n =>
      cases m with
      | zero => simp [D.dat] at h'
      | succ m => exact pys_eqv xs ys n m (by simpa [D.dat] using h) (by simpa [D.dat] using h')
  | .tup xs, .tup ys, n, m, h, h' => by
    rw [D.py, D.py, PyData.eqv, D.eqv]
    cases n with
    | zero => simp [D.dat] at h
    | succ n =>
      cases m with
      | zero => simp [D.dat] at h'
      | succ m => exact pys_eqv xs ys n m (by simpa [D.dat] using h) (by simpa [D.dat] using h')
  | .dic _ _, e, n, m, h, _ => by cases n <;> simp [D.dat] at h
  | d, .dic _ _, n, m, _, h => by cases m <;> simp [D.dat] at h
  | .scr _, e, n, m, h, _ => by cases n <;> simp [D.dat] at h
  | d, .scr _, n, m, _, h => by cases m <;> simp [D.dat] at h
  | .non, .non, _, _, _, _ => by simp [D.py, PyData.eqv, D.eqv]
  | .non, .bl _, _, _, _, _ => by simp [D.py, PyData.eqv, D.eqv]
  | .non, .int _, _, _, _, _ => by simp [D.py, PyData.eqv, D.eqv]
  | .non, .str _, _, _, _, _ => by simp [D.py, PyData.eqv, D.eqv]
  | .non, .lst _, _, _, _, _ => by simp [D.py, PyData.eqv, D.eqv]
  | .non, .tup _, _, _, _, _ => by simp [D.py, PyData.eqv, D.eqv]
  | .bl _, .non, _, _, _, _ => by simp [D.py, PyData.eqv, D.eqv]
  | .bl _, .bl _, _, _, _, _ => by simp [D.py, PyData.eqv, D.eqv]
  | .bl a, .int _, _, _, _, _ => by cases a <;> simp [D.py, PyData.eqv, D.eqv, b2i]
  | .bl _, .str _, _, _, _, _ => by simp [D.py, PyData.eqv, D.eqv]
  | .bl _, .lst _, _, _, _, _ => by simp [D.py, PyData.eqv, D.eqv]
  | .bl _, .tup _, _, _, _, _ => by simp [D.py, PyData.eqv, D.eqv]
  | .int _, .non, _, _, _, _ => by simp [D.py, PyData.eqv, D.eqv]
  | .int _, .bl a, _, _, _, _ => by cases a <;> simp [D.py, PyData.eqv, D.eqv, b2i]
  | .int _, .int _, _, _, _, _ => by simp [D.py, PyData.eqv, D.eqv]
  | .int _, .str _, _, _, _, _ => by simp [D.py, PyData.eqv, D.eqv]
  | .int _, .lst _, _, _, _, _ => by simp [D.py, PyData.eqv, D.eqv]
  | .int _, .tup _, _, _, _, _ => by simp [D.py, PyData.eqv, D.eqv]
  | .str _, .non, _, _, _, _ => by simp [D.py, PyData.eqv, D.eqv]
  | .str _, .bl _, _, _, _, _ => by simp [D.py, PyData.eqv, D.eqv]
  | .str _, .int _, _, _, _, _ => by simp [D.py, PyData.eqv, D.eqv]
  | .str x, .str y, _, _, _, _ => by rw [D.py, D.py, PyData.eqv, D.eqv]; exact toS_beq x y
  | .str _, .lst _, _, _, _, _ => by simp [D.py, PyData.eqv, D.eqv]
  | .str _, .tup _, _, _, _, _ => by simp [D.py, PyData.eqv, D.eqv]
  | .lst _, .non, _, _, _, _ => by simp [D.py, PyData.eqv, D.eqv]
  | .lst _, .bl _, _, _, _, _ => by simp [D.py, PyData.eqv, D.eqv]
  | .lst _, .int _, _, _, _, _ => by simp [D.py, PyData.eqv, D.eqv]
  | .lst _, .str _, _, _, _, _ => by simp [D.py, PyData.eqv, D.eqv]
  | .lst _, .tup _, _, _, _, _ => by simp [D.py, PyData.eqv, D.eqv]
  | .tup _, .non, _, _, _, _ => by simp [D.py, PyData.eqv, D.eqv]
  | .tup _, .bl _, _, _, _, _ => by simp [D.py, PyData.eqv, D.eqv]
  | .tup _, .int _, _, _, _, _ => by simp [D.py, PyData.eqv, D.eqv]
  | .tup _, .str _, _, _, _, _ => by simp [D.py, PyData.eqv, D.eqv]
  | .tup _, .lst _, _, _, _, _ => by simp [D.py, PyData.eqv, D.eqv]
theorem pys_eqv : ∀ (d e : List D) (n m : Nat), (∀ x ∈ d, x.dat n = true) → (∀ x ∈ e, x.dat m = true) → PyData.eqvAll (pys d) (pys e) = eqvs d e
  | [], [], _, _, _, _ => by simp [pys, PyData.eqvAll, eqvs]
  | [], _ :: _, _, _, _, _ => by simp [pys, PyData.eqvAll, eqvs]
  | _ :: _, [], _, _, _, _ => by simp [pys, PyData.eqvAll, eqvs]
  | x :: xs, y :: ys, n, m, h, h' => by
    rw [pys, pys, PyData.eqvAll, eqvs, D.py_eqv x y n m (h x List.mem_cons_self) (h' y List.mem_cons_self),
      pys_eqv xs ys n m (fun z hz => h z (List.mem_cons_of_mem _ hz)) fun z hz => h' z (List.mem_cons_of_mem _ hz)]
end
end Mi

set_option Elab.async false
set_option linter.all false
set_option maxRecDepth 100000
set_option maxHeartbeats 4000000
/-! Mi, soundness 2: the state, the judgement of expressions -/
namespace Mi
open PySem L2

def Sl.own : Sl → Bool
  | .ol _ => true
  | .od _ _ => true
  | _ => false
def Own (σ : St) (ρ : Env) : AP_ := fun a => ∃ i, (getS ρ i).own = true ∧ σ[i]? = some (some (.ref a))
/-- what a value must not read: the callers' own, this def's own -/
def OO (O : AP_) (σ : St) (ρ : Env) : AP_ := fun a => O a ∨ Own σ ρ a
def SlR (K : PySem.W.Frag) (O : AP_) (H : Hp) (x : Option (Option V)) : Sl → Prop
  | .no => True
  | .sh d => ∃ v, x = some (some v) ∧ Rp K O H v d
  | .ol xs => ∃ p vs, x = some (some (.ref p)) ∧ H p = some (.lst vs) ∧ Rps K O H vs xs
  | .od true ks => ∃ p kvs, x = some (some (.ref p)) ∧ H p = some (.dK kvs) ∧ RKs K O H kvs ks
  | .od false ks => ∃ p kvs, x = some (some (.ref p)) ∧ H p = some (.dT kvs) ∧ RTs K O H kvs ks
/-- what may stand at an own slot -/
def OwnO : HO → Prop
  | .lst _ => True
  | .dK _ => True
  | .dT _ => True
  | _ => False
/-- what a body knows ahead: the classes by their numbers; the slot and the address of the exception that its suite handles -/
structure Gx where
  cl : Nat → Addr
  ex : Option (Nat × Addr)
def Gx.no (g : Gx) (i : Nat) : Prop := ∀ a, g.ex ≠ some (i, a)
structure StR (K : PySem.W.Frag) (cl : Gx) (O : AP_) (H0 : Hp) (σ : St) (H : Hp) (ρ : Env) : Prop where
  same : Same H0 H
  odom : ∀ a, O a → ∃ o, H0 a = some o ∧ OwnO o
  own : ∀ a, Own σ ρ a → H0 a = none
  inj : ∀ i j a, (getS ρ i).own = true → (getS ρ j).own = true → σ[i]? = some (some (.ref a)) → σ[j]? = some (some (.ref a)) → i = j
  sl : ∀ i, SlR K (OO O σ ρ) H σ[i]? (getS ρ i)
  len : ρ.length = σ.length
  z : ∀ i a, cl.ex = some (i, a) → σ[i]? = some (some (.ref a))
section
variable {K : PySem.W.Frag} {cl : Gx} {O O' : AP_} {H0 H H' : Hp} {σ : St} {ρ : Env}
theorem SlR.keep {x : Option (Option V)} {y : Sl} (h : SlR K O H x y) (ho : ∀ a, O' a → H a ≠ none → O a) (k : ∀ a u, ¬ O a → H a = some u → H' a = some u) (kp : ∀ p, y.own = true → x = some (some (.ref p)) → H' p = H p) : SlR K O' H' x y := by
  match y, h with
  | .no, _ => trivial
  | .sh d, ⟨v, e, r⟩ => exact ⟨v, e, r.keep ho k⟩
  | .ol xs, ⟨p, vs, e, hp, r⟩ => exact ⟨p, vs, e, by rw [kp p rfl e]; exact hp, r.keep ho k⟩
  | .od true ks, ⟨p, vs, e, hp, r⟩ => exact ⟨p, vs, e, by rw [kp p rfl e]; exact hp, r.keep ho k⟩
  | .od false ks, ⟨p, vs, e, hp, r⟩ => exact ⟨p, vs, e, by rw [kp p rfl e]; exact hp, r.keep ho k⟩
theorem OwnO.mut {o : HO} (h : OwnO o) : Mut (some o) := by cases o <;> first | trivial | exact h.elim
theorem StR.at (st : StR K cl O H0 σ H ρ) {a : Addr} (h : Own σ ρ a) : ∃ o, H a = some o ∧ OwnO o := by
  obtain ⟨i, h1, h2⟩ := h
  have q := st.sl i
  generalize getS ρ i = y at h1 q
  match y, q with
  | .no, _ => exact absurd h1 (by simp [Sl.own])
  | .sh d, _ => exact absurd h1 (by simp [Sl.own])
  | .ol xs, ⟨p, vs, e, hp, r⟩ =>
    rw [h2] at e
    have e' : a = p := V.ref.inj (Option.some.inj (Option.some.inj e))
    subst e'
    exact ⟨_, hp, trivial⟩
  | .od true ks, ⟨p, vs, e, hp, r⟩ =>
    rw [h2] at e
    have e' : a = p := V.ref.inj (Option.some.inj (Option.some.inj e))
    subst e'
    exact ⟨_, hp, trivial⟩
  | .od false ks, ⟨p, vs, e, hp, r⟩ =>
    rw [h2] at e
    have e' : a = p := V.ref.inj (Option.some.inj (Option.some.inj e))
    subst e'
    exact ⟨_, hp, trivial⟩
theorem StR.dom (st : StR K cl O H0 σ H ρ) : ∀ a, OO O σ ρ a → H a ≠ none := fun a h => by
  rcases h with h | h
  · obtain ⟨o, e, _⟩ := st.odom a h
    rw [st.same a o e]; simp
  · obtain ⟨o, e, _⟩ := st.at h
    rw [e]; simp
/-- what is not to be read is a list, a dict -/
theorem StR.ownO (st : StR K cl O H0 σ H ρ) {a : Addr} (h : OO O σ ρ a) : ∃ o, H a = some o ∧ OwnO o := by
  rcases h with h | h
  · obtain ⟨o, e, w⟩ := st.odom a h
    exact ⟨o, st.same a o e, w⟩
  · exact st.at h
theorem StR.more (st : StR K cl O H0 σ H ρ) (e : Same H H') : StR K cl O H0 σ H' ρ := by
  refine ⟨st.same.trans e, st.odom, st.own, st.inj, fun i => (st.sl i).keep (fun _ z _ => z) (fun a u _ q => e a u q) fun p h1 h2 => ?_, st.len, st.z⟩
  obtain ⟨o, h, _⟩ := st.at ⟨i, h1, h2⟩
  rw [h, e p o h]
theorem same_upd {a : Addr} {o : HO} (h : H a = none) : Same H (upd H a o) := fun b x e => by
  rw [upd_ne (ne_of_none e h)]
  exact e
end

/-- the same for expressions: nothing is changed there -/
structure StE (K : PySem.W.Frag) (cl : Gx) (O : AP_) (σ : St) (H : Hp) (ρ : Env) : Prop where
  odom : ∀ a, O a → ∃ o, H a = some o ∧ OwnO o
  sl : ∀ i, SlR K (OO O σ ρ) H σ[i]? (getS ρ i)
  len : ρ.length = σ.length
  z : ∀ i a, cl.ex = some (i, a) → σ[i]? = some (some (.ref a))
theorem StR.e {K : PySem.W.Frag} {cl : Gx} {O : AP_} {H0 H : Hp} {σ : St} {ρ : Env} (st : StR K cl O H0 σ H ρ) : StE K cl O σ H ρ := ⟨fun a h => by
  obtain ⟨o, e, w⟩ := st.odom a h
  exact ⟨o, st.same a o e, w⟩, st.sl, st.len, st.z⟩
section
variable {K : PySem.W.Frag} {cl : Gx} {O : AP_} {H H' : Hp} {σ : St} {ρ : Env}
theorem StE.at (st : StE K cl O σ H ρ) {a : Addr} (h : Own σ ρ a) : ∃ o, H a = some o ∧ OwnO o := by
  obtain ⟨i, h1, h2⟩ := h
  have q := st.sl i
  generalize getS ρ i = y at h1 q
  match y, q with
  | .no, _ => exact absurd h1 (by simp [Sl.own])
  | .sh d, _ => exact absurd h1 (by simp [Sl.own])
  | .ol xs, ⟨p, vs, e, hp, r⟩ =>
    rw [h2] at e
    have e' : a = p := V.ref.inj (Option.some.inj (Option.some.inj e))
    subst e'
    exact ⟨_, hp, trivial⟩
  | .od true ks, ⟨p, vs, e, hp, r⟩ =>
    rw [h2] at e
    have e' : a = p := V.ref.inj (Option.some.inj (Option.some.inj e))
    subst e'
    exact ⟨_, hp, trivial⟩
  | .od false ks, ⟨p, vs, e, hp, r⟩ =>
    rw [h2] at e
    have e' : a = p := V.ref.inj (Option.some.inj (Option.some.inj e))
    subst e'
    exact ⟨_, hp, trivial⟩
theorem StE.ownO (st : StE K cl O σ H ρ) {a : Addr} (h : OO O σ ρ a) : ∃ o, H a = some o ∧ OwnO o := by
  rcases h with h | h
  · exact st.odom a h
  · exact st.at h
theorem StE.dom (st : StE K cl O σ H ρ) : ∀ a, OO O σ ρ a → H a ≠ none := fun a h => by
  obtain ⟨o, e, _⟩ := st.ownO h
  rw [e]; simp
theorem StE.more (st : StE K cl O σ H ρ) (e : Same H H') : StE K cl O σ H' ρ := by
  refine ⟨fun a h => ?_, fun i => (st.sl i).keep (fun _ z _ => z) (fun a u _ q => e a u q) fun p h1 h2 => ?_, st.len, st.z⟩
  · obtain ⟨o, h1, h2⟩ := st.odom a h
    exact ⟨o, e a o h1, h2⟩
  · obtain ⟨o, h, _⟩ := st.at ⟨i, h1, h2⟩
    rw [h, e p o h]
end
/-! ### the reading of an expression by what it is worth -/
section
variable (K : PySem.W.Frag) (cl : Gx) (O : AP_) (W : WX) (ρ : Env)
/-- what is wanted of a result: of a value, of a raised class -/
def RQ (σ : St) (H : Hp) (Q : VK) : R D → Prop
  | .ok d => ∀ v H', Same H H' → Rp K (OO O σ ρ) H' v d → Q v H'
  | .rz c => ∀ H', Same H H' → W (.ref (cl.cl c)) none σ H'
  | .no => False
def tE (f : R D) : TE := fun σ H Q => StE K cl O σ H ρ ∧ RQ K cl O W ρ σ H Q f
end
section
variable {K : PySem.W.Frag} {cl : Gx} {O : AP_} {H H' : Hp} {W : WX} {ρ : Env} {σ : St} {Q : VK} {f : R D}
theorem RQ.more (h : RQ K cl O W ρ σ H Q f) (e : Same H H') : RQ K cl O W ρ σ H' Q f := by
  cases f with
  | ok d => exact fun v H2 s r => h v H2 (e.trans s) r
  | rz c => exact fun H2 s => h H2 (e.trans s)
  | no => exact h
/-- on with the value -/
theorem tE.bind {g : D → R D} {P : VK} (h : tE K cl O W ρ (f.bind g) σ H Q)
    (k : ∀ v d H1, StE K cl O σ H1 ρ → Same H H1 → Rp K (OO O σ ρ) H1 v d → f = .ok d → RQ K cl O W ρ σ H1 Q (g d) → P v H1) : tE K cl O W ρ f σ H P := by
  refine ⟨h.1, ?_⟩
  have q := h.2
  cases f with
  | ok d => exact fun v H1 s r => k v d H1 (h.1.more s) s r rfl (RQ.more q s)
  | rz c => exact q
  | no => exact q
theorem RQ.bind {g : D → R D} {P : VK} (h : RQ K cl O W ρ σ H Q (f.bind g))
    (k : ∀ v d H1, Same H H1 → Rp K (OO O σ ρ) H1 v d → f = .ok d → RQ K cl O W ρ σ H1 Q (g d) → P v H1) : RQ K cl O W ρ σ H P f := by
  cases f with
  | ok d => exact fun v H1 s r => k v d H1 s r rfl (RQ.more h s)
  | rz c => exact h
  | no => exact h
end

/-- e is worth f -/
structure DE (X : Cx) (cl : Gx) (W : WX) (e : Expr) (f : Env → R D) : Prop where
  run : ∀ (O : AP_) (ρ : Env), PE X e (tE X.K cl O W ρ (f ρ))
theorem _root_.L2.PE.imp {X : Cx} {e : Expr} {t t' : TE} (h : PE X e t) (k : ∀ σ H Q, t' σ H Q → t σ H Q) : PE X e t' := ⟨fun pins s σ H Q I q => h.run pins s σ H Q I (k σ H Q q)⟩
theorem _root_.L2.PT.imp {X : Cx} {e : Expr} {t t' : TT} (h : PT X e t) (k : ∀ σ H Q, t' σ H Q → t σ H Q) : PT X e t' := ⟨fun pins s σ H Q I q => h.run pins s σ H Q I (k σ H Q q)⟩
theorem _root_.L2.PA.imp {X : Cx} {e : List Expr} {t t' : TA} (h : PA X e t) (k : ∀ σ H Q, t' σ H Q → t σ H Q) : PA X e t' := ⟨fun pos pins s σ H Q I q => h.run pos pins s σ H Q I (k σ H Q q)⟩
theorem _root_.L2.PS.imp {X : Cx} {e : Stmt} {t t' : TS} (h : PS X e t) (k : ∀ D σ H, t' D σ H → t D σ H) : PS X e t' := ⟨fun pins s σ H Q I q => h.run pins s σ H Q I (k Q σ H q)⟩
theorem _root_.L2.PSs.imp {X : Cx} {e : List Stmt} {t t' : TS} (h : PSs X e t) (k : ∀ D σ H, t' D σ H → t D σ H) : PSs X e t' := ⟨fun pins s σ H Q I q => h.run pins s σ H Q I (k Q σ H q)⟩

/-! ### operations by values -/
/-- f of two values is g of their data -/
def OpD (X : Cx) (f : Value → Value → Sem Value) (g : D → D → R D) : Prop :=
  (∀ x y c, g x y ≠ .rz c) ∧ ∀ (O : AP_), OpR X f (fun x y H Q => (∀ a, O a → H a ≠ none) ∧ ∃ d e z, Rp X.K O H x d ∧ Rp X.K O H y e ∧ g d e = .ok z ∧ ∀ v H', Same H H' → Rp X.K O H' v z → Q v H')
def UnD (X : Cx) (f : Value → Sem Value) (g : D → R D) : Prop :=
  (∀ x c, g x ≠ .rz c) ∧ ∀ (O : AP_), UnR X f (fun x H Q => (∀ a, O a → H a ≠ none) ∧ ∃ d z, Rp X.K O H x d ∧ g d = .ok z ∧ ∀ v H', Same H H' → Rp X.K O H' v z → Q v H')
section
variable {X : Cx} {cl : Gx} {W : WX} {a b c : Expr} {fa fb fc : Env → R D} {pos : Pos}
/-- the end of an operation: the value's rule from what is wanted -/
theorem OpD.end {f : Value → Value → Sem Value} {g : D → D → R D} (h : OpD X f g) {O : AP_} {ρ : Env} {σ : St} {H : Hp} {Q : VK} {x y : V} {d e : D} (dom : ∀ a, OO O σ ρ a → H a ≠ none) (rx : Rp X.K (OO O σ ρ) H x d) (ry : Rp X.K (OO O σ ρ) H y e)
    (q : RQ X.K cl O W ρ σ H Q (g d e)) : (fun x y H Q => (∀ a, OO O σ ρ a → H a ≠ none) ∧ ∃ d e z, Rp X.K (OO O σ ρ) H x d ∧ Rp X.K (OO O σ ρ) H y e ∧ g d e = .ok z ∧ ∀ v H', Same H H' → Rp X.K (OO O σ ρ) H' v z → Q v H' : R2) x y H Q := by
  refine ⟨dom, d, e, ?_⟩
  cases hz : g d e with
  | ok z => rw [hz] at q; exact ⟨z, rx, ry, rfl, q⟩
  | rz c => exact absurd hz (h.1 d e c)
  | no => rw [hz] at q; exact q.elim
theorem UnD.end {f : Value → Sem Value} {g : D → R D} (h : UnD X f g) {O : AP_} {ρ : Env} {σ : St} {H : Hp} {Q : VK} {x : V} {d : D} (dom : ∀ a, OO O σ ρ a → H a ≠ none) (rx : Rp X.K (OO O σ ρ) H x d)
    (q : RQ X.K cl O W ρ σ H Q (g d)) : (fun x H Q => (∀ a, OO O σ ρ a → H a ≠ none) ∧ ∃ d z, Rp X.K (OO O σ ρ) H x d ∧ g d = .ok z ∧ ∀ v H', Same H H' → Rp X.K (OO O σ ρ) H' v z → Q v H' : V → Hp → VK → Prop) x H Q := by
  refine ⟨dom, d, ?_⟩
  cases hz : g d with
  | ok z => rw [hz] at q; exact ⟨z, rx, rfl, q⟩
  | rz c => exact absurd hz (h.1 d c)
  | no => rw [hz] at q; exact q.elim
/-- two expressions and an operation: for what the library runs in that order -/
theorem de_two {f : Value → Value → Sem Value} {g : D → D → R D} (h : OpD X f g) {O : AP_} {ρ : Env} {σ : St} {H : Hp} {Q : VK} (q : tE X.K cl O W ρ ((fa ρ).bind fun x => (fb ρ).bind fun y => g x y) σ H Q) :
    tOp (fun x y H Q => (∀ a, OO O σ ρ a → H a ≠ none) ∧ ∃ d e z, Rp X.K (OO O σ ρ) H x d ∧ Rp X.K (OO O σ ρ) H y e ∧ g d e = .ok z ∧ ∀ v H', Same H H' → Rp X.K (OO O σ ρ) H' v z → Q v H') (tE X.K cl O W ρ (fa ρ)) (tE X.K cl O W ρ (fb ρ)) σ H Q := by
  refine tE.bind q fun x d H1 st1 s1 r1 _ q1 => ?_
  exact tE.bind ⟨st1, q1⟩ fun y e H2 st2 s2 r2 _ q2 => h.end st2.dom (r1.more s2) r2 q2
theorem de_op {op : Operator} {g : D → D → R D} (h : OpD X (binaryOp op) g) (ha : DE X cl W a fa) (hb : DE X cl W b fb) : DE X cl W (.BinOp a op b pos) fun ρ => (fa ρ).bind fun x => (fb ρ).bind fun y => g x y :=
  ⟨fun O ρ => ⟨fun pins s σ H Q I q => (pe_op (h.2 (OO O σ ρ)) (ha.run O ρ) (hb.run O ρ)).run pins s σ H Q I (de_two h q)⟩⟩
theorem de_cmp {op : CmpOp} {g : D → D → R D} (h : OpD X (compareOp op) g) (ha : DE X cl W a fa) (hb : DE X cl W b fb) (hm : behindInMarks op b = false) : DE X cl W (.Compare a [op] [b] pos) fun ρ => (fa ρ).bind fun x => (fb ρ).bind fun y => g x y :=
  ⟨fun O ρ => ⟨fun pins s σ H Q I q => (pe_cmpR (h.2 (OO O σ ρ)) (ha.run O ρ) (hb.run O ρ) hm).run pins s σ H Q I (de_two h q)⟩⟩
theorem de_un {op : UnaryOp} {g : D → R D} (h : UnD X (unaryOp op) g) (ha : DE X cl W a fa) : DE X cl W (.UnaryOp op a pos) fun ρ => (fa ρ).bind g :=
  ⟨fun O ρ => ⟨fun pins s σ H Q I q => (pe_un (h.2 (OO O σ ρ)) (ha.run O ρ)).run pins s σ H Q I (tE.bind q fun x d H1 st1 s1 r1 _ q1 => h.end st1.dom r1 q1)⟩⟩
/-! ### constants, names -/
theorem de_const {e : Expr} {v : V} {d : D} (h : PE X e (tC v)) (r : ∀ O H, Rp X.K O H v d) : DE X cl W e fun _ => .ok d :=
  ⟨fun O ρ => h.imp fun σ H Q q => q.2 v H (Same.refl H) (r _ _)⟩
theorem de_var {i : Nat} {x : Str} {pos : Pos} (hN : X.N[i]? = some x) (hv : Vis X.env.scope x) (hd : (x == ("__debug__" : Str)) = false) (hcd : (x == ("__classdict__" : Str)) = false) : DE X cl W (.Name x pos) fun ρ => slD (getS ρ i) :=
  ⟨fun O ρ => (pe_var hN hv hd hcd).imp fun σ H Q q => by
    obtain ⟨st, q⟩ := q
    have z := st.sl i
    generalize getS ρ i = y at z q
    match y, z, q with
    | .sh d, ⟨v, e, r⟩, q => exact ⟨v, e, q v H (Same.refl H) r⟩⟩
/-- a name that the def alone holds, lent: for the value it stands at -/
theorem slO_at {O : AP_} {ρ : Env} {σ : St} {H : Hp} {i : Nat} {d : D} (st : StE X.K cl O σ H ρ) (h : slO (getS ρ i) = .ok d) : ∃ p, σ[i]? = some (some (.ref p)) ∧
    ((∃ xs vs, d = .lst xs ∧ H p = some (.lst vs) ∧ Rps X.K (OO O σ ρ) H vs xs) ∨ (∃ ks kvs, d = .dic true ks ∧ H p = some (.dK kvs) ∧ RKs X.K (OO O σ ρ) H kvs ks) ∨ ∃ ks kvs, d = .dic false ks ∧ H p = some (.dT kvs) ∧ RTs X.K (OO O σ ρ) H kvs ks) := by
  have z := st.sl i
  generalize getS ρ i = y at z h
  match y, z, h with
  | .ol xs, ⟨p, vs, e, hp, r⟩, h => exact ⟨p, e, .inl ⟨xs, vs, by cases h; rfl, hp, r⟩⟩
  | .od true ks, ⟨p, vs, e, hp, r⟩, h => exact ⟨p, e, .inr (.inl ⟨ks, vs, by cases h; rfl, hp, r⟩)⟩
  | .od false ks, ⟨p, vs, e, hp, r⟩, h => exact ⟨p, e, .inr (.inr ⟨ks, vs, by cases h; rfl, hp, r⟩)⟩
end

/-! ### tests -/
/-- e's truth is f -/
structure DT (X : Cx) (cl : Gx) (W : WX) (e : Expr) (f : Env → R D) : Prop where
  run : ∀ (O : AP_) (ρ : Env), PT X e (tTest (tE X.K cl O W ρ (f ρ)))
/-- a test's reading: a bool is wanted -/
def tTB (K : PySem.W.Frag) (cl : Gx) (O : AP_) (W : WX) (ρ : Env) (f : R D) : TT := fun σ H Q => StE K cl O σ H ρ ∧ (match f with
  | .ok d => ∃ b, d = .bl b ∧ ∀ H', Same H H' → Q b H'
  | .rz c => ∀ H', Same H H' → W (.ref (cl.cl c)) none σ H'
  | .no => False)
theorem tTB.test {K : PySem.W.Frag} {cl : Gx} {O : AP_} {H : Hp} {W : WX} {ρ : Env} {σ : St} {f : R D} {Q : Bool → Hp → Prop} (h : tTB K cl O W ρ f σ H Q) : tTest (tE K cl O W ρ f) σ H Q := by
  refine ⟨h.1, ?_⟩
  have q := h.2
  cases f with
  | ok d =>
    obtain ⟨b, rfl, q⟩ := q
    exact fun v H1 s r => ⟨b, r.inv_bl, q H1 s⟩
  | rz c => exact q
  | no => exact q
theorem DT.tb {X : Cx} {cl : Gx} {W : WX} {e : Expr} {f : Env → R D} (h : DT X cl W e f) (O : AP_) (ρ : Env) : PT X e (tTB X.K cl O W ρ (f ρ)) := (h.run O ρ).imp fun _ _ _ q => q.test
theorem dt_val {X : Cx} {cl : Gx} {W : WX} {e : Expr} {f : Env → R D} (h : DE X cl W e f) (he : ∀ whole, isTrue e X.env whole = (do let v ← whole; standAt e.pos; holding [v] (truthy v))) : DT X cl W e f :=
  ⟨fun O ρ => (pt_val (h.run O ρ) he).imp fun σ H Q q => q⟩
end Mi

set_option Elab.async false
set_option linter.all false
set_option maxRecDepth 100000
set_option maxHeartbeats 4000000
/-! Mi, soundness 3: and, or, not, if; argument lists, displays -/
namespace Mi
open PySem L2
section
variable {X : Cx} {cl : Gx} {W : WX} {a b c : Expr} {es rest : List Expr} {fa fb fc : Env → R D} {pos : Pos}
theorem blR_bl {K : PySem.W.Frag} {O : AP_} {H : Hp} {v : V} {d : D} {b : Bool} (r : Rp K O H v d) (e : blR d = .ok b) : d = .bl b ∧ v = .bl b := by
  cases d with
  | bl c => cases e; exact ⟨rfl, r.inv_bl⟩
  | _ => cases e
/-- what stands behind a test -/
theorem tE.test {K : PySem.W.Frag} {O : AP_} {H : Hp} {ρ : Env} {σ : St} {f : R D} {g : Bool → R D} {Q : VK} {P : Bool → Hp → Prop} (q : tE K cl O W ρ (f.bind fun x => (blR x).bind g) σ H Q)
    (k : ∀ b H1, StE K cl O σ H1 ρ → Same H H1 → RQ K cl O W ρ σ H1 Q (g b) → P b H1) : tTest (tE K cl O W ρ f) σ H P := by
  refine tE.bind q fun x d H1 st1 s1 r1 _ q1 => ?_
  cases hb : blR d with
  | ok b =>
    rw [hb] at q1
    exact ⟨b, (blR_bl r1 hb).2, k b H1 st1 s1 q1⟩
  | rz c => cases d <;> cases hb
  | no => rw [hb] at q1; exact q1.elim
/-- the same where the test's value is what follows -/
theorem tE.testB {K : PySem.W.Frag} {O : AP_} {H : Hp} {ρ : Env} {σ : St} {f : R D} {g : Bool → R D} {P : Bool → Hp → Prop} (q : tTest (tE K cl O W ρ (f.bind fun x => (blR x).bind g)) σ H P)
    {P' : Bool → Hp → Prop} (k : ∀ b H1, StE K cl O σ H1 ρ → Same H H1 → tTest (tE K cl O W ρ (g b)) σ H1 P → P' b H1) : tTest (tE K cl O W ρ f) σ H P' :=
  tE.test q fun b H1 st s q1 => k b H1 st s ⟨st, q1⟩
theorem tE.true {K : PySem.W.Frag} {O : AP_} {H : Hp} {ρ : Env} {σ : St} {b : Bool} {P : Bool → Hp → Prop} (q : tTest (tE K cl O W ρ (.ok (.bl b))) σ H P) : P b H := by
  obtain ⟨k, e, q⟩ := q.2 (.bl b) H (Same.refl H) (.bl b)
  cases e
  exact q
theorem de_one {op : BoolOp} (h : DE X cl W a fa) : DE X cl W (.BoolOp op [a] pos) fa := ⟨fun O ρ => pe_one (h.run O ρ)⟩
theorem de_and (ha : DE X cl W a fa) (hb : DE X cl W (.BoolOp .And (b :: rest) pos) fb) : DE X cl W (.BoolOp .And (a :: b :: rest) pos) fun ρ => (fa ρ).bind fun x => (blR x).bind fun k => if k then fb ρ else .ok (.bl false) :=
  ⟨fun O ρ => (pe_and (ha.run O ρ) (hb.run O ρ)).imp fun σ H Q q => by
    refine tE.bind q fun x d H1 st1 s1 r1 _ q1 => ?_
    cases hb : blR d with
    | ok b =>
      rw [hb] at q1
      refine ⟨b, (blR_bl r1 hb).2, ?_⟩
      cases b with
      | true => exact ⟨st1, q1⟩
      | false => exact q1 _ H1 (Same.refl _) (.bl false)
    | rz c => cases d <;> cases hb
    | no => rw [hb] at q1; exact q1.elim⟩
theorem de_or (ha : DE X cl W a fa) (hb : DE X cl W (.BoolOp .Or (b :: rest) pos) fb) : DE X cl W (.BoolOp .Or (a :: b :: rest) pos) fun ρ => (fa ρ).bind fun x => (blR x).bind fun k => if k then .ok (.bl true) else fb ρ :=
  ⟨fun O ρ => (pe_or (ha.run O ρ) (hb.run O ρ)).imp fun σ H Q q => by
    refine tE.bind q fun x d H1 st1 s1 r1 _ q1 => ?_
    cases hb : blR d with
    | ok b =>
      rw [hb] at q1
      refine ⟨b, (blR_bl r1 hb).2, ?_⟩
      cases b with
      | false => exact ⟨st1, q1⟩
      | true => exact q1 _ H1 (Same.refl _) (.bl true)
    | rz c => cases d <;> cases hb
    | no => rw [hb] at q1; exact q1.elim⟩
theorem de_not (ha : DE X cl W a fa) : DE X cl W (.UnaryOp .Not a pos) fun ρ => (fa ρ).bind fun x => (blR x).bind fun b => .ok (.bl (!b)) :=
  ⟨fun O ρ => (pe_not (ha.run O ρ)).imp fun σ H Q q => by
    refine tE.bind q fun x d H1 st1 s1 r1 _ q1 => ?_
    cases hb : blR d with
    | ok b =>
      rw [hb] at q1
      exact ⟨b, (blR_bl r1 hb).2, q1 _ H1 (Same.refl _) (.bl _)⟩
    | rz c => cases d <;> cases hb
    | no => rw [hb] at q1; exact q1.elim⟩
theorem de_ife (hc : DT X cl W c fc) (ha : DE X cl W a fa) (hb : DE X cl W b fb) : DE X cl W (.IfExp c a b pos) fun ρ => (fc ρ).bind fun x => (blR x).bind fun k => if k then fa ρ else fb ρ :=
  ⟨fun O ρ => (pe_ifExp (hc.run O ρ) (ha.run O ρ) (hb.run O ρ)).imp fun σ H Q q => by
    refine tE.test q fun b H1 st s q1 => ?_
    cases b with
    | true => exact ⟨st, q1⟩
    | false => exact ⟨st, q1⟩⟩
/-! the same as tests -/
theorem dt_cmp {op : CmpOp} {g : D → D → R D} (h : OpD X (compareOp op) g) (ha : DE X cl W a fa) (hb : DE X cl W b fb) (hm : behindInMarks op b = false) : DT X cl W (.Compare a [op] [b] pos) fun ρ => (fa ρ).bind fun x => (fb ρ).bind fun y => g x y :=
  ⟨fun O ρ => ⟨fun pins s σ H Q I q => (pt_cmpR (h.2 (OO O σ ρ)) (ha.run O ρ) (hb.run O ρ) hm).run pins s σ H Q I (de_two h q)⟩⟩
theorem dt_not (ha : DT X cl W a fa) : DT X cl W (.UnaryOp .Not a pos) fun ρ => (fa ρ).bind fun x => (blR x).bind fun b => .ok (.bl (!b)) :=
  ⟨fun O ρ => (pt_not (ha.run O ρ)).imp fun σ H Q q => tE.testB q fun b H1 st s q1 => tE.true q1⟩
/-- .. of and, or: whatever their whole is -/
structure DW (X : Cx) (cl : Gx) (W : WX) (e : Expr) (f : Env → R D) : Prop where
  run : ∀ (O : AP_) (ρ : Env), PW X e (tTest (tE X.K cl O W ρ (f ρ)))
theorem DW.dt {e : Expr} {f : Env → R D} (h : DW X cl W e f) : DT X cl W e f := ⟨fun O ρ => (h.run O ρ).pt⟩
theorem _root_.L2.PW.imp {e : Expr} {t t' : TT} (h : PW X e t) (k : ∀ σ H Q, t' σ H Q → t σ H Q) : PW X e t' := ⟨fun wh pins s σ H Q I q => h.run wh pins s σ H Q I (k σ H Q q)⟩
theorem dw_and1 (ha : DT X cl W a fa) : DW X cl W (.BoolOp .And [a] pos) fa := ⟨fun O ρ => pw_and1 (ha.run O ρ)⟩
theorem dw_or1 (ha : DT X cl W a fa) : DW X cl W (.BoolOp .Or [a] pos) fa := ⟨fun O ρ => pw_or1 (ha.run O ρ)⟩
theorem dw_and (ha : DT X cl W a fa) (hb : DW X cl W (.BoolOp .And (b :: rest) pos) fb) : DW X cl W (.BoolOp .And (a :: b :: rest) pos) fun ρ => (fa ρ).bind fun x => (blR x).bind fun k => if k then fb ρ else .ok (.bl false) :=
  ⟨fun O ρ => (pw_and (ha.run O ρ) (hb.run O ρ)).imp fun σ H Q q => by
    refine tE.testB q fun b H1 st s q1 => ?_
    cases b with
    | true => exact q1
    | false => exact tE.true q1⟩
theorem dw_or (ha : DT X cl W a fa) (hb : DW X cl W (.BoolOp .Or (b :: rest) pos) fb) : DW X cl W (.BoolOp .Or (a :: b :: rest) pos) fun ρ => (fa ρ).bind fun x => (blR x).bind fun k => if k then .ok (.bl true) else fb ρ :=
  ⟨fun O ρ => (pw_or (ha.run O ρ) (hb.run O ρ)).imp fun σ H Q q => by
    refine tE.testB q fun b H1 st s q1 => ?_
    cases b with
    | true => exact tE.true q1
    | false => exact q1⟩
/-! ### chains -/
theorem chain_go {op op' : CmpOp} {g g' : D → D → R Bool} (h : OpD X (compareOp op) fun x y => (g x y).bind fun b => .ok (.bl b)) (h' : OpD X (compareOp op') fun x y => (g' x y).bind fun b => .ok (.bl b))
    {O : AP_} {ρ : Env} {σ : St} {H : Hp} {Q : VK} (q : tE X.K cl O W ρ ((fa ρ).bind fun x => (fb ρ).bind fun y => (g x y).bind fun k => if k then (fc ρ).bind fun z => (g' y z).bind fun q => .ok (.bl q) else .ok (.bl false)) σ H Q) :
    tChain (fun x y H Q => (∀ a, OO O σ ρ a → H a ≠ none) ∧ ∃ d e z, Rp X.K (OO O σ ρ) H x d ∧ Rp X.K (OO O σ ρ) H y e ∧ (g d e).bind (fun b => .ok (.bl b)) = .ok z ∧ ∀ v H', Same H H' → Rp X.K (OO O σ ρ) H' v z → Q v H')
      (fun x y H Q => (∀ a, OO O σ ρ a → H a ≠ none) ∧ ∃ d e z, Rp X.K (OO O σ ρ) H x d ∧ Rp X.K (OO O σ ρ) H y e ∧ (g' d e).bind (fun b => .ok (.bl b)) = .ok z ∧ ∀ v H', Same H H' → Rp X.K (OO O σ ρ) H' v z → Q v H')
      (tE X.K cl O W ρ (fa ρ)) (tE X.K cl O W ρ (fb ρ)) (tE X.K cl O W ρ (fc ρ)) σ H Q := by
  refine tE.bind q fun x d H1 st1 s1 r1 _ q1 => ?_
  refine tE.bind ⟨st1, q1⟩ fun y e H2 st2 s2 r2 _ q2 => ⟨st2.dom, d, e, ?_⟩
  cases hg : g d e with
  | ok k =>
    rw [hg] at q2
    refine ⟨.bl k, r1.more s2, r2, rfl, fun v H3 s3 r3 => ⟨k, r3.inv_bl, ?_⟩⟩
    cases k with
    | false => exact q2 _ H3 s3 (.bl false)
    | true =>
      refine tE.bind ⟨st2.more s3, RQ.more q2 s3⟩ fun z e3 H4 st4 s4 r4 _ q4 => ?_
      exact h'.end st4.dom ((r2.more s3).more s4) r4 q4
  | rz c => exact absurd (show (g d e).bind (fun b => R.ok (D.bl b)) = .rz c by rw [hg]; rfl) (h.1 d e c)
  | no => rw [hg] at q2; exact q2.elim
theorem de_ch {op op' : CmpOp} {g g' : D → D → R Bool} (h : OpD X (compareOp op) fun x y => (g x y).bind fun b => .ok (.bl b)) (h' : OpD X (compareOp op') fun x y => (g' x y).bind fun b => .ok (.bl b)) (ha : DE X cl W a fa) (hb : DE X cl W b fb) (hc : DE X cl W c fc)
    (hm : lastMarks [op, op'] [b, c] = false) : DE X cl W (.Compare a [op, op'] [b, c] pos) fun ρ => (fa ρ).bind fun x => (fb ρ).bind fun y => (g x y).bind fun k => if k then (fc ρ).bind fun z => (g' y z).bind fun q => .ok (.bl q) else .ok (.bl false) :=
  ⟨fun O ρ => ⟨fun pins s σ H Q I q => (pe_chain (h.2 (OO O σ ρ)) (h'.2 (OO O σ ρ)) (ha.run O ρ) (hb.run O ρ) (hc.run O ρ) hm).run pins s σ H Q I (chain_go h h' q)⟩⟩
theorem dt_ch {op op' : CmpOp} {g g' : D → D → R Bool} (h : OpD X (compareOp op) fun x y => (g x y).bind fun b => .ok (.bl b)) (h' : OpD X (compareOp op') fun x y => (g' x y).bind fun b => .ok (.bl b)) (ha : DE X cl W a fa) (hb : DE X cl W b fb) (hc : DE X cl W c fc)
    (hm : lastMarks [op, op'] [b, c] = false) : DT X cl W (.Compare a [op, op'] [b, c] pos) fun ρ => (fa ρ).bind fun x => (fb ρ).bind fun y => (g x y).bind fun k => if k then (fc ρ).bind fun z => (g' y z).bind fun q => .ok (.bl q) else .ok (.bl false) :=
  ⟨fun O ρ => ⟨fun pins s σ H Q I q => (pt_chain (h.2 (OO O σ ρ)) (h'.2 (OO O σ ρ)) (ha.run O ρ) (hb.run O ρ) (hc.run O ρ) hm).run pins s σ H Q I (chain_go h h' q)⟩⟩
end

/-! ### argument lists, displays -/
section
variable (K : PySem.W.Frag) (cl : Gx) (O : AP_) (W : WX) (ρ : Env)
def RQs (σ : St) (H : Hp) (Q : List V → Hp → Prop) : R D → Prop
  | .ok (.lst ds) => ∀ vs H', Same H H' → Rps K (OO O σ ρ) H' vs ds → Q vs H'
  | .ok _ => False
  | .rz c => ∀ H', Same H H' → W (.ref (cl.cl c)) none σ H'
  | .no => False
def tAs (f : R D) : TA := fun σ H Q => StE K cl O σ H ρ ∧ RQs K cl O W ρ σ H Q f
end
theorem RQs.more {K : PySem.W.Frag} {cl : Gx} {O : AP_} {H H' : Hp} {W : WX} {ρ : Env} {σ : St} {Q : List V → Hp → Prop} {f : R D} (h : RQs K cl O W ρ σ H Q f) (e : Same H H') : RQs K cl O W ρ σ H' Q f := by
  match f, h with
  | .ok (.lst d), h => exact fun v H2 s r => h v H2 (e.trans s) r
  | .rz c, h => exact fun H2 s => h H2 (e.trans s)
/-- from a list of data on -/
theorem tAs.bind {K : PySem.W.Frag} {cl : Gx} {O : AP_} {H : Hp} {W : WX} {ρ : Env} {σ : St} {Q : VK} {f : R D} {g : List D → R D} {P : List V → Hp → Prop} (h : tE K cl O W ρ (f.bind fun x => (lstR x).bind g) σ H Q)
    (k : ∀ vs ds H1, StE K cl O σ H1 ρ → Same H H1 → Rps K (OO O σ ρ) H1 vs ds → f = .ok (.lst ds) → RQ K cl O W ρ σ H1 Q (g ds) → P vs H1) : tAs K cl O W ρ f σ H P := by
  refine ⟨h.1, ?_⟩
  have q := h.2
  cases f with
  | ok d =>
    cases d with
    | lst ds => exact fun v H1 s r => k v ds H1 (h.1.more s) s r rfl (RQ.more q s)
    | _ => exact q.elim
  | rz c => exact q
  | no => exact q
structure DA (X : Cx) (cl : Gx) (W : WX) (es : List Expr) (f : Env → R D) : Prop where
  run : ∀ (O : AP_) (ρ : Env), PA X es (tAs X.K cl O W ρ (f ρ))
section
variable {X : Cx} {cl : Gx} {W : WX} {a : Expr} {es : List Expr} {fa fb : Env → R D} {pos : Pos}
theorem da_nil : DA X cl W [] fun _ => .ok (.lst []) := ⟨fun O ρ => pa_nil.imp fun σ H Q q => q.2 [] H (Same.refl H) .nil⟩
theorem da_cons (ha : DE X cl W a fa) (hb : DA X cl W es fb) (hs : starEach (a :: es) X.env = (false, eval a X.env) :: starEach es X.env) : DA X cl W (a :: es) fun ρ => (fa ρ).bind fun x => (fb ρ).bind fun y => (lstR y).bind fun ys => .ok (.lst (x :: ys)) :=
  ⟨fun O ρ => (pa_cons (ha.run O ρ) (hb.run O ρ) hs).imp fun σ H Q q => by
    refine ⟨q.1, ?_⟩
    have q2 := q.2
    cases hf : fa ρ with
    | ok d =>
      rw [hf] at q2
      refine fun x H1 s1 r1 => ⟨q.1.more s1, ?_⟩
      cases hg : fb ρ with
      | ok e =>
        rw [hg] at q2
        cases e with
        | lst ds => exact fun vs H2 s2 r2 => q2 _ H2 (s1.trans s2) (.cons (r1.more s2) r2)
        | _ => exact q2.elim
      | rz c =>
        rw [hg] at q2
        exact fun H2 s2 => q2 H2 (s1.trans s2)
      | no => rw [hg] at q2; exact q2.elim
    | rz c => rw [hf] at q2; exact q2
    | no => rw [hf] at q2; exact q2.elim⟩
theorem lim_eq : LIM = sizeLine := by rw [sizeLine_eq]; rfl
theorem de_tup (h : DA X cl W es fa) {x1 : Nat} : DE X cl W (.Tuple es x1 pos) fun ρ => (fa ρ).bind fun x => (lstR x).bind fun xs => mkT xs :=
  ⟨fun O ρ => (pe_tup (h.run O ρ)).imp fun σ H Q q => tAs.bind q fun vs ds H1 st s r _ q1 => by
    unfold mkT at q1
    split at q1
    · rename_i hl
      refine ⟨by rw [r.length, ← lim_eq]; exact hl, fun p hp => ?_⟩
      have sm := same_upd (o := .tup vs) hp
      exact q1 _ _ sm (.tup (fun z => st.dom p z hp) upd_same (r.more sm))
    · exact q1.elim⟩
theorem de_lst (h : DA X cl W es fa) : DE X cl W (.List es pos) fun ρ => (fa ρ).bind fun x => (lstR x).bind fun xs => mkL xs :=
  ⟨fun O ρ => (pe_lst (h.run O ρ)).imp fun σ H Q q => tAs.bind q fun vs ds H1 st s r _ q1 => by
    unfold mkL at q1
    split at q1
    · rename_i hl
      refine ⟨by rw [r.length, ← lim_eq]; exact hl, fun p hp => ?_⟩
      have sm := same_upd (o := .lst vs) hp
      exact q1 _ _ sm (.lst (fun z => st.dom p z hp) upd_same (r.more sm))
    · exact q1.elim⟩
end
end Mi

set_option Elab.async false
set_option linter.all false
set_option maxRecDepth 100000
set_option maxHeartbeats 4000000
/-! Mi, soundness 4: operators -/
namespace Mi
open PySem L2
section
variable {X : Cx}
theorem opR_norz (o : Op) (x y : D) (c : Nat) : opR o x y ≠ .rz c := by
  intro h
  unfold opR mkS mkL mkT at h
  split at h <;> first | cases h | (split at h <;> cases h)
theorem OkS.app {x y : List Nat} (a : OkS x) (b : OkS y) (h : (x ++ y).length ≤ LIM) : OkS (x ++ y) := ⟨by rw [← lim_eq]; exact h, fun c hc => (List.mem_append.mp hc).elim (a.2 c) (b.2 c)⟩
theorem reps_len {α : Type} (x : List α) (k : Int) : (reps x k).length = x.length * k.toNat := by
  unfold reps
  rw [List.length_flatten, List.map_replicate, List.sum_replicate_nat, Nat.mul_comm]
theorem reps_mem {α : Type} {x : List α} {k : Int} {c : α} (h : c ∈ reps x k) : c ∈ x := by
  unfold reps at h
  obtain ⟨l, h1, h2⟩ := List.mem_flatten.mp h
  rw [(List.mem_replicate.mp h1).2] at h2
  exact h2
theorem Rps.rep {K : PySem.W.Frag} {O : AP_} {H : Hp} {vs : List V} {ds : List D} (h : Rps K O H vs ds) : ∀ n : Nat, Rps K O H (List.replicate n vs).flatten (List.replicate n ds).flatten
  | 0 => .nil
  | n + 1 => by
    rw [List.replicate_succ, List.replicate_succ, List.flatten_cons, List.flatten_cons]
    exact h.append (h.rep n)
/-- what an operation makes anew -/
theorem new_lst {K : PySem.W.Frag} {O : AP_} {H : Hp} {vs : List V} {ds : List D} {Q : VK} (dom : ∀ a, O a → H a ≠ none) (r : Rps K O H vs ds) (q : ∀ v H', Same H H' → Rp K O H' v (.lst ds) → Q v H') : ∀ p, H p = none → Q (.ref p) (upd H p (.lst vs)) := fun p hp =>
  q _ _ (same_upd hp) (.lst (fun z => dom p z hp) upd_same (r.more (same_upd hp)))
theorem new_tup {K : PySem.W.Frag} {O : AP_} {H : Hp} {vs : List V} {ds : List D} {Q : VK} (dom : ∀ a, O a → H a ≠ none) (r : Rps K O H vs ds) (q : ∀ v H', Same H H' → Rp K O H' v (.tup ds) → Q v H') : ∀ p, H p = none → Q (.ref p) (upd H p (.tup vs)) := fun p hp =>
  q _ _ (same_upd hp) (.tup (fun z => dom p z hp) upd_same (r.more (same_upd hp)))
theorem opD_add : OpD X (binaryOp .Add) (opR .add) := by
  refine ⟨opR_norz _, fun O pins s σ H x y v u Q I rx ry h => ?_⟩
  obtain ⟨dom, d, e, z, r1, r2, hz, q⟩ := h
  match d, e, r1, r2, hz with
  | .int i, .int j, r1, r2, hz =>
    cases hz
    exact op_add pins s σ H x y v u Q I rx ry ⟨i, j, r1.inv_int, r2.inv_int, q _ H (Same.refl H) (.int _)⟩
  | .str i, .str j, r1, r2, hz =>
    replace hz : (if (i ++ j).length ≤ LIM then R.ok (D.str (i ++ j)) else .no) = R.ok z := hz
    split at hz
    · rename_i hl
      cases hz
      obtain ⟨e1, o1⟩ := r1.inv_str
      obtain ⟨e2, o2⟩ := r2.inv_str
      refine op_add_str pins s σ H x y v u Q I rx ry ⟨_, _, e1, e2, ?_, q _ H (Same.refl H) ?_⟩
      · rw [toS_len, toS_len, ← lim_eq, ← List.length_append]; exact hl
      · rw [toS_app]; exact .str _ (o1.app o2 hl)
    · cases hz
  | .lst i, .lst j, r1, r2, hz =>
    replace hz : (if (i ++ j).length ≤ LIM then R.ok (D.lst (i ++ j)) else .no) = R.ok z := hz
    split at hz
    · rename_i hl
      cases hz
      obtain ⟨a, vs, e1, _, h1, q1⟩ := r1.inv_lst
      obtain ⟨b, ws, e2, _, h2, q2⟩ := r2.inv_lst
      refine op_cat pins s σ H x y v u Q I rx ry ⟨a, b, vs, ws, e1, e2, h1, h2, ?_, new_lst dom (q1.append q2) q⟩
      rw [q1.length, q2.length, ← lim_eq, ← List.length_append]; exact hl
    · cases hz
  | .tup i, .tup j, r1, r2, hz =>
    replace hz : (if (i ++ j).length ≤ LIM then R.ok (D.tup (i ++ j)) else .no) = R.ok z := hz
    split at hz
    · rename_i hl
      cases hz
      obtain ⟨a, vs, e1, n1, h1, q1⟩ := r1.inv_tup
      obtain ⟨b, ws, e2, n2, h2, q2⟩ := r2.inv_tup
      refine op_catA pins s σ H x y v u Q I rx ry ⟨a, b, vs, ws, e1, e2, .of h1, .of h2, ?_, fun z => ?_, fun _ z => ?_, fun _ _ => new_tup dom (q1.append q2) q⟩
      · rw [q1.length, q2.length, ← lim_eq, ← List.length_append]; exact hl
      · subst z
        cases q1
        exact q _ H (Same.refl H) (.tup n2 h2 q2)
      · subst z
        cases q2
        rw [List.append_nil] at q
        exact q _ H (Same.refl H) (.tup n1 h1 q1)
    · cases hz
theorem opD_sub : OpD X (binaryOp .Sub) (opR .sub) := by
  refine ⟨opR_norz _, fun O pins s σ H x y v u Q I rx ry h => ?_⟩
  obtain ⟨dom, d, e, z, r1, r2, hz, q⟩ := h
  match d, e, r1, r2, hz with
  | .int i, .int j, r1, r2, hz =>
    cases hz
    exact op_sub pins s σ H x y v u Q I rx ry ⟨i, j, r1.inv_int, r2.inv_int, q _ H (Same.refl H) (.int _)⟩
theorem opD_div : OpD X (binaryOp .FloorDiv) (opR .div) := by
  refine ⟨opR_norz _, fun O pins s σ H x y v u Q I rx ry h => ?_⟩
  obtain ⟨dom, d, e, z, r1, r2, hz, q⟩ := h
  match d, e, r1, r2, hz with
  | .int i, .int j, r1, r2, hz =>
    replace hz : (if (decide (0 < j) && decide (j.natAbs.log2 < 9000)) = true then R.ok (D.int (i / j)) else .no) = R.ok z := hz
    split at hz
    · rename_i hc
      cases hz
      rw [Bool.and_eq_true, decide_eq_true_eq, decide_eq_true_eq] at hc
      exact op_fdivW pins s σ H x y v u Q I rx ry ⟨i, j, r1.inv_int, r2.inv_int, hc, q _ H (Same.refl H) (.int _)⟩
    · cases hz
theorem opD_mod : OpD X (binaryOp .Mod) (opR .mod) := by
  refine ⟨opR_norz _, fun O pins s σ H x y v u Q I rx ry h => ?_⟩
  obtain ⟨dom, d, e, z, r1, r2, hz, q⟩ := h
  match d, e, r1, r2, hz with
  | .int i, .int j, r1, r2, hz =>
    replace hz : (if (decide (0 < j)) = true then R.ok (D.int (i % j)) else .no) = R.ok z := hz
    split at hz
    · rename_i hc
      cases hz
      rw [decide_eq_true_eq] at hc
      exact op_mod pins s σ H x y v u Q I rx ry ⟨i, j, r1.inv_int, r2.inv_int, hc, q _ H (Same.refl H) (.int _)⟩
    · cases hz
theorem opD_pow : OpD X (binaryOp .Pow) (opR .pow) := by
  refine ⟨opR_norz _, fun O pins s σ H x y v u Q I rx ry h => ?_⟩
  obtain ⟨dom, d, e, z, r1, r2, hz, q⟩ := h
  match d, e, r1, r2, hz with
  | .int i, .int j, r1, r2, hz =>
    replace hz : (if (decide (0 ≤ j) && decide (j ≤ 1000000) && decide (i.natAbs < 2 ^ 64)) = true then R.ok (D.int (i ^ j.toNat)) else .no) = R.ok z := hz
    split at hz
    · rename_i hc
      cases hz
      rw [Bool.and_eq_true, Bool.and_eq_true, decide_eq_true_eq, decide_eq_true_eq, decide_eq_true_eq] at hc
      exact op_pow pins s σ H x y v u Q I rx ry ⟨i, j, r1.inv_int, r2.inv_int, ⟨hc.1.1, hc.1.2, hc.2⟩, q _ H (Same.refl H) (.int _)⟩
    · cases hz
/-! tuples times 0 and 1 -/
theorem tuple_mul_lo (l : Addr) (items : Array Value) (n : Nat) (dd : Option Addr) (sl : Array (Option Value)) (u : Tok) (c1 : items.isEmpty = false) :
    Meets (Builtin.«tuple.__mul__» ⟨[.ref l, .int 0 u], []⟩) (fun _ R s => s.heap.get? l = some { cls := .type "tuple", dict := dd, data := .seq items n, slots := sl } ∧
      R (.ok (.ret (Value.ref s.heap.objs.size))) { s with heap := s.heap.push { cls := Value.type "tuple", data := Data.seq #[] }, toks := s.toks }) :=
  .of_wp fun prog w A R s h => by
    obtain ⟨hp, g, d, tk, os⟩ := s
    obtain ⟨hl, h⟩ := h
    have f1 := AutoSeq1.idx_int
    wp_walk using AutoSeq1.wpAny_loadPart' hl
    exact ⟨_, rfl, h⟩
theorem tuple_mul_one (l : Addr) (items : Array Value) (n : Nat) (dd : Option Addr) (sl : Array (Option Value)) (u : Tok) (c1 : items.isEmpty = false) :
    Meets (Builtin.«tuple.__mul__» ⟨[.ref l, .int 1 u], []⟩) (fun _ R s => s.heap.get? l = some { cls := .type "tuple", dict := dd, data := .seq items n, slots := sl } ∧ R (.ok (.ret (Value.ref l))) s) :=
  .of_wp fun prog w A R s h => by
    obtain ⟨hp, g, d, tk, os⟩ := s
    obtain ⟨hl, h⟩ := h
    have f1 := AutoSeq1.idx_int
    wp_walk using AutoSeq1.wpAny_loadPart' hl
    exact ⟨_, rfl, h⟩
/-- a tuple times a small int -/
theorem op_mulT {pins : List (Addr × Obj)} {s : Shared} {σ : St} {H : Hp} {l : Addr} {k : Int} {xs : List V} {u v : Value} {Q : VK} (I : Inv X pins σ H s) (hT : H l = some (.tup xs)) (rx : RelV (.ref l) v) (ry : RelV (.int k) u) (hne : xs ≠ []) (h0 : 0 ≤ k) (h2 : k ≤ 1000) (hz : xs.length ≤ 1000)
    (q0 : k = 0 → ∀ p, H p = none → Q (.ref p) (upd H p (.tup []))) (q1 : k = 1 → Q (.ref l) H) (q : 2 ≤ k → ∀ p, H p = none → Q (.ref p) (upd H p (.tup (List.replicate k.toNat xs).flatten))) :
    wpAny (model X.prog X.w) X.A (binaryOp .Mult v u) (EP X pins σ Q) X.xe s := by
  by_cases hk : 2 ≤ k
  · exact op_repT pins s σ H _ _ v u Q I rx ry ⟨l, k, xs, rfl, rfl, .of hT, hne, hk, h2, hz, q hk⟩
  · cases rx
    obtain ⟨t, rfl⟩ := ry
    obtain ⟨its, r, ⟨⟨cls, dd, data, sl⟩, ho, hc, n, hd⟩, hs⟩ := I.tuple (.of hT)
    simp only at hc hd
    subst hc hd
    have hle : its.length = xs.length := r.length.symm
    have hi : its.toArray.isEmpty = false := by
      cases its with
      | nil => exact absurd (List.eq_nil_of_length_eq_zero hle.symm) hne
      | cons a b => rfl
    have hk2 : k = 0 ∨ k = 1 := by omega
    rcases hk2 with rfl | rfl
    · refine wpAny_binaryOp_repeat_ref (T := "tuple") (U := "int") (by decide) ⟨_, ho, rfl⟩ (fun s' => typeIs_int s' 0 t) noFill_tuple_mul F.fills_int_mul F.slot_int_rmul repeat_tuple F.slot_int_index.lookup
        (call_meets F.slot_int_rmul (typeIs_int s 0 t) F.entry_int_rmul (F.args_int_rmul_2 _ _) (int_rmul_tuple 0 t l its.toArray n dd sl)
          ⟨ho, rfl, ⟨_, ho, rfl⟩, call_meets F.slot_tuple_mul ⟨_, ho, rfl⟩ F.entry_tuple_mul (F.args_tuple_mul_2 _ _) (tuple_mul_lo l its.toArray n dd sl t hi) ⟨ho, ?_⟩⟩)
      refine ⟨.ref s.heap.objs.size, _, I.laid (t' := s.toks) (o := .tup []) (fun b ob q => Heap.get?_push_of_some _ q) (Nat.le_refl _) ?_, rfl, q0 rfl _ (I.hok.fresh (Nat.le_refl _))⟩
      exact ⟨Nat.zero_le _, [], .nil, PyProof.Rows.IsTup.new _ _⟩
    · refine wpAny_binaryOp_repeat_ref (T := "tuple") (U := "int") (by decide) ⟨_, ho, rfl⟩ (fun s' => typeIs_int s' 1 t) noFill_tuple_mul F.fills_int_mul F.slot_int_rmul repeat_tuple F.slot_int_index.lookup
        (call_meets F.slot_int_rmul (typeIs_int s 1 t) F.entry_int_rmul (F.args_int_rmul_2 _ _) (int_rmul_tuple 1 t l its.toArray n dd sl)
          ⟨ho, rfl, ⟨_, ho, rfl⟩, call_meets F.slot_tuple_mul ⟨_, ho, rfl⟩ F.entry_tuple_mul (F.args_tuple_mul_2 _ _) (tuple_mul_one l its.toArray n dd sl t hi) ⟨ho, ?_⟩⟩)
      exact ⟨.ref l, H, I, rfl, q1 rfl⟩
/-- a text times a small int -/
theorem op_mulS {pins : List (Addr × Obj)} {s : Shared} {σ : St} {H : Hp} {k : Int} {x : List Nat} {u v : Value} {Q : VK} (I : Inv X pins σ H s) (rx : RelV (.str (toS x)) v) (ry : RelV (.int k) u) (h0 : 0 ≤ k) (h2 : k ≤ 1000000) (hz : x.length * k.toNat ≤ sizeLine)
    (q : Q (.str (toS (reps x k))) H) : wpAny (model X.prog X.w) X.A (binaryOp .Mult v u) (EP X pins σ Q) X.xe s := by
  obtain ⟨tx, rfl⟩ := rx
  obtain ⟨t, rfl⟩ := ry
  have lx : (toS x).length = x.length := toS_len x
  have h63 : (sizeLine : Nat) < 2 ^ 40 := by rw [sizeLine_eq]; decide
  refine PySem.P.mul_str (by simp; omega) (fun h1 h3 => ?_) (fun h1 h3 => ?_) ?_
  · rw [lx]
    intro z
    have h4 : 0 < k := by omega
    have h5 : (x.length : Int) * k ≤ 2 ^ 40 := by
      have : (x.length : Int) * k = ((x.length * k.toNat : Nat) : Int) := by
        rw [Int.natCast_mul, Int.toNat_of_nonneg h0]
      rw [this]
      omega
    have h6 : (x.length : Int) ≤ (2 ^ 63 - 1) / k := (Int.le_ediv_iff_mul_le h4).mpr (by omega)
    omega
  · rw [lx]
    unfold Builtin.Str.tooLong
    exact decide_eq_false (by omega)
  · have key : ∀ m : Nat, (List.replicate m (toS x).cps).foldl (· ++ ·) #[] = ((List.replicate m x).flatten).toArray := fun m => by
      have g : ∀ (m : Nat) (acc : List Nat), (List.replicate m x.toArray).foldl (· ++ ·) acc.toArray = (acc ++ (List.replicate m x).flatten).toArray := by
        intro m
        induction m with
        | zero => intro acc; simp
        | succ m ih =>
          intro acc
          rw [List.replicate_succ, List.foldl_cons, List.replicate_succ, List.flatten_cons, List.append_toArray, ih, List.append_assoc]
      exact g m []
    by_cases c1 : k < 1
    · rw [if_pos c1]
      have : k = 0 := by omega
      subst this
      exact ⟨Nat.zero_le _, .str (toS (reps x 0)), H, I.tok _, ⟨_, rfl⟩, q⟩
    · rw [if_neg c1]
      by_cases c2 : (k == 1 || (toS x).length == 0) = true
      · rw [if_pos c2]
        have e : reps x k = x := by
          rw [Bool.or_eq_true, beq_iff_eq, beq_iff_eq, lx] at c2
          rcases c2 with rfl | c2
          · simp [reps]
          · have : x = [] := List.eq_nil_of_length_eq_zero c2
            subst this
            unfold reps
            exact List.eq_nil_of_length_eq_zero (by rw [List.length_flatten]; simp)
        rw [e] at q
        exact ⟨.str (toS x), H, I, ⟨tx, rfl⟩, q⟩
      · rw [if_neg c2]
        have e : (⟨List.foldl (fun x1 x2 => x1 ++ x2) #[] (List.replicate k.toNat (toS x).cps)⟩ : Str) = toS (reps x k) := by
          rw [key]
          rfl
        rw [e]
        refine ⟨?_, .str (toS (reps x k)), H, I.tok _, ⟨s.toks, rfl⟩, q⟩
        rw [toS_len, reps_len]
        exact hz
theorem opD_mul : OpD X (binaryOp .Mult) (opR .mul) := by
  refine ⟨opR_norz _, fun O pins s σ H x y v u Q I rx ry h => ?_⟩
  obtain ⟨dom, d, e, z, r1, r2, hz, q⟩ := h
  match d, e, r1, r2, hz with
  | .int i, .int j, r1, r2, hz =>
    replace hz : (if (small64 i || small64 j) = true then R.ok (D.int (i * j)) else .no) = R.ok z := hz
    split at hz
    · rename_i hc
      cases hz
      refine op_mul pins s σ H x y v u Q I rx ry ⟨i, j, r1.inv_int, r2.inv_int, ?_, q _ H (Same.refl H) (.int _)⟩
      unfold small64 at hc
      simp only [Bool.or_eq_true, Bool.and_eq_true, decide_eq_true_eq] at hc
      exact hc
    · cases hz
  | .str i, .int k, r1, r2, hz =>
    replace hz : (if okRep i.length k = true then R.ok (D.str (reps i k)) else .no) = R.ok z := hz
    split at hz
    · rename_i hc
      cases hz
      unfold okRep at hc
      simp only [Bool.and_eq_true, decide_eq_true_eq] at hc
      obtain ⟨e1, o1⟩ := r1.inv_str
      obtain rfl := e1
      obtain rfl := r2.inv_int
      refine op_mulS I rx ry hc.1.1 hc.1.2 (by rw [← lim_eq]; exact hc.2) (q _ H (Same.refl H) (.str _ ⟨?_, fun c h => o1.2 c (reps_mem h)⟩))
      rw [reps_len, ← lim_eq]; exact hc.2
    · cases hz
  | .lst i, .int k, r1, r2, hz =>
    replace hz : (if okRep i.length k = true then R.ok (D.lst (reps i k)) else .no) = R.ok z := hz
    split at hz
    · rename_i hc
      cases hz
      unfold okRep at hc
      simp only [Bool.and_eq_true, decide_eq_true_eq] at hc
      obtain ⟨a, vs, e1, _, h1, q1⟩ := r1.inv_lst
      refine op_rep pins s σ H x y v u Q I rx ry ⟨a, k, vs, e1, r2.inv_int, h1, by omega, by omega, ?_, new_lst dom (q1.rep _) q⟩
      rw [q1.length, ← lim_eq]; exact hc.2
    · cases hz
  | .tup i, .int k, r1, r2, hz =>
    replace hz : (if (decide (i.length ≤ 1000) && !i.isEmpty && decide (0 ≤ k) && decide (k ≤ 1000)) = true then R.ok (D.tup (reps i k)) else .no) = R.ok z := hz
    split at hz
    · rename_i hc
      cases hz
      simp only [Bool.and_eq_true, decide_eq_true_eq, Bool.not_eq_true', List.isEmpty_eq_false_iff] at hc
      obtain ⟨a, vs, e1, n1, h1, q1⟩ := r1.inv_tup
      obtain rfl := e1
      obtain rfl := r2.inv_int
      refine op_mulT I h1 rx ry (fun z => hc.1.1.2 (by subst z; cases q1; rfl)) hc.1.2 hc.2 (by rw [q1.length]; exact hc.1.1.1) (fun z => ?_) (fun z => ?_) fun _ => new_tup dom (q1.rep _) q
      · subst z
        exact new_tup dom .nil q
      · subst z
        have e : reps i 1 = i := by simp [reps]
        rw [e] at q
        exact q _ H (Same.refl H) (.tup n1 h1 q1)
    · cases hz
theorem opD : ∀ o : Op, ∃ op, OpD X (binaryOp op) (opR o) := fun o => by
  cases o
  · exact ⟨_, opD_add⟩
  · exact ⟨_, opD_sub⟩
  · exact ⟨_, opD_mul⟩
  · exact ⟨_, opD_div⟩
  · exact ⟨_, opD_mod⟩
  · exact ⟨_, opD_pow⟩
end
end Mi

set_option Elab.async false
set_option linter.all false
set_option maxRecDepth 100000
set_option maxHeartbeats 4000000
/-! Mi, soundness 5: comparisons -/
namespace Mi
open PySem L2
def cmB (c : Cm) (x y : D) : R D := (cmR c x y).bind fun b => .ok (.bl b)
section
variable {X : Cx}
theorem neg_norz {r : R Bool} (h : ∀ c, r ≠ .rz c) (c : Nat) : neg r ≠ .rz c := by
  unfold Mi.neg
  cases r with
  | ok b => simp [R.bind]
  | rz d => exact absurd rfl (h d)
  | no => simp [R.bind]
theorem eqR_norz (x y : D) (c : Nat) : eqR x y ≠ .rz c := by
  unfold eqR
  split
  · simp
  · split <;> simp
theorem inR_norz (x y : D) (c : Nat) : inR x y ≠ .rz c := by
  unfold inR
  repeat' split
  all_goals simp
theorem cmB_norz (o : Cm) (x y : D) (c : Nat) : cmB o x y ≠ .rz c := by
  have key : ∀ r : R Bool, (∀ c, r ≠ .rz c) → r.bind (fun b => R.ok (D.bl b)) ≠ .rz c := fun r h => by
    cases r with
    | ok b => simp [R.bind]
    | rz d => exact absurd rfl (h d)
    | no => simp [R.bind]
  unfold cmB
  refine key _ fun c => ?_
  cases o <;> unfold cmR
  · exact eqR_norz x y c
  · exact neg_norz (eqR_norz x y) c
  · show R.ofO _ ≠ _
    cases D.lt x y <;> simp [R.ofO]
  · show leR x y ≠ _
    unfold leR
    split <;> simp
  · show gtR x y ≠ _
    unfold gtR
    split <;> simp
  · show geR x y ≠ _
    unfold geR
    repeat' split
    all_goals simp
  · show isR x y ≠ _
    unfold isR
    repeat' split
    all_goals simp
  · refine neg_norz (fun c => ?_) c
    unfold isR
    repeat' split
    all_goals simp
  · exact inR_norz x y c
  · exact neg_norz (inR_norz x y) c
/-- from the bool's own rule -/
theorem opD_bl {op : CmpOp} {c : Cm} (h : ∀ (O : AP_) (pins : List (Addr × Obj)) (s : Shared) (σ : St) (H : Hp) (x y : V) (v u : Value) (Q : VK) (d e : D) (b : Bool), L2.Inv X pins σ H s → RelV x v → RelV y u → Rp X.K O H x d → Rp X.K O H y e → cmR c d e = .ok b → Q (.bl b) H →
    wpAny (model X.prog X.w) X.A (compareOp op v u) (EP X pins σ Q) X.xe s) : OpD X (compareOp op) (cmB c) := by
  refine ⟨cmB_norz c, fun O pins s σ H x y v u Q I rx ry h1 => ?_⟩
  obtain ⟨dom, d, e, z, r1, r2, hz, q⟩ := h1
  unfold cmB at hz
  cases hb : cmR c d e with
  | ok b =>
    rw [hb] at hz
    cases hz
    exact h O pins s σ H x y v u Q d e b I rx ry r1 r2 hb (q _ H (Same.refl H) (.bl b))
  | rz c => rw [hb] at hz; cases hz
  | no => rw [hb] at hz; cases hz
theorem neg_ok {r : R Bool} {b : Bool} (h : neg r = .ok b) : r = .ok (!b) := by
  cases r with
  | ok c => cases h; simp
  | rz _ => cases h
  | no => cases h
/-! == and != -/
theorem dpInts {K : PySem.W.Frag} {H : Hp} : ∀ ns : List Int, DpAll K H (ns.map V.int) (ns.map PyData.int)
  | [] => .nil
  | n :: r => .cons (.int n) (dpInts r)
theorem layInts : ∀ ns : List Int, PyData.canLayAll0 (ns.map PyData.int) = true
  | [] => by rw [List.map_nil, PyData.canLayAll0]
  | n :: r => by rw [List.map_cons, PyData.canLayAll0, layInts r, PyData.canLay0]; rfl
theorem deepInts : ∀ ns : List Int, PyData.depthAll (ns.map PyData.int) ≤ 1
  | [] => by rw [List.map_nil, PyData.depthAll]; exact Nat.zero_le _
  | n :: r => by
    have := deepInts r
    rw [List.map_cons, PyData.depthAll, PyData.depth]
    omega
/-- what == gives, by the data of the library -/
theorem eq_data {K : PySem.W.Frag} {O : AP_} {H : Hp} {x y : V} {d e : D} {b : Bool} (r1 : Rp K O H x d) (r2 : Rp K O H y e) (h : eqR d e = .ok b) :
    ∃ p q, Dp K H x p ∧ Dp K H y q ∧ SeqAt.shaped p = true ∧ SeqAt.shaped q = true ∧ PyData.eqv p q = b := by
  have main : ∀ {d e : D}, Rp K O H x d → Rp K O H y e → (if (d.dat 30 && e.dat 30) = true then R.ok (D.eqv d e) else R.no) = .ok b → ∃ p q, Dp K H x p ∧ Dp K H y q ∧ SeqAt.shaped p = true ∧ SeqAt.shaped q = true ∧ PyData.eqv p q = b := fun {d e} r1 r2 h => by
    split at h
    · rename_i hc
      cases h
      rw [Bool.and_eq_true] at hc
      exact ⟨d.py, e.py, r1.dp hc.1, r2.dp hc.2, r1.shaped hc.1 (by decide), r2.shaped hc.2 (by decide), D.py_eqv d e 30 30 hc.1 hc.2⟩
    · cases h
  cases d with
  | scr ns =>
    cases e with
    | lst es =>
      cases es with
      | nil =>
        cases h
        obtain ⟨a, e1, h1⟩ := r1.inv_scr
        subst e1
        refine ⟨.list (ns.map PyData.int), .list [], .lst h1 (dpInts ns), (r2.dp (n := 1) rfl : Dp K H y (D.lst []).py), ?_, ?_, ?_⟩
        · have := deepInts ns
          unfold SeqAt.shaped
          rw [PyData.canLay0, layInts, PyData.depth, decide_eq_true (by omega)]
          rfl
        · exact r2.shaped (n := 1) rfl (by decide)
        · rw [PyData.eqv]
          cases ns <;> simp [PyData.eqvAll]
      | cons a b => exact main r1 r2 h
    | _ => exact main r1 r2 h
  | _ => exact main r1 r2 h
theorem opD_eq (hr : X.A.units + 65 < cLine) : OpD X (compareOp .Eq) (cmB .eq) := opD_bl fun O pins s σ H x y v u Q d e b I rx ry r1 r2 h q => by
  obtain ⟨p, p', h1, h2, h3, h4, h5⟩ := eq_data r1 r2 h
  exact op_eqD (show X.A.units + 64 < cLine by omega) pins s σ H x y v u Q I rx ry ⟨p, p', h1, h2, h3, h4, by rw [h5]; exact q⟩
theorem opD_ne (hr : X.A.units + 65 < cLine) : OpD X (compareOp .NotEq) (cmB .ne) := opD_bl fun O pins s σ H x y v u Q d e b I rx ry r1 r2 h q => by
  obtain ⟨p, p', h1, h2, h3, h4, h5⟩ := eq_data r1 r2 (neg_ok h)
  exact op_neD (show X.A.units + 64 < cLine by omega) pins s σ H x y v u Q I rx ry ⟨p, p', h1, h2, h3, h4, by rw [h5, Bool.not_not]; exact q⟩
/-! is -/
theorem isND_v {K : PySem.W.Frag} {O : AP_} {H : Hp} {x : V} {d : D} (r : Rp K O H x d) : isND d = decide (x = .non) := by
  cases r <;> simp [isND]
theorem is_data {K : PySem.W.Frag} {O : AP_} {H : Hp} {x y : V} {d e : D} {b : Bool} (r1 : Rp K O H x d) (r2 : Rp K O H y e) (h : isR d e = .ok b) : (y = .non ∧ b = decide (x = .non)) ∨ ∃ c c', x = .bl c ∧ y = .bl c' ∧ b = decide (c = c') := by
  cases e with
  | non =>
    have : isR d .non = .ok (isND d) := by cases d <;> rfl
    rw [this] at h
    cases h
    exact .inl ⟨r2.inv_non, isND_v r1⟩
  | bl c' =>
    cases d with
    | bl c =>
      cases h
      refine .inr ⟨c, c', r1.inv_bl, r2.inv_bl, ?_⟩
      cases c <;> cases c' <;> rfl
    | _ => cases h
  | _ => cases d <;> cases h
theorem opD_is : OpD X (compareOp .Is) (cmB .is) := opD_bl fun O pins s σ H x y v u Q d e b I rx ry r1 r2 h q => by
  rcases is_data r1 r2 h with ⟨h1, h2⟩ | ⟨c, c', h1, h2, h3⟩
  · exact op_isN pins s σ H x y v u Q I rx ry ⟨h1, by rw [← h2]; exact q⟩
  · exact op_is_bl pins s σ H x y v u Q I rx ry ⟨c, c', h1, h2, by rw [← h3]; exact q⟩
theorem opD_nis : OpD X (compareOp .IsNot) (cmB .nis) := opD_bl fun O pins s σ H x y v u Q d e b I rx ry r1 r2 h q => by
  rcases is_data r1 r2 (neg_ok h) with ⟨h1, h2⟩ | ⟨c, c', h1, h2, h3⟩
  · exact op_notN pins s σ H x y v u Q I rx ry ⟨h1, by rw [← h2, Bool.not_not]; exact q⟩
  · exact op_isnot_bl pins s σ H x y v u Q I rx ry ⟨c, c', h1, h2, by rw [← h3, Bool.not_not]; exact q⟩
/-! in -/
theorem flat_v {K : PySem.W.Frag} {O : AP_} {H : Hp} {x : V} {d : D} (r : Rp K O H x d) (h : d.flat = true) : flatV x = true := by
  cases r <;> first | rfl | cases h
theorem flat_vs {K : PySem.W.Frag} {O : AP_} {H : Hp} : ∀ {xs : List V} {ds : List D}, Rps K O H xs ds → ds.all D.flat = true → xs.all flatV = true
  | _, _, .nil, _ => rfl
  | _, _, .cons a r, h => by
    rw [List.all_cons, Bool.and_eq_true] at h ⊢
    exact ⟨flat_v a h.1, flat_vs r h.2⟩
theorem eqV_eqv {K : PySem.W.Frag} {O : AP_} {H : Hp} {x y : V} {d e : D} (r : Rp K O H x d) (r' : Rp K O H y e) (h : d.flat = true) (h' : e.flat = true) : eqV x y = D.eqv d e := by
  cases r <;> first | (simp [D.flat] at h; done) | skip
  all_goals cases r' <;> first | (simp [D.flat] at h'; done) | skip
  all_goals first
    | rfl
    | (simp [eqV, D.eqv, b2i]; done)
    | (simp only [eqV, D.eqv]; exact toS_beq _ _)
theorem inV_in {K : PySem.W.Frag} {O : AP_} {H : Hp} {x : V} {d : D} (r : Rp K O H x d) (h : d.flat = true) : ∀ {xs : List V} {ds : List D}, Rps K O H xs ds → ds.all D.flat = true → inV x xs = inSeq d ds
  | _, _, .nil, _ => rfl
  | _, _, .cons a q, h' => by
    rw [List.all_cons, Bool.and_eq_true] at h'
    unfold inV inSeq
    rw [List.any_cons, List.any_cons, eqV_eqv a r h'.1 h]
    congr 1
    exact inV_in r h q h'.2
theorem pys_any {d : D} {n : Nat} (h : d.dat n = true) : ∀ {ds : List D} {m : Nat}, (∀ x ∈ ds, x.dat m = true) → ((pys ds).any fun z => PyData.eqv z d.py) = inSeq d ds
  | [], _, _ => rfl
  | x :: xs, m, h' => by
    unfold inSeq
    rw [pys, List.any_cons, List.any_cons, D.py_eqv x d m n (h' x List.mem_cons_self) h]
    congr 1
    exact pys_any h fun y hy => h' y (List.mem_cons_of_mem _ hy)
theorem keyV {K : PySem.W.Frag} {O : AP_} {H : Hp} {x : V} {d : D} {k : At} (r : Rp K O H x d) (h : d.ky = some (.a k)) : x = kV (keyOf k) := by
  cases r with
  | int i => cases h; rfl
  | str x _ => cases h; rfl
  | tup h1 h2 h3 =>
    rename_i ds
    unfold D.ky at h
    dsimp only at h
    cases e : atAll ds <;> rw [e] at h <;> cases h
  | _ => cases h
theorem atAll_v {K : PySem.W.Frag} {O : AP_} {H : Hp} : ∀ {vs : List V} {ds : List D} {ks : List At}, Rps K O H vs ds → atAll ds = some ks → vs = (ks.map keyOf).map kV
  | _, _, ks, .nil, h => by cases h; rfl
  | _, _, ks, .cons (d := d) (ds := ds) a r, h => by
    unfold atAll at h
    cases h1 : d.at? with
    | none => rw [h1] at h; cases h
    | some k =>
      cases h2 : atAll ds with
      | none => rw [h1, h2] at h; cases h
      | some ks' =>
        rw [h1, h2] at h
        cases h
        rw [List.map_cons, List.map_cons, ← atAll_v r h2]
        congr 1
        refine keyV a ?_
        cases d with
        | int i => cases h1; rfl
        | str x => cases h1; rfl
        | _ => cases h1
theorem keyT {K : PySem.W.Frag} {O : AP_} {H : Hp} {x : V} {d : D} {ks : List At} (r : Rp K O H x d) (h : d.ky = some (.t ks)) : ∃ b, x = .ref b ∧ H b = some (.tup ((ks.map keyOf).map kV)) := by
  cases r with
  | tup h1 h2 h3 =>
    rename_i a vs ds
    unfold D.ky at h
    dsimp only at h
    cases e : atAll ds with
    | none => rw [e] at h; cases h
    | some r =>
      rw [e] at h
      cases h
      exact ⟨a, rfl, by rw [h2, atAll_v h3 e]⟩
  | _ => cases h
theorem val_k {K : PySem.W.Frag} {O : AP_} {H : Hp} (k : At) : ∀ {kvs : List (Key × V)} {ks : KVs}, RKs K O H kvs ks → (∃ v d, valV kvs (keyOf k) = some v ∧ kget ks (.a k) = some d ∧ Rp K O H v d) ∨ (valV kvs (keyOf k) = none ∧ kget ks (.a k) = none)
  | _, _, .nil => .inr ⟨rfl, rfl⟩
  | _, _, .cons (k := k') (v := v) (d := d) (s := s') _ a r => by
    by_cases e : k' = k
    · subst e
      exact .inl ⟨v, d, valV_pos rfl, by simp [kget], a⟩
    · rw [valV_neg (fun z => e (keyOf_inj z))]
      have : kget ((Ky.a k', d) :: s') (.a k) = kget s' (.a k) := by unfold kget; rw [List.find?_cons_of_neg (by simpa using e)]
      rw [this]
      exact val_k k r
theorem val_t {K : PySem.W.Frag} {O : AP_} {H : Hp} (k : List At) : ∀ {kvs : List (List Key × V)} {ks : KVs}, RTs K O H kvs ks → (∃ v d, valV kvs (k.map keyOf) = some v ∧ kget ks (.t k) = some d ∧ Rp K O H v d) ∨ (valV kvs (k.map keyOf) = none ∧ kget ks (.t k) = none)
  | _, _, .nil => .inr ⟨rfl, rfl⟩
  | _, _, .cons (k := k') (v := v) (d := d) (s := s') _ a r => by
    by_cases e : k' = k
    · subst e
      exact .inl ⟨v, d, valV_pos rfl, by simp [kget], a⟩
    · rw [valV_neg (fun z => e (keysOf_inj z))]
      have : kget ((Ky.t k', d) :: s') (.t k) = kget s' (.t k) := by unfold kget; rw [List.find?_cons_of_neg (by simpa using e)]
      rw [this]
      exact val_t k r
/-- a dict that is asked: locked, or the def's own -/
theorem dget_k {K : PySem.W.Frag} {O : AP_} {H : Hp} {a : Addr} {kvs : List (Key × V)} {ks : KVs} {x : V} {d : D} {q : Ky} (hd : Rd H a (.dK kvs)) (rk : RKs K O H kvs ks) (rx : Rp K O H x d) (hk : d.ky = some q) (hb : q.kind = true) :
    (∃ v e, DGet H a x (some v) ∧ kget ks q = some e ∧ Rp K O H v e) ∨ (DGet H a x none ∧ kget ks q = none) := by
  cases q with
  | t xs => cases hb
  | a k =>
    rw [keyV rx hk]
    rcases val_k k rk with ⟨v, e, h1, h2, h3⟩ | ⟨h1, h2⟩
    · exact .inl ⟨v, e, .inl ⟨kvs, keyOf k, hd, rfl, h1.symm⟩, h2, h3⟩
    · exact .inr ⟨.inl ⟨kvs, keyOf k, hd, rfl, h1.symm⟩, h2⟩
theorem dget_t {K : PySem.W.Frag} {O : AP_} {H : Hp} {a : Addr} {kvs : List (List Key × V)} {ks : KVs} {x : V} {d : D} {q : Ky} (hd : Rd H a (.dT kvs)) (rk : RTs K O H kvs ks) (rx : Rp K O H x d) (hk : d.ky = some q) (hb : q.kind = false) :
    (∃ v e, DGet H a x (some v) ∧ kget ks q = some e ∧ Rp K O H v e) ∨ (DGet H a x none ∧ kget ks q = none) := by
  cases q with
  | a k => cases hb
  | t k =>
    obtain ⟨b, rfl, hb⟩ := keyT rx hk
    rcases val_t k rk with ⟨v, e, h1, h2, h3⟩ | ⟨h1, h2⟩
    · exact .inl ⟨v, e, .inr ⟨kvs, k.map keyOf, b, hd, rfl, hb, h1.symm⟩, h2, h3⟩
    · exact .inr ⟨.inr ⟨kvs, k.map keyOf, b, hd, rfl, hb, h1.symm⟩, h2⟩
/-- v bears d, or it is a list, a dict that the def alone holds and that bears d -/
def Rb (K : PySem.W.Frag) (O : AP_) (H : Hp) (v : V) (d : D) : Prop :=
  Rp K O H v d ∨ (∃ p vs ds, v = .ref p ∧ d = .lst ds ∧ H p = some (.lst vs) ∧ Rps K O H vs ds) ∨ (∃ p kvs ks, v = .ref p ∧ d = .dic true ks ∧ H p = some (.dK kvs) ∧ RKs K O H kvs ks) ∨ ∃ p kvs ks, v = .ref p ∧ d = .dic false ks ∧ H p = some (.dT kvs) ∧ RTs K O H kvs ks
theorem Rb.inv_lst {K : PySem.W.Frag} {O : AP_} {H : Hp} {v : V} {ds : List D} (h : Rb K O H v (.lst ds)) : ∃ a vs, v = .ref a ∧ H a = some (.lst vs) ∧ Rps K O H vs ds := by
  rcases h with h | ⟨p, vs, ds', e1, e2, h1, h2⟩ | ⟨p, vs, ds', e1, e2, h1, h2⟩ | ⟨p, vs, ds', e1, e2, h1, h2⟩
  · obtain ⟨a, vs, e, _, h1, h2⟩ := h.inv_lst
    exact ⟨a, vs, e, h1, h2⟩
  · cases e2; exact ⟨p, vs, e1, h1, h2⟩
  · cases e2
  · cases e2
theorem Rb.inv_dk {K : PySem.W.Frag} {O : AP_} {H : Hp} {v : V} {ks : KVs} (h : Rb K O H v (.dic true ks)) : ∃ a kvs, v = .ref a ∧ Rd H a (.dK kvs) ∧ RKs K O H kvs ks := by
  rcases h with h | ⟨p, vs, ds', e1, e2, h1, h2⟩ | ⟨p, vs, ds', e1, e2, h1, h2⟩ | ⟨p, vs, ds', e1, e2, h1, h2⟩
  · obtain ⟨a, od, vs, e, _, h1, h2⟩ := h.inv_dk
    exact ⟨a, vs, e, .inr ⟨od, h1⟩, h2⟩
  · cases e2
  · cases e2; exact ⟨p, vs, e1, .inl h1, h2⟩
  · cases e2
theorem Rb.inv_dt {K : PySem.W.Frag} {O : AP_} {H : Hp} {v : V} {ks : KVs} (h : Rb K O H v (.dic false ks)) : ∃ a kvs, v = .ref a ∧ Rd H a (.dT kvs) ∧ RTs K O H kvs ks := by
  rcases h with h | ⟨p, vs, ds', e1, e2, h1, h2⟩ | ⟨p, vs, ds', e1, e2, h1, h2⟩ | ⟨p, vs, ds', e1, e2, h1, h2⟩
  · obtain ⟨a, od, vs, e, _, h1, h2⟩ := h.inv_dt
    exact ⟨a, vs, e, .inr ⟨od, h1⟩, h2⟩
  · cases e2
  · cases e2
  · cases e2; exact ⟨p, vs, e1, .inl h1, h2⟩
/-- neither list nor dict -/
def D.still : D → Bool
  | .lst _ => false
  | .dic _ _ => false
  | _ => true
theorem Rb.rp {K : PySem.W.Frag} {O : AP_} {H : Hp} {v : V} {d : D} (h : Rb K O H v d) (hd : d.still = true) : Rp K O H v d := by
  rcases h with h | ⟨p, vs, ds', e1, e2, h1, h2⟩ | ⟨p, vs, ds', e1, e2, h1, h2⟩ | ⟨p, vs, ds', e1, e2, h1, h2⟩
  · exact h
  all_goals subst e2; cases hd
def NoA : AP_ := fun _ => False
theorem Rb.weak {K : PySem.W.Frag} {O : AP_} {H : Hp} {v : V} {d : D} {n : Nat} (h : Rb K O H v d) (hd : d.dat n = true) : Rp K NoA H v d := by
  have k : ∀ a, NoA a → H a ≠ none → O a := fun _ z => z.elim
  rcases h with h | ⟨p, vs, ds', e1, e2, h1, h2⟩ | ⟨p, vs, ds', e1, e2, h1, h2⟩ | ⟨p, vs, ds', e1, e2, h1, h2⟩
  · exact h.keep k fun _ _ _ e => e
  · subst e1 e2
    exact .lst (fun z => z) h1 (h2.keep k fun _ _ _ e => e)
  · subst e2; cases n <;> cases hd
  · subst e2; cases n <;> cases hd
theorem Rb.more {K : PySem.W.Frag} {O : AP_} {H H' : Hp} {v : V} {d : D} (h : Rb K O H v d) (e : Same H H') : Rb K O H' v d := by
  rcases h with h | ⟨p, vs, ds', e1, e2, h1, h2⟩ | ⟨p, vs, ds', e1, e2, h1, h2⟩ | ⟨p, vs, ds', e1, e2, h1, h2⟩
  · exact .inl (h.more e)
  · exact .inr (.inl ⟨p, vs, ds', e1, e2, e _ _ h1, h2.more e⟩)
  · exact .inr (.inr (.inl ⟨p, vs, ds', e1, e2, e _ _ h1, h2.keep (fun _ z _ => z) fun a u _ q => e a u q⟩))
  · exact .inr (.inr (.inr ⟨p, vs, ds', e1, e2, e _ _ h1, h2.keep (fun _ z _ => z) fun a u _ q => e a u q⟩))
theorem ky_still {d : D} {q : Ky} (h : d.ky = some q) : d.still = true := by
  cases d <;> first | rfl | cases h
theorem flat_still {d : D} (h : d.flat = true) : d.still = true := by
  cases d <;> first | rfl | cases h
theorem dget_d {K : PySem.W.Frag} {O : AP_} {H : Hp} {y x : V} {b : Bool} {ks : KVs} {d : D} {q : Ky} (ry : Rb K O H y (.dic b ks)) (rx : Rp K O H x d) (hk : d.ky = some q) (hb : (q.kind == b) = true) :
    ∃ a, y = .ref a ∧ IsD H a ∧ ((∃ v e, DGet H a x (some v) ∧ kget ks q = some e ∧ Rp K O H v e) ∨ (DGet H a x none ∧ kget ks q = none)) := by
  have hb := eq_of_beq hb
  cases b with
  | true =>
    obtain ⟨a, kvs, rfl, h1, h2⟩ := ry.inv_dk
    exact ⟨a, rfl, .inl ⟨kvs, h1⟩, dget_k h1 h2 rx hk hb⟩
  | false =>
    obtain ⟨a, kvs, rfl, h1, h2⟩ := ry.inv_dt
    exact ⟨a, rfl, .inr ⟨kvs, h1⟩, dget_t h1 h2 rx hk hb⟩
theorem in_road (hr : X.A.units + 65 < cLine) {O : AP_} {pins : List (Addr × Obj)} {s : Shared} {σ : St} {H : Hp} {x y : V} {v u : Value} {d e : D} {b : Bool} (I : L2.Inv X pins σ H s) (rx : RelV x v) (ry : RelV y u) (r1 : Rb X.K O H x d) (r2 : Rb X.K O H y e) (h : inR d e = .ok b) :
    (∀ Q : VK, Q (.bl b) H → wpAny (model X.prog X.w) X.A (compareOp .In v u) (EP X pins σ Q) X.xe s) ∧ ∀ Q : VK, Q (.bl !b) H → wpAny (model X.prog X.w) X.A (compareOp .NotIn v u) (EP X pins σ Q) X.xe s := by
  have hu : X.A.units + 65 < cLine := hr
  cases e with
  | lst ys =>
    replace h : (if (d.dat 30 && ys.all (D.dat 30)) = true then R.ok (inSeq d ys) else .no) = R.ok b := h
    split at h
    · rename_i hc
      cases h
      rw [Bool.and_eq_true, List.all_eq_true] at hc
      have hl : (D.lst ys).dat 31 = true := by rw [D.dat, List.all_eq_true]; exact hc.2
      have e := pys_any hc.1 hc.2
      have r1 := r1.weak hc.1
      have r2 := r2.weak hl
      refine ⟨fun Q q => op_inD hu pins s σ H x y v u Q I rx ry ⟨_, pys ys, r1.dp hc.1, ?_, r1.shaped hc.1 (by decide), ?_, by rw [e]; exact q⟩, fun Q q => op_notInD hu pins s σ H x y v u Q I rx ry ⟨_, pys ys, r1.dp hc.1, ?_, r1.shaped hc.1 (by decide), ?_, by rw [e]; exact q⟩⟩
      · have := r2.dp hl; rw [D.py] at this; exact this
      · have := r2.shaped hl (by decide); rw [D.py] at this; exact this
      · have := r2.dp hl; rw [D.py] at this; exact this
      · have := r2.shaped hl (by decide); rw [D.py] at this; exact this
    · cases h
  | tup ys =>
    replace h : (if (d.flat && ys.all D.flat) = true then R.ok (inSeq d ys) else .no) = R.ok b := h
    split at h
    · rename_i hc
      cases h
      rw [Bool.and_eq_true] at hc
      have r1 := r1.rp (flat_still hc.1)
      obtain ⟨a, vs, rfl, _, h1, h2⟩ := (r2.rp rfl).inv_tup
      have e := inV_in r1 hc.1 h2 hc.2
      exact ⟨fun Q q => op_in_seq pins s σ H x _ v u Q I rx ry ⟨a, vs, rfl, .inr (.of h1), flat_v r1 hc.1, flat_vs h2 hc.2, by rw [e]; exact q⟩,
        fun Q q => op_notIn_seq pins s σ H x _ v u Q I rx ry ⟨a, vs, rfl, .inr (.of h1), flat_v r1 hc.1, flat_vs h2 hc.2, by rw [e]; exact q⟩⟩
    · cases h
  | str ys =>
    match d, h, r1 with
    | .str [c], h, r1 =>
      cases h
      have e : (!(Builtin.Str.occurrences (toS ys) (toS [c]) 0 (toS ys).length 1).isEmpty) = decide (c ∈ ys) := by
        exact (StrLaws.found_one (toS ys) c).trans (decide_eq_decide.mpr (by simp [toS]))
      exact ⟨fun Q q => op_in_str pins s σ H x y v u Q I rx ry ⟨_, _, (r1.rp rfl).inv_str.1, (r2.rp rfl).inv_str.1, by rw [e]; exact q⟩,
        fun Q q => op_notin_str pins s σ H x y v u Q I rx ry ⟨_, _, (r1.rp rfl).inv_str.1, (r2.rp rfl).inv_str.1, by rw [e]; exact q⟩⟩
    | .str [], h, _ => cases h
    | .str (_ :: _ :: _), h, _ => cases h
    | .non, h, _ => cases h
    | .bl _, h, _ => cases h
    | .int _, h, _ => cases h
    | .lst _, h, _ => cases h
    | .tup _, h, _ => cases h
    | .dic _ _, h, _ => cases h
    | .scr _, h, _ => cases h
  | dic t ks =>
    unfold inR at h
    simp only at h
    split at h
    · rename_i q hq
      split at h
      · rename_i hk
        cases h
        obtain ⟨a, rfl, _, g⟩ := dget_d r2 (r1.rp (ky_still hq)) hq hk
        cases ry
        rcases g with ⟨w, e, g1, g2, g3⟩ | ⟨g1, g2⟩
        · rw [g2]
          exact ⟨fun Q q => d_in (show X.A.units + 1 < cLine by omega) I g1 rx fun s' J => ⟨.bl true, H, J, rfl, q⟩, fun Q q => d_notIn (show X.A.units + 1 < cLine by omega) I g1 rx fun s' J => ⟨.bl false, H, J, rfl, q⟩⟩
        · rw [g2]
          exact ⟨fun Q q => d_in (show X.A.units + 1 < cLine by omega) I g1 rx fun s' J => ⟨.bl false, H, J, rfl, q⟩, fun Q q => d_notIn (show X.A.units + 1 < cLine by omega) I g1 rx fun s' J => ⟨.bl true, H, J, rfl, q⟩⟩
      · cases h
    · cases h
  | _ => cases h
theorem opD_in (hr : X.A.units + 65 < cLine) : OpD X (compareOp .In) (cmB .inn) := opD_bl fun O pins s σ H x y v u Q d e b I rx ry r1 r2 h q => (in_road hr I rx ry (.inl r1) (.inl r2) h).1 Q q
theorem opD_nin (hr : X.A.units + 65 < cLine) : OpD X (compareOp .NotIn) (cmB .nin) := opD_bl fun O pins s σ H x y v u Q d e b I rx ry r1 r2 h q => (in_road hr I rx ry (.inl r1) (.inl r2) (neg_ok h)).2 Q (by rw [Bool.not_not]; exact q)
end
end Mi

set_option Elab.async false
set_option linter.all false
set_option maxRecDepth 100000
set_option maxHeartbeats 4000000
/-! Mi, soundness 6: order -/
namespace Mi
open PySem L2
theorem lexN_lt : ∀ x y : List Nat, lexN x y = decide (x < y)
  | [], [] => by simp [lexN]
  | [], _ :: _ => by simp [lexN]
  | _ :: _, [] => by simp [lexN]
  | x :: xs, y :: ys => by
    unfold lexN
    split
    · rename_i e
      subst e
      rw [lexN_lt xs ys]
      simp
    · rename_i e
      rw [Bool.eq_iff_iff]
      simp only [decide_eq_true_eq, List.cons_lt_cons_iff]
      constructor
      · exact fun h => .inl h
      · rintro (h | ⟨h, _⟩)
        · exact h
        · exact absurd h e
theorem lexN_toS (x y : List Nat) : lexN x y = decide ((toS x).cps.toList < (toS y).cps.toList) := (lexN_lt x y).trans (decide_eq_decide.mpr (by simp [toS]))
theorem lexAt_step (e r : Nat → Bool) (z : Bool) : ∀ (k i : Nat), Ob.lexAt (fun j => e (j + 1)) (fun j => r (j + 1)) z i k = Ob.lexAt e r z (i + 1) k
  | 0, _ => rfl
  | k + 1, i => by
    rw [Ob.lexAt_succ, Ob.lexAt_succ, lexAt_step e r z k (i + 1)]
def atE (xs ys : List D) (j : Nat) : Bool := D.eqv (xs.getD j .non) (ys.getD j .non)
def atL (xs ys : List D) (j : Nat) : Bool := (atLt (xs.getD j .non) (ys.getD j .non)).getD false
theorem lexD_lt : ∀ (xs ys : List D), Ob.lexAt (atE xs ys) (atL xs ys) (decide (xs.length < ys.length)) 0 (min xs.length ys.length) = lexD xs ys
  | [], [] => rfl
  | [], _ :: _ => by simp [Ob.lexAt, lexD]
  | _ :: _, [] => by simp [Ob.lexAt, lexD]
  | x :: xs, y :: ys => by
    have e0 : atE (x :: xs) (y :: ys) 0 = D.eqv x y := rfl
    have l0 : atL (x :: xs) (y :: ys) 0 = (atLt x y).getD false := rfl
    rw [show min (x :: xs).length (y :: ys).length = min xs.length ys.length + 1 by simp only [List.length_cons]; omega, Ob.lexAt_succ, e0, l0, lexD]
    by_cases he : D.eqv x y = true
    · rw [if_pos he, if_pos he, ← lexAt_step, ← lexD_lt xs ys]
      simp only [List.length_cons, Nat.add_lt_add_iff_right]
      rfl
    · rw [if_neg he, if_neg he]
theorem lexD_ge : ∀ (xs ys : List D), Ob.lexAt (atE xs ys) (fun j => !atL xs ys j) (decide (xs.length ≥ ys.length)) 0 (min xs.length ys.length) = !lexD xs ys
  | [], [] => rfl
  | [], _ :: _ => by simp [Ob.lexAt, lexD]
  | _ :: _, [] => by simp [Ob.lexAt, lexD]
  | x :: xs, y :: ys => by
    have e0 : atE (x :: xs) (y :: ys) 0 = D.eqv x y := rfl
    have l0 : atL (x :: xs) (y :: ys) 0 = (atLt x y).getD false := rfl
    rw [show min (x :: xs).length (y :: ys).length = min xs.length ys.length + 1 by simp only [List.length_cons]; omega, Ob.lexAt_succ, e0, l0, lexD]
    by_cases he : D.eqv x y = true
    · rw [if_pos he, if_pos he, ← lexD_ge xs ys]
      have := lexAt_step (atE (x :: xs) (y :: ys)) (fun j => !atL (x :: xs) (y :: ys) j) (decide ((x :: xs).length ≥ (y :: ys).length)) (min xs.length ys.length) 0
      rw [← this]
      simp only [List.length_cons, ge_iff_le, Nat.add_le_add_iff_right]
      rfl
    · rw [if_neg he, if_neg he]
theorem all_getD {p : D → Bool} {xs : List D} (h : xs.all p = true) {j : Nat} (hj : j < xs.length) : p (xs.getD j .non) = true := by
  rw [List.getD_eq_getElem?_getD, List.getElem?_eq_getElem hj]
  exact List.all_eq_true.mp h _ (List.getElem_mem hj)
theorem Rps.at {K : PySem.W.Frag} {O : AP_} {H : Hp} {vs : List V} {ds : List D} {us : List Value} (r : Rps K O H vs ds) (rv : Vals vs us) {j : Nat} (hj : j < us.length) : ∃ v, RelV v us[j] ∧ Rp K O H v (ds.getD j .non) ∧ j < ds.length := by
  have h1 := r.length
  have h2 := rv.length
  have hd : j < ds.length := by omega
  obtain ⟨v, e, q⟩ := r.get (List.getElem?_eq_getElem hd)
  obtain ⟨u, e2, q2⟩ := rv.get e
  rw [List.getElem?_eq_getElem hj] at e2
  cases e2
  refine ⟨v, q2, ?_, hd⟩
  rw [List.getD_eq_getElem?_getD, List.getElem?_eq_getElem hd]
  exact q
theorem rc_lt {A : Around} {s : Shared} {K : PySem.W.Frag} {O : AP_} {H : Hp} {v w : V} {x y : D} {u u' : Value} (r1 : Rp K O H v x) (r2 : Rp K O H w y) (e1 : RelV v u) (e2 : RelV w u') {b : Bool} (h : atLt x y = some b) : Ob.RcOp .Lt A s u u' b ∧ Ob.RcOp .GtE A s u u' (!b) := by
  cases x <;> cases y <;> first | cases h | skip
  · rename_i i j
    obtain rfl := r1.inv_int
    obtain rfl := r2.inv_int
    obtain ⟨t, rfl⟩ := e1
    obtain ⟨t', rfl⟩ := e2
    refine ⟨.lt_int i j t t', ?_⟩
    have := Ob.RcOp.ge_int (A := A) (s := s) i j t t'
    rw [show (!decide (i < j)) = decide (j ≤ i) by rw [Bool.eq_iff_iff]; simp]
    exact this
  · rename_i i j
    obtain rfl := r1.inv_str.1
    obtain rfl := r2.inv_str.1
    obtain ⟨t, rfl⟩ := e1
    obtain ⟨t', rfl⟩ := e2
    rw [lexN_toS]
    refine ⟨fun prog w E Q q => ?_, fun prog w E Q q => ?_⟩
    · exact PySem.P.lt_str q
    · exact PySem.P.ge_str q
section
variable {X : Cx}
theorem lt_tups {op : CmpOp} {c : Cm} (hr : X.A.units + 65 < cLine) {O : AP_} {pins : List (Addr × Obj)} {s : Shared} {σ : St} {H : Hp} {x y : V} {v u : Value} {xs ys : List D} {b : Bool} (I : L2.Inv X pins σ H s) (rx : RelV x v) (ry : RelV y u) (r1 : Rp X.K O H x (.tup xs)) (r2 : Rp X.K O H y (.tup ys)) (h : tupLt xs ys = some b) :
    Ob.RcOp .Lt X.A s v u b ∧ Ob.RcOp .GtE X.A s v u (!b) := by
  obtain ⟨a1, vs, rfl, _, h1, q1⟩ := r1.inv_tup
  obtain ⟨a2, ws, rfl, _, h2, q2⟩ := r2.inv_tup
  cases rx
  cases ry
  obtain ⟨its, rv, ht, _⟩ := I.tuple (.of h1)
  obtain ⟨its2, rv2, ht2, _⟩ := I.tuple (.of h2)
  unfold tupLt at h
  split at h
  · rename_i hc
    cases h
    have hu := (show X.A.units < cLine by omega)
    have l1 : its.toArray.size = xs.length := by rw [List.size_toArray, ← rv.length, q1.length]
    have l2 : its2.toArray.size = ys.length := by rw [List.size_toArray, ← rv2.length, q2.length]
    have at_ : ∀ j (h1 : j < its.toArray.size) (h2 : j < its2.toArray.size), ∃ v w c, RelV v its.toArray[j] ∧ RelV w its2.toArray[j] ∧ Rp X.K O H v (xs.getD j .non) ∧ Rp X.K O H w (ys.getD j .non) ∧ atLt (xs.getD j .non) (ys.getD j .non) = some c ∧ (xs.getD j .non).flat = true ∧ (ys.getD j .non).flat = true := fun j h1 h2 => by
      obtain ⟨v, e1, p1, k1⟩ := q1.at rv (j := j) (by simpa using h1)
      obtain ⟨w, e2, p2, k2⟩ := q2.at rv2 (j := j) (by simpa using h2)
      rw [Bool.or_eq_true, Bool.and_eq_true, Bool.and_eq_true] at hc
      rcases hc with ⟨c1, c2⟩ | ⟨c1, c2⟩
      · have z1 := all_getD c1 k1
        have z2 := all_getD c2 k2
        generalize xs.getD j .non = X1 at *
        generalize ys.getD j .non = Y1 at *
        cases X1 <;> first | cases z1 | skip
        cases Y1 <;> first | cases z2 | skip
        exact ⟨v, w, _, e1, e2, p1, p2, rfl, rfl, rfl⟩
      · have z1 := all_getD c1 k1
        have z2 := all_getD c2 k2
        generalize xs.getD j .non = X1 at *
        generalize ys.getD j .non = Y1 at *
        cases X1 <;> first | cases z1 | skip
        cases Y1 <;> first | cases z2 | skip
        exact ⟨v, w, _, e1, e2, p1, p2, rfl, rfl, rfl⟩
    have he : ∀ j (h1 : j < its.toArray.size) (h2 : j < its2.toArray.size), SeqAt.EqAt X.A.in1 s its.toArray[j] its2.toArray[j] (atE xs ys j) := fun j h1 h2 => by
      obtain ⟨v, w, c, e1, e2, p1, p2, _, f1, f2⟩ := at_ j h1 h2
      unfold atE
      rw [← eqV_eqv p1 p2 f1 f2]
      exact eqAt_V e1 e2 (flat_v p1 f1) (flat_v p2 f2)
    constructor
    · have := Ob.RcOp.tuples_lt (A := X.A) (s := s) (e := atE xs ys) (r := atL xs ys) ht ht2 hu he fun j h1 h2 _ => by
        obtain ⟨v, w, c, e1, e2, p1, p2, hl, _, _⟩ := at_ j h1 h2
        unfold atL
        rw [hl]
        exact (rc_lt p1 p2 e1 e2 hl).1
      rw [l1, l2, lexD_lt] at this
      exact this
    · have := Ob.RcOp.tuples_ge (A := X.A) (s := s) (e := atE xs ys) (r := fun j => !atL xs ys j) ht ht2 hu he fun j h1 h2 _ => by
        obtain ⟨v, w, c, e1, e2, p1, p2, hl, _, _⟩ := at_ j h1 h2
        unfold atL
        rw [hl]
        exact (rc_lt p1 p2 e1 e2 hl).2
      rw [l1, l2, lexD_ge] at this
      exact this
  · cases h
theorem opD_lt (hr : X.A.units + 65 < cLine) : OpD X (compareOp .Lt) (cmB .lt) := opD_bl fun O pins s σ H x y v u Q d e b I rx ry r1 r2 h q => by
  have h : R.ofO (D.lt d e) = .ok b := h
  have h : D.lt d e = some b := by
    cases z : D.lt d e with
    | none => rw [z] at h; cases h
    | some c => rw [z] at h; cases h; rfl
  have at_ : ∀ {d e : D}, atLt d e = some b → Rp X.K O H x d → Rp X.K O H y e → wpAny (model X.prog X.w) X.A (compareOp .Lt v u) (EP X pins σ Q) X.xe s := fun {d e} h r1 r2 => by
    cases d <;> cases e <;> first | cases h | skip
    · exact op_lt pins s σ H x y v u Q I rx ry ⟨_, _, r1.inv_int, r2.inv_int, q⟩
    · rw [lexN_toS] at q
      exact op_lt_str pins s σ H x y v u Q I rx ry ⟨_, _, r1.inv_str.1, r2.inv_str.1, q⟩
  cases d with
  | tup xs =>
    cases e with
    | tup ys => exact (lt_tups (op := .Lt) (c := .lt) hr I rx ry r1 r2 h).1 X.prog X.w X.xe _ ⟨.bl b, H, I, rfl, q⟩
    | _ => exact at_ (d := .tup xs) (by exact h) r1 r2
  | _ => exact at_ (by cases e <;> exact h) r1 r2
theorem opD_le : OpD X (compareOp .LtE) (cmB .le) := opD_bl fun O pins s σ H x y v u Q d e b I rx ry r1 r2 h q => by
  have h : leR d e = .ok b := h
  cases d <;> cases e <;> first | cases h | skip
  exact op_le pins s σ H x y v u Q I rx ry ⟨_, _, r1.inv_int, r2.inv_int, q⟩
theorem opD_gt : OpD X (compareOp .Gt) (cmB .gt) := opD_bl fun O pins s σ H x y v u Q d e b I rx ry r1 r2 h q => by
  have h : gtR d e = .ok b := h
  cases d <;> cases e <;> first | cases h | skip
  exact op_gt pins s σ H x y v u Q I rx ry ⟨_, _, r1.inv_int, r2.inv_int, q⟩
theorem opD_ge (hr : X.A.units + 65 < cLine) : OpD X (compareOp .GtE) (cmB .ge) := opD_bl fun O pins s σ H x y v u Q d e b I rx ry r1 r2 h q => by
  have h : geR d e = .ok b := h
  cases d with
  | int i =>
    cases e with
    | int j =>
      cases h
      exact op_ge pins s σ H x y v u Q I rx ry ⟨_, _, r1.inv_int, r2.inv_int, q⟩
    | _ => cases h
  | tup xs =>
    cases e with
    | tup ys =>
      unfold geR at h
      simp only at h
      cases z : tupLt xs ys with
      | none => rw [z] at h; cases h
      | some c =>
        rw [z] at h
        cases h
        exact (lt_tups (op := .Lt) (c := .lt) hr I rx ry r1 r2 z).2 X.prog X.w X.xe _ ⟨.bl _, H, I, rfl, q⟩
    | _ => cases h
  | _ => cases e <;> cases h
end
end Mi

set_option Elab.async false
set_option linter.all false
set_option maxRecDepth 100000
set_option maxHeartbeats 4000000
/-! Mi, soundness 7: minus, subscripts, slices -/
namespace Mi
open PySem L2
section
variable {X : Cx} {cl : Gx} {W : WX} {a b c : Expr} {fa fb fc : Env → R D} {pos p2 : Pos}
def negR : D → R D := fun x => match x with
  | .int i => .ok (.int (-i))
  | _ => .no
theorem unD_neg : UnD X (unaryOp .USub) negR := by
  refine ⟨fun x c => by unfold negR; split <;> simp, fun O pins s σ H x v Q I rx h => ?_⟩
  obtain ⟨dom, d, z, r1, hz, q⟩ := h
  cases d <;> first | cases hz | skip
  exact un_neg pins s σ H x v Q I rx ⟨_, r1.inv_int, q _ H (Same.refl H) (.int _)⟩
/-! ### subscripts -/
theorem ixN_eq (n : Nat) (i : Int) : L2.ixN n i = Mi.ixN n i := rfl
theorem atI_rps {K : PySem.W.Frag} {O : AP_} {H : Hp} {vs : List V} {ds : List D} {i : Int} {d : D} (r : Rps K O H vs ds) (h : Mi.atI ds i = some d) : ∃ v, L2.atI vs i = some v ∧ Rp K O H v d := by
  unfold Mi.atI at h
  unfold L2.atI
  rw [r.length, ixN_eq]
  cases e : Mi.ixN ds.length i with
  | none => rw [e] at h; cases h
  | some j =>
    rw [e] at h
    exact r.get h
theorem atI_ints {ns : List Int} {i n : Int} (h : Mi.atI ns i = some n) : L2.atI (ns.map V.int) i = some (.int n) := by
  unfold Mi.atI at h
  unfold L2.atI
  rw [List.length_map, ixN_eq]
  cases e : Mi.ixN ns.length i with
  | none => rw [e] at h; cases h
  | some j =>
    rw [e] at h
    show (ns.map V.int)[j]? = _
    have h : ns[j]? = some n := h
    rw [List.getElem?_map, h]
    rfl
theorem ixR_norz (x y : D) (c : Nat) : ixR x y ≠ .rz c := by
  unfold ixR
  repeat' split
  all_goals first | (intro h; cases h; done) | skip
  all_goals
    intro h
    unfold R.ofO at h
    split at h <;> cases h
theorem ofO_ok {α : Type} {o : Option α} {z : α} (h : R.ofO o = .ok z) : o = some z := by
  cases o with
  | none => cases h
  | some a => cases h; rfl
/-- a subscript by values -/
def IxD (X : Cx) (g : D → D → R D) : Prop := ∀ (O : AP_), IxR X (fun x y H Q => (∀ a, O a → H a ≠ none) ∧ ∃ d e z, Rp X.K O H x d ∧ Rp X.K O H y e ∧ g d e = .ok z ∧ ∀ v H', Same H H' → Rp X.K O H' v z → Q v H')
theorem ixD (hr : X.A.units + 65 < cLine) : IxD X ixR := by
  intro O value slice pins s σ H x y v u Q I rx ry h hs
  obtain ⟨dom, d, e, z, r1, r2, hz, q⟩ := h
  have fin : ∀ {w : V}, Rp X.K O H w z → Q w H := fun r => q _ H (Same.refl H) r
  cases d with
  | scr ns =>
    cases e <;> first | cases hz | skip
    rename_i i
    unfold ixR at hz
    simp only at hz
    cases ha : atI ns i with
    | none => rw [ha] at hz; cases hz
    | some n =>
      rw [ha] at hz
      cases hz
      obtain ⟨p, rfl, hl⟩ := r1.inv_scr
      exact ix_list value slice pins s σ H _ y v u Q I rx ry ⟨p, _, i, _, rfl, r2.inv_int, hl, atI_ints ha, fin (.int n)⟩ hs
  | lst xs =>
    cases e <;> first | cases hz | skip
    rename_i i
    have hz : R.ofO (atI xs i) = .ok z := hz
    obtain ⟨p, vs, rfl, _, h1, h2⟩ := r1.inv_lst
    obtain ⟨w, ew, rw_⟩ := atI_rps h2 (ofO_ok hz)
    exact ix_list value slice pins s σ H _ y v u Q I rx ry ⟨p, vs, i, w, rfl, r2.inv_int, .of h1, ew, fin rw_⟩ hs
  | tup xs =>
    cases e <;> first | cases hz | skip
    rename_i i
    have hz : R.ofO (atI xs i) = .ok z := hz
    obtain ⟨p, vs, rfl, _, h1, h2⟩ := r1.inv_tup
    obtain ⟨w, ew, rw_⟩ := atI_rps h2 (ofO_ok hz)
    exact ix_tup value slice pins s σ H _ y v u Q I rx ry ⟨p, vs, i, w, rfl, r2.inv_int, .of h1, ew, fin rw_⟩ hs
  | str xs =>
    cases e <;> first | cases hz | skip
    rename_i i
    unfold ixR at hz
    simp only at hz
    cases ha : atI xs i with
    | none => rw [ha] at hz; cases hz
    | some n =>
      rw [ha] at hz
      cases hz
      obtain ⟨rfl, ok⟩ := r1.inv_str
      have hm : n ∈ xs := by
        unfold atI at ha
        cases e : Mi.ixN xs.length i with
        | none => rw [e] at ha; cases ha
        | some j => rw [e] at ha; exact List.mem_of_getElem? ha
      refine ix_str value slice pins s σ H _ y v u Q I rx ry ⟨toS xs, i, n, rfl, r2.inv_int, by rw [toS_len]; exact ok.1, ?_, fin (w := .str ⟨#[n]⟩) (.str [n] ⟨by rw [sizeLine_eq]; simp, fun c hc => ok.2 c (by simp at hc; rw [hc]; exact hm)⟩)⟩ hs
      show L2.atI xs i = some n
      exact ha
  | dic b ks =>
    unfold ixR at hz
    simp only at hz
    split at hz
    · rename_i qk hk
      split at hz
      · rename_i hb
        obtain ⟨p, rfl, _, g⟩ := dget_d (.inl r1) r2 hk hb
        cases rx
        rcases g with ⟨w, e', g1, g2, g3⟩ | ⟨_, g2⟩
        · rw [g2] at hz
          cases hz
          exact PyProof.Rows.tail_any (dict_typeIs I g1) PySem.F.slot_dict_getitem.lookup (d_getItem (show X.A.units + 1 < cLine by omega) I g1 ry fun w' s' J rw' => ⟨w, H, J, rw', fin g3⟩) hs
        · rw [g2] at hz; cases hz
      · cases hz
    · cases hz
  | _ => cases e <;> cases hz
theorem plainIx_of {b : Expr} (h : (match b with | .Slice _ _ _ _ => false | _ => true) = true) : PlainIx b := by
  intro o i
  cases b <;> first | rfl | cases h
theorem de_ix {g : D → D → R D} (hn : ∀ x y c, g x y ≠ .rz c) (h : IxD X g) (ha : DE X cl W a fa) (hb : DE X cl W b fb) (hs : PlainIx b) : DE X cl W (.Subscript a b pos) fun ρ => (fa ρ).bind fun x => (fb ρ).bind fun y => g x y :=
  ⟨fun O ρ => ⟨fun pins s σ H Q I q => (pe_ix (h (OO O σ ρ)) (ha.run O ρ) (hb.run O ρ) hs).run pins s σ H Q I (by
    refine tE.bind q fun x d H1 st1 s1 r1 _ q1 => ?_
    refine tE.bind ⟨st1, q1⟩ fun y e H2 st2 s2 r2 _ q2 => ⟨st2.dom, d, e, ?_⟩
    cases hz : g d e with
    | ok z => rw [hz] at q2; exact ⟨z, r1.more s2, r2, rfl, q2⟩
    | rz c => exact absurd hz (hn d e c)
    | no => rw [hz] at q2; exact q2.elim)⟩⟩
/-! ### slices -/
theorem sIx_eq (n d : Nat) (o : Option Int) : HT.sIx n d o = Mi.sIx n d o := by cases o <;> rfl
theorem Rps.cut {K : PySem.W.Frag} {O : AP_} {H : Hp} {vs : List V} {ds : List D} (r : Rps K O H vs ds) (lo hi : Option Int) : Rps K O H (cutV vs lo hi) (Mi.cut ds lo hi) := by
  unfold cutV Mi.cut
  rw [sIx_eq, sIx_eq, r.length]
  exact (r.drop _).take _
theorem cutS_eq (z : List Nat) (lo hi : Option Int) : cutS (toS z) lo hi = toS (Mi.cut z lo hi) := by
  unfold cutS toS Mi.cut
  simp [sIx_eq, Str.length]
def SlD (X : Cx) : Prop := ∀ (O : AP_), L2.SlR X (fun x lo hi H Q => (∀ a, O a → H a ≠ none) ∧ ∃ d z, Rp X.K O H x d ∧ slR d lo hi = .ok z ∧ ∀ v H', Same H H' → Rp X.K O H' v z → Q v H')
theorem sliceD : SlD X := by
  intro O pins s σ H x v vl vu lo hi sl Q I rx hs pl pu h
  obtain ⟨dom, d, z, r1, hz, q⟩ := h
  cases d <;> first | cases hz | skip
  · obtain ⟨rfl, ok⟩ := r1.inv_str
    refine sl_str pins s σ H _ v vl vu lo hi sl Q I rx hs pl pu ⟨_, rfl, by rw [toS_len]; exact ok.1, ?_⟩
    rw [cutS_eq]
    refine q _ H (Same.refl H) (.str _ ⟨Nat.le_trans ?_ ok.1, fun c hc => ok.2 c (List.mem_of_mem_drop (List.mem_of_mem_take hc))⟩)
    unfold Mi.cut
    rw [List.length_take, List.length_drop]
    omega
  · obtain ⟨p, vs, rfl, _, h1, h2⟩ := r1.inv_lst
    exact sl_list pins s σ H _ v vl vu lo hi sl Q I rx hs pl pu ⟨p, vs, rfl, .of h1, new_lst dom (h2.cut lo hi) q⟩
  · obtain ⟨p, vs, rfl, n1, h1, h2⟩ := r1.inv_tup
    refine sl_tupA pins s σ H _ v vl vu lo hi sl Q I rx hs pl pu ⟨p, vs, rfl, .of h1, fun hw => ?_, fun hw => new_tup dom (h2.cut lo hi) q⟩
    refine q _ H (Same.refl H) ?_
    have e := h2.cut lo hi
    have e2 : cutV vs lo hi = vs := by
      unfold cutV
      rw [hw.1, hw.2, List.drop_zero, Nat.sub_zero, List.take_length]
    rw [e2] at e
    exact .tup n1 h1 e
/-- a slice's part -/
def tOp_ (K : PySem.W.Frag) (cl : Gx) (O : AP_) (W : WX) (ρ : Env) (r : R (Option Int)) : TO := fun σ H Q => StE K cl O σ H ρ ∧ (match r with
  | .ok p => ∀ H', Same H H' → Q p H'
  | .rz c => ∀ H', Same H H' → W (.ref (cl.cl c)) none σ H'
  | .no => False)
structure DO (X : Cx) (cl : Gx) (W : WX) (e : Option Expr) (f : Env → R (Option Int)) : Prop where
  run : ∀ (O : AP_) (ρ : Env), PO X e (tOp_ X.K cl O W ρ (f ρ))
theorem _root_.L2.PO.imp {e : Option Expr} {t t' : TO} (h : PO X e t) (k : ∀ σ H Q, t' σ H Q → t σ H Q) : PO X e t' := ⟨fun pins s σ H Q I q => h.run pins s σ H Q I (k σ H Q q)⟩
theorem do_none {f : Env → R D} : DO X cl W none fun ρ => partR false (f ρ) := ⟨fun O ρ => po_none.imp fun σ H Q q => q.2 H (Same.refl H)⟩
theorem do_some (ha : DE X cl W a fa) : DO X cl W (some a) fun ρ => partR true (fa ρ) := ⟨fun O ρ => (po_some (ha.run O ρ)).imp fun σ H Q q => by
  refine ⟨q.1, ?_⟩
  have q2 := q.2
  unfold partR at q2
  rw [if_pos rfl] at q2
  cases hf : fa ρ with
  | ok d =>
    rw [hf] at q2
    cases d <;> first | exact q2.elim | skip
    exact fun v H1 s r => ⟨_, r.inv_int, q2 H1 s⟩
  | rz c => rw [hf] at q2; exact q2
  | no => rw [hf] at q2; exact q2.elim⟩
theorem slR_norz (x : D) (lo hi : Option Int) (c : Nat) : slR x lo hi ≠ .rz c := by
  unfold slR
  split <;> simp
theorem tO.bind {O : AP_} {H : Hp} {ρ : Env} {σ : St} {Q : VK} {r : R (Option Int)} {g : Option Int → R D} {P : Option Int → Hp → Prop} (st : StE X.K cl O σ H ρ) (h : RQ X.K cl O W ρ σ H Q (r.bind g))
    (k : ∀ p H1, StE X.K cl O σ H1 ρ → Same H H1 → RQ X.K cl O W ρ σ H1 Q (g p) → P p H1) : tOp_ X.K cl O W ρ r σ H P := by
  refine ⟨st, ?_⟩
  cases r with
  | ok p => exact fun H1 s => k p H1 (st.more s) s (RQ.more h s)
  | rz c => exact h
  | no => exact h
theorem de_sl {lo hi : Option Expr} {fl fh : Env → R (Option Int)} (ha : DE X cl W a fa) (hl : DO X cl W lo fl) (hh : DO X cl W hi fh) : DE X cl W (.Subscript a (.Slice lo hi none p2) pos) fun ρ => (fa ρ).bind fun x => (fl ρ).bind fun l => (fh ρ).bind fun h => slR x l h :=
  ⟨fun O ρ => ⟨fun pins s σ H Q I q => (pe_slice (sliceD (OO O σ ρ)) (ha.run O ρ) (hl.run O ρ) (hh.run O ρ)).run pins s σ H Q I (by
    refine tE.bind q fun x d H1 st1 s1 r1 _ q1 => ?_
    refine tO.bind st1 q1 fun l H2 st2 s2 q2 => ?_
    refine tO.bind st2 q2 fun h H3 st3 s3 q3 => ⟨st3.dom, d, ?_⟩
    cases hz : slR d l h with
    | ok z => rw [hz] at q3; exact ⟨z, (r1.more s2).more s3, rfl, q3⟩
    | rz c => exact absurd hz (slR_norz d l h c)
    | no => rw [hz] at q3; exact q3.elim)⟩⟩
end
end Mi

set_option Elab.async false
set_option linter.all false
set_option maxRecDepth 100000
set_option maxHeartbeats 4000000
/-! Mi, soundness 8: operands that are lent; calls of built-ins -/
namespace Mi
open PySem L2
/-! ### expressions whose value may be the def's own list, dict -/
section
variable (K : PySem.W.Frag) (cl : Gx) (O : AP_) (W : WX) (ρ : Env)
def RQb (σ : St) (H : Hp) (Q : VK) : R D → Prop
  | .ok d => ∀ v H', Same H H' → Rb K (OO O σ ρ) H' v d → Q v H'
  | .rz c => ∀ H', Same H H' → W (.ref (cl.cl c)) none σ H'
  | .no => False
def tB (f : R D) : TE := fun σ H Q => StE K cl O σ H ρ ∧ RQb K cl O W ρ σ H Q f
end
section
variable {K : PySem.W.Frag} {cl : Gx} {O : AP_} {H H' : Hp} {W : WX} {ρ : Env} {σ : St} {Q : VK} {f : R D}
theorem tB.bind {g : D → R D} {P : VK} (h : tE K cl O W ρ (f.bind g) σ H Q)
    (k : ∀ v d H1, StE K cl O σ H1 ρ → Same H H1 → Rb K (OO O σ ρ) H1 v d → f = .ok d → RQ K cl O W ρ σ H1 Q (g d) → P v H1) : tB K cl O W ρ f σ H P := by
  refine ⟨h.1, ?_⟩
  have q := h.2
  cases f with
  | ok d => exact fun v H1 s r => k v d H1 (h.1.more s) s r rfl (RQ.more q s)
  | rz c => exact q
  | no => exact q
end
structure DB (X : Cx) (cl : Gx) (W : WX) (e : Expr) (f : Env → R D) : Prop where
  run : ∀ (O : AP_) (ρ : Env), PE X e (tB X.K cl O W ρ (f ρ))
section
variable {X : Cx} {cl : Gx} {W : WX} {a b c : Expr} {fa fb fc : Env → R D} {pos : Pos}
theorem DE.db {e : Expr} {f : Env → R D} (h : DE X cl W e f) : DB X cl W e f := ⟨fun O ρ => (h.run O ρ).imp fun σ H Q q => by
  refine ⟨q.1, ?_⟩
  have q2 := q.2
  cases hf : f ρ with
  | ok d => rw [hf] at q2; exact fun v H1 s r => q2 v H1 s (.inl r)
  | rz c => rw [hf] at q2; exact q2
  | no => rw [hf] at q2; exact q2⟩
theorem db_own {i : Nat} {x : Str} {pos : Pos} (hN : X.N[i]? = some x) (hv : Vis X.env.scope x) (hd : (x == ("__debug__" : Str)) = false) (hcd : (x == ("__classdict__" : Str)) = false) : DB X cl W (.Name x pos) fun ρ => slO (getS ρ i) :=
  ⟨fun O ρ => (pe_var hN hv hd hcd).imp fun σ H Q q => by
    obtain ⟨st, q⟩ := q
    cases e : slO (getS ρ i) with
    | ok d =>
      rw [e] at q
      obtain ⟨p, h1, h2⟩ := slO_at st e
      refine ⟨.ref p, h1, q _ H (Same.refl H) ?_⟩
      rcases h2 with ⟨xs, vs, rfl, a, b⟩ | ⟨xs, vs, rfl, a, b⟩ | ⟨xs, vs, rfl, a, b⟩
      · exact .inr (.inl ⟨p, vs, xs, rfl, rfl, a, b⟩)
      · exact .inr (.inr (.inl ⟨p, vs, xs, rfl, rfl, a, b⟩))
      · exact .inr (.inr (.inr ⟨p, vs, xs, rfl, rfl, a, b⟩))
    | rz c =>
      generalize getS ρ i = y at e
      cases y <;> cases e
    | no => rw [e] at q; exact q.elim⟩
theorem DE.congr {e : Expr} {f g : Env → R D} (h : DE X cl W e f) (k : ∀ ρ, f ρ = g ρ) : DE X cl W e g := by
  have : f = g := funext k
  rw [← this]; exact h
/-- f of two values, perhaps lent -/
def OpB (X : Cx) (f : Value → Value → Sem Value) (g : D → D → R D) : Prop :=
  (∀ x y c, g x y ≠ .rz c) ∧ ∀ (O : AP_), OpR X f (fun x y H Q => (∀ a, O a → H a ≠ none) ∧ ∃ d e z, Rb X.K O H x d ∧ Rb X.K O H y e ∧ g d e = .ok z ∧ ∀ v H', Same H H' → Rp X.K O H' v z → Q v H')
theorem OpB.end {f : Value → Value → Sem Value} {g : D → D → R D} (h : OpB X f g) {O : AP_} {ρ : Env} {σ : St} {H : Hp} {Q : VK} {x y : V} {d e : D} (dom : ∀ a, OO O σ ρ a → H a ≠ none) (rx : Rb X.K (OO O σ ρ) H x d) (ry : Rb X.K (OO O σ ρ) H y e)
    (q : RQ X.K cl O W ρ σ H Q (g d e)) : (fun x y H Q => (∀ a, OO O σ ρ a → H a ≠ none) ∧ ∃ d e z, Rb X.K (OO O σ ρ) H x d ∧ Rb X.K (OO O σ ρ) H y e ∧ g d e = .ok z ∧ ∀ v H', Same H H' → Rp X.K (OO O σ ρ) H' v z → Q v H' : R2) x y H Q := by
  refine ⟨dom, d, e, ?_⟩
  cases hz : g d e with
  | ok z => rw [hz] at q; exact ⟨z, rx, ry, rfl, q⟩
  | rz c => exact absurd hz (h.1 d e c)
  | no => rw [hz] at q; exact q.elim
theorem db_two {f : Value → Value → Sem Value} {g : D → D → R D} (h : OpB X f g) {O : AP_} {ρ : Env} {σ : St} {H : Hp} {Q : VK} (q : tE X.K cl O W ρ ((fa ρ).bind fun x => (fb ρ).bind fun y => g x y) σ H Q) :
    tOp (fun x y H Q => (∀ a, OO O σ ρ a → H a ≠ none) ∧ ∃ d e z, Rb X.K (OO O σ ρ) H x d ∧ Rb X.K (OO O σ ρ) H y e ∧ g d e = .ok z ∧ ∀ v H', Same H H' → Rp X.K (OO O σ ρ) H' v z → Q v H') (tB X.K cl O W ρ (fa ρ)) (tB X.K cl O W ρ (fb ρ)) σ H Q := by
  refine tB.bind q fun x d H1 st1 s1 r1 _ q1 => ?_
  exact tB.bind ⟨st1, q1⟩ fun y e H2 st2 s2 r2 _ q2 => h.end st2.dom (r1.more s2) r2 q2
theorem de_cmpB {op : CmpOp} {g : D → D → R D} (h : OpB X (compareOp op) g) (ha : DB X cl W a fa) (hb : DB X cl W b fb) (hm : behindInMarks op b = false) : DE X cl W (.Compare a [op] [b] pos) fun ρ => (fa ρ).bind fun x => (fb ρ).bind fun y => g x y :=
  ⟨fun O ρ => ⟨fun pins s σ H Q I q => (pe_cmpR (h.2 (OO O σ ρ)) (ha.run O ρ) (hb.run O ρ) hm).run pins s σ H Q I (db_two h q)⟩⟩
theorem dt_cmpB {op : CmpOp} {g : D → D → R D} (h : OpB X (compareOp op) g) (ha : DB X cl W a fa) (hb : DB X cl W b fb) (hm : behindInMarks op b = false) : DT X cl W (.Compare a [op] [b] pos) fun ρ => (fa ρ).bind fun x => (fb ρ).bind fun y => g x y :=
  ⟨fun O ρ => ⟨fun pins s σ H Q I q => (pt_cmpR (h.2 (OO O σ ρ)) (ha.run O ρ) (hb.run O ρ) hm).run pins s σ H Q I (db_two h q)⟩⟩
theorem opB_bl {op : CmpOp} {c : Cm} (h : ∀ (O : AP_) (pins : List (Addr × Obj)) (s : Shared) (σ : St) (H : Hp) (x y : V) (v u : Value) (Q : VK) (d e : D) (b : Bool), L2.Inv X pins σ H s → RelV x v → RelV y u → Rb X.K O H x d → Rb X.K O H y e → cmR c d e = .ok b → Q (.bl b) H →
    wpAny (model X.prog X.w) X.A (compareOp op v u) (EP X pins σ Q) X.xe s) : OpB X (compareOp op) (cmB c) := by
  refine ⟨cmB_norz c, fun O pins s σ H x y v u Q I rx ry hh => ?_⟩
  obtain ⟨dom, d, e, z, r1, r2, hz, q⟩ := hh
  unfold cmB at hz
  cases hb : cmR c d e with
  | ok b =>
    rw [hb] at hz
    cases hz
    exact h O pins s σ H x y v u Q d e b I rx ry r1 r2 hb (q _ H (Same.refl H) (.bl b))
  | rz k => rw [hb] at hz; cases hz
  | no => rw [hb] at hz; cases hz
theorem opB_in (hr : X.A.units + 65 < cLine) : OpB X (compareOp .In) (cmB .inn) := opB_bl fun O pins s σ H x y v u Q d e b I rx ry r1 r2 h q => (in_road hr I rx ry r1 r2 h).1 Q q
theorem opB_nin (hr : X.A.units + 65 < cLine) : OpB X (compareOp .NotIn) (cmB .nin) := opB_bl fun O pins s σ H x y v u Q d e b I rx ry r1 r2 h q => (in_road hr I rx ry r1 r2 (neg_ok h)).2 Q (by rw [Bool.not_not]; exact q)
theorem eqR_still {d e : D} {b : Bool} (h : eqR d e = .ok b) : (∃ ns, d = .scr ns ∧ e = .lst []) ∨ (d.dat 30 = true ∧ e.dat 30 = true) := by
  unfold eqR at h
  split at h
  · exact .inl ⟨_, rfl, rfl⟩
  · split at h
    · rename_i hc
      rw [Bool.and_eq_true] at hc
      exact .inr hc
    · cases h
theorem eqR_weak {K : PySem.W.Frag} {O : AP_} {H : Hp} {x y : V} {d e : D} {b : Bool} (r1 : Rb K O H x d) (r2 : Rb K O H y e) (h : eqR d e = .ok b) : Rp K NoA H x d ∧ Rp K NoA H y e := by
  rcases eqR_still h with ⟨ns, rfl, rfl⟩ | ⟨h1, h2⟩
  · exact ⟨(r1.rp rfl).keep (fun _ z => z.elim) fun _ _ _ e => e, r2.weak (n := 1) rfl⟩
  · exact ⟨r1.weak h1, r2.weak h2⟩
theorem opB_eq (hr : X.A.units + 65 < cLine) : OpB X (compareOp .Eq) (cmB .eq) := opB_bl fun O pins s σ H x y v u Q d e b I rx ry r1 r2 h q => by
  obtain ⟨r1, r2⟩ := eqR_weak r1 r2 h
  obtain ⟨p, p', h1, h2, h3, h4, h5⟩ := eq_data r1 r2 h
  exact op_eqD (show X.A.units + 64 < cLine by omega) pins s σ H x y v u Q I rx ry ⟨p, p', h1, h2, h3, h4, by rw [h5]; exact q⟩
theorem opB_ne (hr : X.A.units + 65 < cLine) : OpB X (compareOp .NotEq) (cmB .ne) := opB_bl fun O pins s σ H x y v u Q d e b I rx ry r1 r2 h q => by
  obtain ⟨r1, r2⟩ := eqR_weak r1 r2 (neg_ok h)
  obtain ⟨p, p', h1, h2, h3, h4, h5⟩ := eq_data r1 r2 (neg_ok h)
  exact op_neD (show X.A.units + 64 < cLine by omega) pins s σ H x y v u Q I rx ry ⟨p, p', h1, h2, h3, h4, by rw [h5, Bool.not_not]; exact q⟩
/-- a subscript by values, perhaps lent -/
def IxB (X : Cx) (g : D → D → R D) : Prop := ∀ (O : AP_), IxR X (fun x y H Q => (∀ a, O a → H a ≠ none) ∧ ∃ d e z, Rb X.K O H x d ∧ Rp X.K O H y e ∧ g d e = .ok z ∧ ∀ v H', Same H H' → Rp X.K O H' v z → Q v H')
theorem ixB (hr : X.A.units + 65 < cLine) : IxB X ixR := by
  intro O value slice pins s σ H x y v u Q I rx ry h hs
  obtain ⟨dom, d, e, z, r1, r2, hz, q⟩ := h
  have fin : ∀ {w : V}, Rp X.K O H w z → Q w H := fun r => q _ H (Same.refl H) r
  cases hd : d.still with
  | true => exact ixD hr O value slice pins s σ H x y v u Q I rx ry ⟨dom, d, e, z, r1.rp hd, r2, hz, q⟩ hs
  | false =>
    cases d <;> first | cases hd | skip
    · cases e <;> first | cases hz | skip
      rename_i xs i
      have hz : R.ofO (atI xs i) = .ok z := hz
      obtain ⟨p, vs, rfl, h1, h2⟩ := r1.inv_lst
      obtain ⟨w, ew, rw_⟩ := atI_rps h2 (ofO_ok hz)
      exact ix_list value slice pins s σ H _ y v u Q I rx ry ⟨p, vs, i, w, rfl, r2.inv_int, .of h1, ew, fin rw_⟩ hs
    · unfold ixR at hz
      simp only at hz
      split at hz
      · rename_i qk hk
        split at hz
        · rename_i hb
          obtain ⟨p, rfl, _, g⟩ := dget_d r1 r2 hk hb
          cases rx
          rcases g with ⟨w, e', g1, g2, g3⟩ | ⟨_, g2⟩
          · rw [g2] at hz
            cases hz
            exact PyProof.Rows.tail_any (dict_typeIs I g1) PySem.F.slot_dict_getitem.lookup (d_getItem (show X.A.units + 1 < cLine by omega) I g1 ry fun w' s' J rw' => ⟨w, H, J, rw', fin g3⟩) hs
          · rw [g2] at hz; cases hz
        · cases hz
      · cases hz
theorem de_ixB {g : D → D → R D} (hn : ∀ x y c, g x y ≠ .rz c) (h : IxB X g) (ha : DB X cl W a fa) (hb : DE X cl W b fb) (hs : PlainIx b) : DE X cl W (.Subscript a b pos) fun ρ => (fa ρ).bind fun x => (fb ρ).bind fun y => g x y :=
  ⟨fun O ρ => ⟨fun pins s σ H Q I q => (pe_ix (h (OO O σ ρ)) (ha.run O ρ) (hb.run O ρ) hs).run pins s σ H Q I (by
    refine tB.bind q fun x d H1 st1 s1 r1 _ q1 => ?_
    refine tE.bind ⟨st1, q1⟩ fun y e H2 st2 s2 r2 _ q2 => ⟨st2.dom, d, e, ?_⟩
    cases hz : g d e with
    | ok z => rw [hz] at q2; exact ⟨z, r1.more s2, r2, rfl, q2⟩
    | rz c => exact absurd hz (hn d e c)
    | no => rw [hz] at q2; exact q2.elim)⟩⟩

/-! ### calls of built-ins with one value -/
def plainE : Expr → Bool
  | .Starred _ _ => false
  | _ => true
theorem star_one {e : Expr} (h : plainE e = true) (es : List Expr) (env : PySem.Env) : starEach (e :: es) env = (false, eval e env) :: starEach es env := by
  cases e <;> first | rfl | cases h
theorem star_any : ∀ {es : List Expr} (h : es.all plainE = true) (env : PySem.Env) (pos : Pos), (backTo pos (starEach es env)).any (·.1) = false
  | [], _, _, _ => rfl
  | e :: es, h, env, pos => by
    rw [List.all_cons, Bool.and_eq_true] at h
    rw [star_one h.1]
    show (false || (backTo pos (starEach es env)).any (·.1)) = false
    rw [star_any h.2]; rfl
def CallD (X : Cx) (f : Value) (g : D → R D) : Prop :=
  (∀ x c, g x ≠ .rz c) ∧ ∀ (O : AP_), CallR X f (fun vs H Q => (∀ a, O a → H a ≠ none) ∧ ∃ x d z, vs = [x] ∧ Rb X.K O H x d ∧ g d = .ok z ∧ ∀ v H', Same H H' → Rp X.K O H' v z → Q v H')
theorem call_go {f : Value} {g : D → R D} (h : CallD X f g) {O : AP_} {ρ : Env} {σ : St} {H : Hp} {Q : VK} (q : tE X.K cl O W ρ ((fa ρ).bind g) σ H Q) :
    tCB (fun vs H Q => (∀ a, OO O σ ρ a → H a ≠ none) ∧ ∃ x d z, vs = [x] ∧ Rb X.K (OO O σ ρ) H x d ∧ g d = .ok z ∧ ∀ v H', Same H H' → Rp X.K (OO O σ ρ) H' v z → Q v H') (tCons (tB X.K cl O W ρ (fa ρ)) tNil) σ H Q := by
  refine tB.bind q fun x d H1 st1 s1 r1 _ q1 => ⟨st1.dom, x, d, ?_⟩
  cases hz : g d with
  | ok z => rw [hz] at q1; exact ⟨z, rfl, r1, rfl, q1⟩
  | rz c => exact absurd hz (h.1 d c)
  | no => rw [hz] at q1; exact q1.elim
theorem de_callB1 {id : String} {x : Str} {p : Pos} {g : D → R D} (h : CallD X (.builtin id) g) (hg : Gl X x) (hm : X.mg x = none) (hv : bootBuiltins x = some (.builtin id)) (ha : DB X cl W a fa) (hpe : plainE a = true) (hn : x ≠ "__name__") (hdb : (x == ("__debug__" : Str)) = false) :
    DE X cl W (.Call (.Name x p) [a] [] pos) fun ρ => (fa ρ).bind g :=
  ⟨fun O ρ => ⟨fun pins s σ H Q I q => (pe_callB (h.2 (OO O σ ρ)) hg hm hv (pa_cons (ha.run O ρ) pa_nil (star_one hpe _ _)) hn hdb (star_one hpe _ _)).run pins s σ H Q I (call_go h q)⟩⟩
theorem de_callT1 {T : String} {x : Str} {p : Pos} {g : D → R D} (h : CallD X (.type T) g) (hg : Gl X x) (hm : X.mg x = none) (hv : bootBuiltins x = some (.type T)) (ha : DB X cl W a fa) (hpe : plainE a = true) (hn : x ≠ "__name__") (hdb : (x == ("__debug__" : Str)) = false) :
    DE X cl W (.Call (.Name x p) [a] [] pos) fun ρ => (fa ρ).bind g :=
  ⟨fun O ρ => ⟨fun pins s σ H Q I q => (pe_callTy (h.2 (OO O σ ρ)) hg hm hv (pa_cons (ha.run O ρ) pa_nil (star_one hpe _ _)) hn hdb (star_one hpe _ _)).run pins s σ H Q I (call_go h q)⟩⟩
theorem b1R_norz (b : B1) (x : D) (c : Nat) : b1R b x ≠ .rz c := by
  have seq : ∀ {x : D} {g : List D → R D}, (∀ xs, g xs ≠ .rz c) → (seqR x).bind g ≠ .rz c := fun {x} {g} k => by
    cases x <;> first | (intro h; cases h; done) | exact k _
  have its : ∀ {x : D} {g : List D → R D}, (∀ xs, g xs ≠ .rz c) → (itemsR x).bind g ≠ .rz c := fun {x} {g} k => by
    cases x <;> first | (intro h; cases h; done) | exact k _
  have ist : ∀ (p : Nat → Bool) (x : D), isT p x ≠ .rz c := fun p x => by unfold isT; split <;> simp
  unfold b1R
  split <;> first | (intro h; cases h; done) | exact ist _ _ | skip
  all_goals first | refine seq fun xs => ?_ | refine its fun xs => ?_ | skip
  all_goals (try unfold sortR)
  all_goals repeat' split
  all_goals (intro h; cases h)
theorem RKs.length {K : PySem.W.Frag} {O : AP_} {H : Hp} : ∀ {kvs : List (Key × V)} {ks : KVs}, RKs K O H kvs ks → kvs.length = ks.length
  | _, _, .nil => rfl
  | _, _, .cons _ _ h => by simp [h.length]
theorem RTs.length {K : PySem.W.Frag} {O : AP_} {H : Hp} : ∀ {kvs : List (List Key × V)} {ks : KVs}, RTs K O H kvs ks → kvs.length = ks.length
  | _, _, .nil => rfl
  | _, _, .cons _ _ h => by simp [h.length]
/-! #### len -/
theorem callD_len : CallD X (.builtin "len") (b1R .len) := by
  refine ⟨b1R_norz .len, fun O pins s σ H vs us Q I r h => ?_⟩
  obtain ⟨dom, x, d, z, rfl, r1, hz, q⟩ := h
  have fin : ∀ n : Int, z = .int n → Q (.int n) H := fun n e => by subst e; exact q _ H (Same.refl H) (.int n)
  cases d with
  | lst xs =>
    cases hz
    obtain ⟨p, ws, rfl, h1, h2⟩ := r1.inv_lst
    exact call_len_seq pins s σ H _ us Q I r ⟨p, ws, rfl, .inl (.of h1), fin _ (by rw [h2.length])⟩
  | tup xs =>
    cases hz
    obtain ⟨p, ws, rfl, _, h1, h2⟩ := (r1.rp rfl).inv_tup
    exact call_len_seq pins s σ H _ us Q I r ⟨p, ws, rfl, .inr (.of h1), fin _ (by rw [h2.length])⟩
  | str xs =>
    cases hz
    obtain ⟨rfl, ok⟩ := (r1.rp rfl).inv_str
    exact call_len_str pins s σ H _ us Q I r ⟨_, rfl, by rw [toS_len]; exact ok.1, fin _ (by rw [toS_len])⟩
  | scr ns =>
    cases hz
    obtain ⟨p, rfl, hl⟩ := (r1.rp rfl).inv_scr
    exact call_len_seq pins s σ H _ us Q I r ⟨p, _, rfl, .inl hl, fin _ (by rw [List.length_map])⟩
  | dic b ks =>
    cases hz
    obtain ⟨u, rfl, ru⟩ := vals1 r
    cases b with
    | true =>
      obtain ⟨p, kvs, rfl, h1, h2⟩ := r1.inv_dk
      cases ru
      have e := h2.length
      exact d_len I h1 fun t s' I' => ⟨.int kvs.length, H, I', ⟨t, rfl⟩, fin _ (by rw [e])⟩
    | false =>
      obtain ⟨p, kvs, rfl, h1, h2⟩ := r1.inv_dt
      cases ru
      have e := h2.length
      obtain ⟨z, hd, ys, rel, dd⟩ := dt_rd I.hok h1
      have hl : kvs.length = ys.length := PySem.Paired.length rel
      refine PySem.call_len_dictH hd dd (by rw [← hl]; rw [sizeLine_eq] at z; omega) ?_
      rw [← hl]
      exact ⟨.int ((kvs.length : Nat) : Int), H, I.tok _, ⟨_, rfl⟩, fin _ (by rw [e])⟩
  | _ => cases hz
end
end Mi

set_option Elab.async false
set_option linter.all false
set_option maxRecDepth 100000
set_option maxHeartbeats 4000000
/-! Mi, soundness 9: walks of lists, tuples, texts; small built-ins -/
namespace Mi
open PySem L2
def chV (x : List Nat) : List V := x.map fun c => V.str (toS [c])
theorem chV_rps {K : PySem.W.Frag} {O : AP_} {H : Hp} {x : List Nat} (ok : OkS x) : Rps K O H (chV x) (chars x) := by
  have h : ∀ c ∈ x, c < 0x110000 := ok.2
  clear ok
  unfold chV chars
  induction x with
  | nil => exact .nil
  | cons c r ih =>
    rw [List.map_cons, List.map_cons]
    exact .cons (.str [c] ⟨by rw [sizeLine_eq]; simp, fun d hd => by simp at hd; rw [hd]; exact h c (by simp)⟩) (ih fun d hd => h d (by simp [hd]))
def D.seq : D → Bool
  | .dic _ _ => false
  | _ => true
/-- a walk of the values of vs, made at s -/
def WkOf (P : Program) (w : World) (s : Shared) (u : Value) (vs : List V) (Q : Value → Shared → Prop) : Prop :=
  ∀ (h' : Heap) (I : Addr) (fp : List Addr) (St : Nat → Heap → Prop), (∀ b o, s.heap.get? b = some o → h'.get? b = some o) → s.heap.objs.size ≤ I → (∀ A' : Around, A'.handled = none → Walks P w A' I fp [I] vs.length (fun i v => ∃ x, vs[i]? = some x ∧ RelV x v) St) →
    St 0 h' → (∀ b ∈ fp, b < h'.objs.size) → (∀ b ∈ fp, b = I ∨ u = .ref b) → Q (.ref I) { s with heap := h' }
section
variable {X : Cx} {pins : List (Addr × Obj)} {σ : St} {H : Hp} {s : Shared} {A : Around} {E : Value → Shared → Prop}
theorem walk_vals {P : Program} {w : World} {I : Addr} {fp wr : List Addr} {n : Nat} {Pv : Nat → Value → Prop} {St : Nat → Heap → Prop} {vs : List V} (W : Walks P w A I fp wr n Pv St) (hn : n = vs.length) (h : ∀ i v, Pv i v → ∃ x, vs[i]? = some x ∧ RelV x v) :
    Walks P w A I fp wr vs.length (fun i v => ∃ x, vs[i]? = some x ∧ RelV x v) St := by
  rw [← hn]
  exact Walks.mono_item W fun i v _ q => h i v q
theorem vals_at {vs : List V} {us : List Value} (r : Vals vs us) {i : Nat} {v : Value} (h : us.toArray[i]? = some v) : ∃ x, vs[i]? = some x ∧ RelV x v := by
  have h : us[i]? = some v := by simpa using h
  have hl := r.length
  have hi : i < vs.length := by rw [hl]; exact (List.getElem?_eq_some_iff.mp h).1
  obtain ⟨u, hu, ru⟩ := r.get (List.getElem?_eq_getElem hi)
  rw [h] at hu
  cases hu
  exact ⟨_, List.getElem?_eq_getElem hi, ru⟩
theorem wk_list {l : Addr} {vs : List V} {Q : Value → Shared → Prop} (I : L2.Inv X pins σ H s) (hl : SqL X.K H l vs) (q : WkOf X.prog X.w s (.ref l) vs Q) : wpAny (model X.prog X.w) A (pyIter (.ref l)) Q E s := by
  obtain ⟨its, rv, ⟨o, n, ho, hc, hdn, hd⟩, _⟩ := I.list hl
  have hL : s.heap.IsList l its.toArray := ⟨o, ho, hc, n, hd⟩
  have hlt : l < s.heap.objs.size := Heap.lt_size ho
  refine wpAny_pyIter_list hL (q _ _ _ _ (fun b o e => Heap.get?_push_of_some _ e) (Nat.le_refl _) (fun A' hA => walk_vals (Walks.list hA s.heap.objs.size l (Nat.ne_of_lt hlt) its.toArray) (by simp [rv.length]) fun i v h => vals_at rv h) ⟨⟨_, Heap.get?_push_size _ rfl, rfl, rfl⟩, hL.push _⟩ (fun b hb => ?_) fun b hb => ?_)
  · rw [Heap.size_push]
    rcases List.mem_cons.mp hb with rfl | hb
    · exact Nat.lt_succ_self _
    · rcases List.mem_cons.mp hb with rfl | hb
      · exact Nat.lt_succ_of_lt hlt
      · cases hb
  · rcases List.mem_cons.mp hb with rfl | hb
    · exact .inl rfl
    · rcases List.mem_cons.mp hb with rfl | hb
      · exact .inr rfl
      · cases hb
theorem wk_tup {l : Addr} {vs : List V} {Q : Value → Shared → Prop} (I : L2.Inv X pins σ H s) (hl : SqT X.K H l vs) (q : WkOf X.prog X.w s (.ref l) vs Q) : wpAny (model X.prog X.w) A (pyIter (.ref l)) Q E s := by
  obtain ⟨its, rv, ⟨o, ho, hc, n, hd⟩, _⟩ := I.tuple hl
  have hL : s.heap.IsTuple l its.toArray := ⟨o, ho, hc, n, hd⟩
  have hlt : l < s.heap.objs.size := Heap.lt_size ho
  refine wpAny_pyIter_tuple hL (q _ _ _ _ (fun b o e => Heap.get?_push_of_some _ e) (Nat.le_refl _) (fun A' hA => walk_vals (Walks.tuple hA s.heap.objs.size l (Nat.ne_of_lt hlt) its.toArray) (by simp [rv.length]) fun i v h => vals_at rv h) ⟨⟨_, Heap.get?_push_size _ rfl, rfl, rfl⟩, hL.push _⟩ (fun b hb => ?_) fun b hb => ?_)
  · rw [Heap.size_push]
    rcases List.mem_cons.mp hb with rfl | hb
    · exact Nat.lt_succ_self _
    · rcases List.mem_cons.mp hb with rfl | hb
      · exact Nat.lt_succ_of_lt hlt
      · cases hb
  · rcases List.mem_cons.mp hb with rfl | hb
    · exact .inl rfl
    · rcases List.mem_cons.mp hb with rfl | hb
      · exact .inr rfl
      · cases hb
theorem wk_str {P : Program} {w : World} {x : List Nat} {t : Tok} {Q : Value → Shared → Prop} (q : WkOf P w s (.str (toS x) t) (chV x) Q) : wpAny (model P w) A (pyIter (.str (toS x) t)) Q E s := by
  refine wpAny_pyIter_str fun o St W st => q _ _ _ St (fun b o e => Heap.get?_push_of_some _ e) (Nat.le_refl _) (fun A' hA => walk_vals (W A' hA) (by simp [chV, toS]) fun i v h => ?_) st (fun b hb => ?_) fun b hb => ?_
  · obtain ⟨c, u, h1, h2⟩ := h
    have h1 : x[i]? = some c := by simpa [toS] using h1
    exact ⟨.str (toS [c]), by unfold chV; rw [List.getElem?_map, h1]; rfl, ⟨u, h2⟩⟩
  · rw [Heap.size_push]
    rcases List.mem_cons.mp hb with rfl | hb
    · exact Nat.lt_succ_self _
    · cases hb
  · rcases List.mem_cons.mp hb with rfl | hb
    · exact .inl rfl
    · cases hb
/-- a list, a tuple, a text of data is walked -/
theorem wk_of {O : AP_} {v : V} {u : Value} {d : D} {ds : List D} {Q : Value → Shared → Prop} (I : L2.Inv X pins σ H s) (r : Rb X.K O H v d) (rv : RelV v u) (hd : d.seq = true) (he : itemsR d = .ok ds) (q : ∀ vs, Rps X.K O H vs ds → WkOf X.prog X.w s u vs Q) : wpAny (model X.prog X.w) A (pyIter u) Q E s := by
  cases d <;> first | (cases he; done) | (cases hd; done) | skip
  · cases he
    obtain ⟨rfl, ok⟩ := (r.rp rfl).inv_str
    obtain ⟨t, rfl⟩ := rv
    exact wk_str (q _ (chV_rps ok))
  · cases he
    obtain ⟨p, vs, rfl, h1, h2⟩ := r.inv_lst
    cases rv
    exact wk_list I (.of h1) (q vs h2)
  · cases he
    obtain ⟨p, vs, rfl, _, h1, h2⟩ := (r.rp rfl).inv_tup
    cases rv
    exact wk_tup I (.of h1) (q vs h2)
theorem moved_old {I : Addr} {h h' h'' : Heap} (hI : h.objs.size ≤ I) (k : ∀ b o, h.get? b = some o → h'.get? b = some o) (m : ∀ b o, b ∉ [I] → h'.get? b = some o → h''.get? b = some o) : ∀ b o, h.get? b = some o → h''.get? b = some o := fun b o e => by
  refine m b o (fun hm => ?_) (k b o e)
  have hm := List.mem_singleton.mp hm
  exact absurd (Heap.lt_size e) (by rw [hm]; exact Nat.not_lt.mpr hI)
end
section
variable {X : Cx} {cl : Gx} {W : WX} {a b c : Expr} {fa fb fc : Env → R D} {pos : Pos}
/-! ### list, tuple -/
theorem callD_list : CallD X (.type "list") (b1R .list) := by
  refine ⟨b1R_norz .list, fun O pins s σ H vs us Q I r h => ?_⟩
  obtain ⟨dom, x, d, z, rfl, r1, hz, q⟩ := h
  cases d <;> first | (cases hz; done) | skip
  · cases hz
    obtain ⟨p, ws, rfl, h1, h2⟩ := r1.inv_lst
    exact call_list_of pins s σ H _ us Q I r ⟨p, ws, rfl, .inl (.of h1), new_lst dom h2 q⟩
  · cases hz
    obtain ⟨p, ws, rfl, _, h1, h2⟩ := (r1.rp rfl).inv_tup
    exact call_list_of pins s σ H _ us Q I r ⟨p, ws, rfl, .inr (.of h1), new_lst dom h2 q⟩
theorem vals_chV {x : List Nat} {acc : Array Value} (h : ItemsOf (SignAt (toS x)) acc x.length) : Vals (chV x) acc.toList := by
  refine vals_of_at (by simp [chV, h.1]) fun j v u h1 h2 => ?_
  obtain ⟨c, t, e1, e2⟩ := h.2 j u (by rw [← Array.getElem?_toList]; exact h2)
  have e1 : x[j]? = some c := by simpa [toS] using e1
  unfold chV at h1
  rw [List.getElem?_map, e1] at h1
  cases h1
  exact ⟨t, e2⟩
theorem callD_tuple (hcalm : X.calm = true) : CallD X (.type "tuple") (b1R .tuple) := by
  refine ⟨b1R_norz .tuple, fun O pins s σ H vs us Q I r h => ?_⟩
  obtain ⟨dom, x, d, z, rfl, r1, hz, q⟩ := h
  cases d <;> first | (cases hz; done) | skip
  · cases hz
    rename_i x
    obtain ⟨rfl, ok⟩ := (r1.rp rfl).inv_str
    obtain ⟨u, rfl, t, rfl⟩ := vals1 r
    refine call_tuple_str (I.ok.hd hcalm) (toS x) t (fun h' tk acc hk hi => ?_) (by simpa [toS] using ok.1)
    have hi : ItemsOf (SignAt (toS x)) acc x.length := by simpa [toS] using hi
    have I2 : Inv X pins σ H { s with heap := h', toks := tk } := I.kept hk
    refine ⟨.ref h'.objs.size, upd H h'.objs.size (.tup (chV x)), I2.laid (t' := tk) (fun c o e => Heap.get?_push_of_some _ e) (Nat.le_refl _) (show ObjOk X.prog X.w _ _ _ (.tup (chV x)) from ⟨by simp [chV]; exact ok.1, acc.toList, vals_chV hi, ?_⟩), rfl, new_tup dom (chV_rps ok) q _ (I2.hok.fresh (Nat.le_refl _))⟩
    rw [Array.toArray_toList]; exact PyProof.Rows.IsTup.new _ _
  · cases hz
    obtain ⟨p, ws, rfl, h1, h2⟩ := r1.inv_lst
    exact call_tuple_of pins s σ H _ us Q I r ⟨p, ws, rfl, .inl ⟨.of h1, new_tup dom h2 q⟩⟩
  · cases hz
    have r2 := r1.rp rfl
    obtain ⟨p, ws, rfl, _, h1, h2⟩ := r2.inv_tup
    exact call_tuple_of pins s σ H _ us Q I r ⟨p, ws, rfl, .inr ⟨.of h1, q _ H (Same.refl H) r2⟩⟩
/-! ### sum, min, max, all, any -/
theorem preSum_take (ns : List Int) : ∀ j, j ≤ ns.length → preSum (fun i => ns.getD i 0) j = (ns.take j).sum
  | 0, _ => by simp [preSum]
  | j + 1, h => by
    rw [preSum, preSum_take ns j (by omega), List.take_add_one, List.sum_append]
    have hj : j < ns.length := by omega
    rw [List.getElem?_eq_getElem hj, List.getD_eq_getElem?_getD, List.getElem?_eq_getElem hj]
    simp
theorem preSum_map (ns : List Int) : preSum (fun i => ns.getD i 0) ns.length = ns.sum := by
  rw [preSum_take ns _ (Nat.le_refl _), List.take_of_length_le (Nat.le_refl _)]
theorem callD_sum (hcalm : X.calm = true) : CallD X (.builtin "sum") (b1R .sum) := by
  refine ⟨b1R_norz .sum, fun O pins s σ H vs us Q I r h => ?_⟩
  obtain ⟨dom, x, d, z, rfl, r1, hz, q⟩ := h
  have hz : (seqR d).bind (fun xs => match intsD xs with | some ns => R.ok (.int ns.sum) | none => .no) = .ok z := hz
  cases hs : seqR d with
  | no => rw [hs] at hz; cases hz
  | rz c => cases d <;> cases hs
  | ok xs =>
    rw [hs] at hz
    simp only [R.bind] at hz
    split at hz
    · rename_i ns hn
      cases hz
      obtain ⟨u, rfl, ru⟩ := vals1 r
      have he : itemsR d = .ok xs := by cases d <;> first | exact hs | (cases hs; done)
      have hd : d.seq = true := by cases d <;> first | rfl | (cases hs; done)
      refine call_sum_walkG (wk_of I r1 ru hd he fun ws rw_ h' It fp St k hI W st hfp _ => ?_)
      have ei := rw_.ints hn
      subst ei
      refine ⟨It, fp, [It], _, _, St, fun i => ns.getD i 0, rfl, W _ (I.ok.hd hcalm), st, hfp, fun i v hv => ?_, fun h'' tk t' m => ?_⟩
      · obtain ⟨x, hx, rx⟩ := hv
        rw [List.getElem?_map] at hx
        cases hi : ns[i]? with
        | none => rw [hi] at hx; cases hx
        | some n =>
          rw [hi] at hx
          cases hx
          obtain ⟨t, rfl⟩ := rx
          exact ⟨t, by show Value.int n t = Value.int (ns.getD i 0) t; rw [List.getD_eq_getElem?_getD, hi]; rfl⟩
      · rw [List.length_map, preSum_map]
        exact ⟨.int ns.sum, H, I.kept (moved_old hI k m), ⟨t', rfl⟩, q _ H (Same.refl H) (.int _)⟩
    · cases hz
theorem minI_mem : ∀ (r : List Int) (m : Int), minI m r ∈ m :: r
  | [], m => by simp [minI]
  | x :: r, m => by
    unfold minI
    have h := minI_mem r (if x < m then x else m)
    rcases List.mem_cons.mp h with e | e
    · rw [e]; split <;> simp
    · exact List.mem_cons_of_mem _ (List.mem_cons_of_mem _ e)
theorem minI_le : ∀ (r : List Int) (m y : Int), y ∈ m :: r → minI m r ≤ y
  | [], m, y, h => by simp at h; rw [h]; exact Int.le_refl _
  | x :: r, m, y, h => by
    unfold minI
    have h0 := minI_le r (if x < m then x else m) (if x < m then x else m) (by simp)
    rcases List.mem_cons.mp h with e | h
    · subst e; split at h0 <;> split <;> omega
    · rcases List.mem_cons.mp h with e | h
      · subst e; split at h0 <;> split <;> omega
      · exact minI_le r _ y (List.mem_cons_of_mem _ h)
theorem maxI_mem : ∀ (r : List Int) (m : Int), maxI m r ∈ m :: r
  | [], m => by simp [maxI]
  | x :: r, m => by
    unfold maxI
    have h := maxI_mem r (if m < x then x else m)
    rcases List.mem_cons.mp h with e | e
    · rw [e]; split <;> simp
    · exact List.mem_cons_of_mem _ (List.mem_cons_of_mem _ e)
theorem maxI_ge : ∀ (r : List Int) (m y : Int), y ∈ m :: r → y ≤ maxI m r
  | [], m, y, h => by simp at h; rw [h]; exact Int.le_refl _
  | x :: r, m, y, h => by
    unfold maxI
    have h0 := maxI_ge r (if m < x then x else m) (if m < x then x else m) (by simp)
    rcases List.mem_cons.mp h with e | h
    · subst e; split at h0 <;> split <;> omega
    · rcases List.mem_cons.mp h with e | h
      · subst e; split at h0 <;> split <;> omega
      · exact maxI_ge r _ y (List.mem_cons_of_mem _ h)
theorem callD_min (hcalm : X.calm = true) : CallD X (.builtin "min") (b1R .min) := by
  refine ⟨b1R_norz .min, fun O pins s σ H vs us Q I r h => ?_⟩
  obtain ⟨dom, x, d, z, rfl, r1, hz, q⟩ := h
  cases d <;> first | (cases hz; done) | skip
  rename_i xs
  obtain ⟨p, ws, rfl, h1, h2⟩ := r1.inv_lst
  unfold b1R at hz
  simp only at hz
  split at hz
  · rename_i n ns hn
    cases hz
    have ei := h2.ints hn
    subst ei
    refine cr_min hcalm pins s σ H _ us Q I r ⟨p, n :: ns, rfl, .of h1, by simp, fun m hm hmin => ?_⟩
    have e : m = minI n ns := Int.le_antisymm (hmin _ (minI_mem ns n)) (minI_le ns n m hm)
    rw [e]
    exact q _ H (Same.refl H) (.int _)
  · cases hz
theorem callD_max (hcalm : X.calm = true) : CallD X (.builtin "max") (b1R .max) := by
  refine ⟨b1R_norz .max, fun O pins s σ H vs us Q I r h => ?_⟩
  obtain ⟨dom, x, d, z, rfl, r1, hz, q⟩ := h
  cases d <;> first | (cases hz; done) | skip
  rename_i xs
  obtain ⟨p, ws, rfl, h1, h2⟩ := r1.inv_lst
  unfold b1R at hz
  simp only at hz
  split at hz
  · rename_i n ns hn
    cases hz
    have ei := h2.ints hn
    subst ei
    refine cr_max hcalm pins s σ H _ us Q I r ⟨p, n :: ns, rfl, .of h1, by simp, fun m hm hmax => ?_⟩
    have e : m = maxI n ns := Int.le_antisymm (maxI_ge ns n m hm) (hmax _ (maxI_mem ns n))
    rw [e]
    exact q _ H (Same.refl H) (.int _)
  · cases hz
theorem callD_all (hcalm : X.calm = true) : CallD X (.builtin "all") (b1R .all) := by
  refine ⟨b1R_norz .all, fun O pins s σ H vs us Q I r h => ?_⟩
  obtain ⟨dom, x, d, z, rfl, r1, hz, q⟩ := h
  cases d <;> first | (cases hz; done) | skip
  obtain ⟨p, ws, rfl, h1, h2⟩ := r1.inv_lst
  unfold b1R at hz
  simp only at hz
  split at hz
  · rename_i bs hn
    cases hz
    have ei := h2.bls hn
    subst ei
    exact cr_all hcalm pins s σ H _ us Q I r ⟨p, bs, rfl, .of h1, q _ H (Same.refl H) (.bl _)⟩
  · cases hz
theorem callD_any (hcalm : X.calm = true) : CallD X (.builtin "any") (b1R .any) := by
  refine ⟨b1R_norz .any, fun O pins s σ H vs us Q I r h => ?_⟩
  obtain ⟨dom, x, d, z, rfl, r1, hz, q⟩ := h
  cases d <;> first | (cases hz; done) | skip
  obtain ⟨p, ws, rfl, h1, h2⟩ := r1.inv_lst
  unfold b1R at hz
  simp only at hz
  split at hz
  · rename_i bs hn
    cases hz
    have ei := h2.bls hn
    subst ei
    exact cr_any hcalm pins s σ H _ us Q I r ⟨p, bs, rfl, .of h1, q _ H (Same.refl H) (.bl _)⟩
  · cases hz
end
end Mi

set_option Elab.async false
set_option linter.all false
set_option maxRecDepth 100000
set_option maxHeartbeats 4000000
/-! Mi, soundness 10: isinstance; methods -/
namespace Mi
open PySem L2
section
variable {X : Cx} {cl : Gx} {W : WX} {a b c o : Expr} {fa fb fc fo : Env → R D} {pos p p2 apos cpos : Pos}
/-! ### isinstance(x, T) -/
def tyN : Nat → String
  | 0 => "NoneType"
  | 1 => "bool"
  | 2 => "int"
  | 3 => "str"
  | 4 => "tuple"
  | _ => "list"
theorem ty_of {K : PySem.W.Frag} {O : AP_} {H : Hp} {v : V} {d : D} {t : Nat} (r : Rb K O H v d) (h : tyD d = some t) : TyX K H v (.type (tyN t)) := by
  cases d <;> first | (cases h; done) | skip
  · cases h; rw [(r.rp rfl).inv_non]; exact .base .non
  · cases h; rw [(r.rp rfl).inv_bl]; exact .base (.bl _)
  · cases h; rw [(r.rp rfl).inv_int]; exact .base (.int _)
  · cases h; rw [(r.rp rfl).inv_str.1]; exact .base (.str _)
  · cases h
    obtain ⟨q, vs, rfl, h1, h2⟩ := r.inv_lst
    exact .base (.lst h1)
  · cases h
    obtain ⟨q, vs, rfl, _, h1, h2⟩ := (r.rp rfl).inv_tup
    exact .base (.tup h1)
/-- T and its answers -/
structure IsTy (T : String) (p : Nat → Bool) : Prop where
  all : ∀ t, t < 6 → kitB (tyN t) T = some (p t)
theorem isTy_int : IsTy "int" (fun t => t == 2 || t == 1) := ⟨by decide +kernel⟩
theorem isTy_bool : IsTy "bool" (fun t => t == 1) := ⟨by decide +kernel⟩
theorem isTy_str : IsTy "str" (fun t => t == 3) := ⟨by decide +kernel⟩
theorem isTy_tuple : IsTy "tuple" (fun t => t == 4) := ⟨by decide +kernel⟩
theorem isTy_list : IsTy "list" (fun t => t == 5) := ⟨by decide +kernel⟩
theorem tyD_lt {d : D} {t : Nat} (h : tyD d = some t) : t < 6 := by
  cases d <;> first | (cases h; done) | (cases h; decide)
theorem isT_norz (g : Nat → Bool) (x : D) (c : Nat) : isT g x ≠ .rz c := by
  unfold isT; split <;> simp
theorem de_isT {T x : Str} {TS : String} {g : Nat → Bool} (ht : IsTy TS g) (hg : Gl X x) (hm : X.mg x = none) (hv : bootBuiltins x = some (.builtin "isinstance")) (hn : x ≠ "__name__") (hdb : (x == ("__debug__" : Str)) = false)
    (hg2 : Gl X T) (hm2 : X.mg T = none) (hv2 : bootBuiltins T = some (.type TS)) (hn2 : T ≠ "__name__") (hdb2 : (T == ("__debug__" : Str)) = false) (ha : DB X cl W a fa) (hpe : plainE a = true) :
    DE X cl W (.Call (.Name x p) [a, .Name T p2] [] pos) fun ρ => (fa ρ).bind (isT g) :=
  ⟨fun O ρ => (pe_callB call_isi hg hm hv (pa_cons (ha.run O ρ) (pa_cons (pe_bltn (v := .ty TS) hg2 hm2 hv2 rfl hn2 hdb2) pa_nil (star_one rfl _ _)) (star_one hpe _ _)) hn hdb (star_one hpe _ _)).imp fun σ H Q q => by
    refine tB.bind q fun v d H1 st1 s1 r1 _ q1 => ?_
    unfold isT at q1
    cases ht' : tyD d with
    | none => rw [ht'] at q1; exact q1.elim
    | some t =>
      rw [ht'] at q1
      exact ⟨v, .ty TS, _, _, g t, rfl, .ty TS, ty_of r1 ht', kit_ty (ht.all t (tyD_lt ht')), q1 _ H1 (Same.refl H1) (.bl _)⟩⟩
/-! ### methods -/
/-- in H the value is of the built-in type T -/
def MTy (X : Cx) (T : String) (x : V) (H : Hp) : Prop := ∀ (pins : List (Addr × Obj)) (s : Shared) (σ : St) (v : Value), L2.Inv X pins σ H s → RelV x v → s.TypeIs v T ∧ ∀ a, v = .ref a → ∃ ob, s.heap.get? a = some ob ∧ ob.dict = none
theorem mty_of {T : String} {x : V} {H : Hp} (h : tyV X.K T x H) : MTy X T x H := fun pins s σ v I r => tyV_is I r h
theorem mty_dic {K : PySem.W.Frag} {l : Addr} {H : Hp} (h : IsD H l) : MTy X "dict" (.ref l) H := fun pins s σ v I r => by
  cases r
  obtain ⟨h1, h2, _⟩ := isD_at I h
  exact ⟨h1, h2⟩
/-- the method `name`, by the receiver's datum -/
structure MtD (X : Cx) (name : Str) (ok : D → Bool) (g : D → D → R D) : Prop where
  norz : ∀ x y c, g x y ≠ .rz c
  run : ∀ d, ok d = true → ∃ T id, PlainAttrs T ∧ Slot T name id ∧ typeOf (.builtin id) = pure (.type "method_descriptor") ∧ (∀ (O : AP_) (H : Hp) (x : V), Rb X.K O H x d → MTy X T x H) ∧
    ∀ O : AP_, MtR X id (fun x xs H Q => (∀ a, O a → H a ≠ none) ∧ ∃ y e z, xs = [y] ∧ Rb X.K O H x d ∧ Rb X.K O H y e ∧ g d e = .ok z ∧ ∀ v H', Same H H' → Rp X.K O H' v z → Q v H')
theorem idx_str_inv {x : List Nat} {e z : D} (h : b2R .index (.str x) e = .ok z) : ∃ c n, e = .str [c] ∧ idxOf (· == c) x 0 = some n ∧ z = .int n := by
  match e, h with
  | .str [c], h =>
    replace h : (match idxOf (· == c) x 0 with
      | some n => R.ok (.int n)
      | none => .no) = R.ok z := h
    split at h
    · rename_i n hn; cases h; exact ⟨c, n, rfl, hn, rfl⟩
    · cases h
  | .str [], h => cases h
  | .str (_ :: _ :: _), h => cases h
  | .non, h => cases h
  | .bl _, h => cases h
  | .int _, h => cases h
  | .lst _, h => cases h
  | .tup _, h => cases h
  | .dic _ _, h => cases h
  | .scr _, h => cases h
theorem find_str_inv {x : List Nat} {e z : D} (h : b2R .find (.str x) e = .ok z) : ∃ c, e = .str [c] ∧ ((∃ n, idxOf (· == c) x 0 = some n ∧ z = .int n) ∨ (idxOf (· == c) x 0 = none ∧ z = .int (-1))) := by
  match e, h with
  | .str [c], h =>
    replace h : (match idxOf (· == c) x 0 with
      | some n => R.ok (.int n)
      | none => .ok (.int (-1))) = R.ok z := h
    split at h
    · rename_i n hn; cases h; exact ⟨c, rfl, .inl ⟨n, hn, rfl⟩⟩
    · rename_i hn; cases h; exact ⟨c, rfl, .inr ⟨hn, rfl⟩⟩
  | .str [], h => cases h
  | .str (_ :: _ :: _), h => cases h
  | .non, h => cases h
  | .bl _, h => cases h
  | .int _, h => cases h
  | .lst _, h => cases h
  | .tup _, h => cases h
  | .dic _ _, h => cases h
  | .scr _, h => cases h
theorem join_inv {x : List Nat} {e z : D} (h : b2R .join (.str x) e = .ok z) : ∃ xs ys, e = .lst xs ∧ strsD xs = some ys ∧ (ys.map (·.length)).sum + ys.length * x.length ≤ LIM ∧ z = .str (joinL x ys) := by
  cases e <;> first | (cases h; done) | skip
  rename_i xs
  replace h : (match strsD xs with
      | some ys => if (ys.map (·.length)).sum + ys.length * x.length ≤ LIM then R.ok (.str (joinL x ys)) else .no
      | none => .no) = R.ok z := h
  split at h
  · rename_i ys hy
    split at h
    · rename_i hl; cases h; exact ⟨xs, ys, rfl, hy, hl, rfl⟩
    · cases h
  · cases h
theorem starP {es : List Expr} (h : es.all plainE = true) {pos : Pos} {env : PySem.Env} : backTo pos (starEach es env) = es.map fun e => (false, eval e env) := by
  induction es with
  | nil => rfl
  | cons e es ih =>
    rw [List.all_cons, Bool.and_eq_true] at h
    rw [star_one h.1]
    show (false, eval e env) :: backTo pos (starEach es env) = _
    rw [ih h.2]; rfl
theorem starQ {es : List Expr} (h : es.all plainE = true) {env : PySem.Env} : (es.map fun e => (false, eval e env)).any (·.1) = false := by
  induction es with
  | nil => rfl
  | cons e es ih =>
    rw [List.all_cons, Bool.and_eq_true] at h
    show (false || _) = false
    rw [ih h.2]; rfl
theorem pe_bmA {name : Str} {e : Expr} {es : List Expr} {to : TE} {t : TA} (ho : PE X o to) (ha : PA X (e :: es) t) (hps : (e :: es).all plainE = true) (hfew : decide ((e :: es).length < 30) = true) (hbase : attributeBase o name X.env (eval o X.env) = eval o X.env) (hline : (apos.endLine == cpos.line) = true) :
    PE X (.Call (.Attribute o name apos) (e :: es) [] cpos) (fun σ H Q => to σ H fun x H1 => ∃ T id, PlainAttrs T ∧ Slot T name id ∧ typeOf (.builtin id) = pure (.type "method_descriptor") ∧ MTy X T x H1 ∧ t σ H1 fun xs H2 => ∃ r, MtR X id r ∧ r x xs H2 Q) := by
  have stars : ∀ {es : List Expr}, es.all plainE = true → (backTo cpos (starEach es X.env)).all (fun x => !x.1) = true := fun {es} h => by
    induction es with
    | nil => rfl
    | cons e es ih =>
      rw [List.all_cons, Bool.and_eq_true] at h
      rw [star_one h.1]
      show (true && (backTo cpos (starEach es X.env)).all (fun x => !x.1)) = true
      rw [ih h.2]; rfl
  refine ⟨fun pins s σ H Q I h => ?_⟩
  refine wpAny_Call_method_late hbase ?_ hline rfl (thn (ho.run pins s σ H _ I h) fun v s1 ⟨x, H1, I1, r1, T, id, pa, slot, hty, mty, q1⟩ => ?_)
  · rw [stars hps]
    show (true && true && decide ((e :: es).length + 0 + 0 < 30)) = true
    exact hfew
  · obtain ⟨h1, h2⟩ := mty pins s1 σ v I1 r1
    refine ⟨T, id, pa, slot, hty, h1, h2, ?_⟩
    have hA := ha.run cpos pins s1 σ H1 _ I1 q1
    rw [starP hps] at hA ⊢
    refine Calls.callWith_builtin (starQ hps) (Calls.evalArgs_plain ?_)
    exact thn hA fun us s2 ⟨vs, H2, I2, r2, r, hm, q2⟩ => hm pins s2 σ H2 x vs v us Q I2 r1 r2 q2
theorem de_m1 {name : Str} {ok : D → Bool} {g : D → D → R D} (h : MtD X name ok g) (ho : DB X cl W o fo) (ha : DB X cl W a fa) (hpe : plainE a = true) (hbase : attributeBase o name X.env (eval o X.env) = eval o X.env) (hline : (apos.endLine == cpos.line) = true) :
    DE X cl W (.Call (.Attribute o name apos) [a] [] cpos) fun ρ => (fo ρ).bind fun x => if ok x then (fa ρ).bind fun y => g x y else .no :=
  ⟨fun O ρ => (pe_bmA (ho.run O ρ) (pa_cons (ha.run O ρ) pa_nil (star_one hpe _ _)) (by rw [List.all_cons, hpe]; rfl) rfl hbase hline).imp fun σ H Q q => by
    refine tB.bind q fun x d H1 st1 s1 r1 _ q1 => ?_
    split at q1
    · rename_i hok
      obtain ⟨T, id, pa, slot, hty, mty, run⟩ := h.run d hok
      refine ⟨T, id, pa, slot, hty, mty _ _ _ r1, ?_⟩
      refine tB.bind ⟨st1, q1⟩ fun y e H2 st2 s2 r2 _ q2 => ⟨_, run (OO O σ ρ), st2.dom, y, e, ?_⟩
      cases hz : g d e with
      | ok z => rw [hz] at q2; exact ⟨z, rfl, r1.more s2, r2, rfl, q2⟩
      | rz c => exact absurd hz (h.norz d e c)
      | no => rw [hz] at q2; exact q2.elim
    · exact q1.elim⟩
theorem b2R_norz (b : B2) (x y : D) (c : Nat) : b2R b x y ≠ .rz c := by
  unfold b2R
  repeat' split
  all_goals first | (intro h; cases h; done) | skip
theorem idxOf_some {p : Nat → Bool} : ∀ {l : List Nat} {k n : Nat}, idxOf p l k = some n → ∃ j c, n = k + j ∧ l[j]? = some c ∧ p c = true ∧ ∀ m c', m < j → l[m]? = some c' → p c' = false
  | [], k, n, h => by cases h
  | c :: r, k, n, h => by
    unfold idxOf at h
    cases hp : p c with
    | true =>
      rw [hp] at h
      cases h
      exact ⟨0, c, rfl, rfl, hp, fun m c' hm => absurd hm (Nat.not_lt_zero _)⟩
    | false =>
      rw [hp] at h
      obtain ⟨j, c', e1, e2, e3, e4⟩ := idxOf_some (show idxOf p r (k + 1) = some n from h)
      refine ⟨j + 1, c', by omega, e2, e3, fun m d hm hd => ?_⟩
      cases m with
      | zero => cases hd; exact hp
      | succ m => exact e4 m d (by omega) hd
theorem idxOf_none {p : Nat → Bool} : ∀ {l : List Nat} {k : Nat}, idxOf p l k = none → ∀ c ∈ l, p c = false
  | [], k, h, c, hc => by cases hc
  | d :: r, k, h, c, hc => by
    unfold idxOf at h
    cases hp : p d with
    | true => rw [hp] at h; cases h
    | false =>
      rw [hp] at h
      rcases List.mem_cons.mp hc with e | hc
      · rw [e]; exact hp
      · exact idxOf_none (show idxOf p r (k + 1) = none from h) c hc
theorem idxD_some {p : D → Bool} : ∀ {l : List D} {k n : Nat}, idxD p l k = some n → ∃ j c, n = k + j ∧ l[j]? = some c ∧ p c = true ∧ ∀ m c', m < j → l[m]? = some c' → p c' = false
  | [], k, n, h => by cases h
  | c :: r, k, n, h => by
    unfold idxD at h
    cases hp : p c with
    | true =>
      rw [hp] at h
      cases h
      exact ⟨0, c, rfl, rfl, hp, fun m c' hm => absurd hm (Nat.not_lt_zero _)⟩
    | false =>
      rw [hp] at h
      obtain ⟨j, c', e1, e2, e3, e4⟩ := idxD_some (show idxD p r (k + 1) = some n from h)
      refine ⟨j + 1, c', by omega, e2, e3, fun m d hm hd => ?_⟩
      cases m with
      | zero => cases hd; exact hp
      | succ m => exact e4 m d (by omega) hd
/-- the first place of a sign in a text -/
theorem occ_idx (x : List Nat) (c : Nat) : match idxOf (· == c) x 0 with
    | some n => ∃ rest, Builtin.Str.occurrences (toS x) (toS [c]) 0 (toS x).length 1 = n :: rest
    | none => Builtin.Str.occurrences (toS x) (toS [c]) 0 (toS x).length 1 = [] := by
  have at' : ∀ i, StrLaws.At (toS x) (toS [c]) (toS x).length i ↔ x[i]? = some c := fun i => (StrLaws.subAt_one (toS x) c i).trans (by simp [toS])
  rcases StrLaws.occ_head (toS x) (toS [c]) 1 (Nat.le_refl 1) with ⟨h0, hn⟩ | ⟨i, r, h0, hi, hn⟩
  · cases e : idxOf (· == c) x 0 with
    | none => exact h0
    | some n =>
      obtain ⟨j, d, _, e2, e3, _⟩ := idxOf_some e
      have e3 : d = c := by simpa using e3
      exact absurd ((at' j).mpr (by rw [e2, e3])) (hn j)
  · have hi := (at' i).mp hi
    cases e : idxOf (· == c) x 0 with
    | none => exact absurd (idxOf_none e c (List.mem_of_getElem? hi)) (by simp)
    | some n =>
      obtain ⟨j, d, e1, e2, e3, e4⟩ := idxOf_some e
      have e3 : d = c := by simpa using e3
      have : n = i := by
        rcases Nat.lt_trichotomy i j with h | h | h
        · have := e4 i c h hi
          simp at this
        · omega
        · exact absurd ((at' j).mpr (by rw [e2, e3])) (hn j h)
      exact ⟨r, by rw [this]; exact h0⟩
theorem mtD_index (hu : X.A.units + 65 < cLine) : MtD X "index" (recv2 .index) (b2R .index) := by
  refine ⟨b2R_norz .index, fun d hd => ?_⟩
  cases d <;> first | (cases hd; done) | skip
  · rename_i x
    refine ⟨"str", _, F.plainAttrs_str, F.slot_str_index, F.type_str_index, fun O H v r => ?_, fun O pins s σ H v xs u us Q I rv rvs hh => ?_⟩
    · rw [(r.rp rfl).inv_str.1]
      exact mty_of (show tyV X.K "str" (.str _) H from rfl)
    · obtain ⟨dom, y, e, z, rfl, r1, r2, hz, q⟩ := hh
      obtain ⟨rfl, ok⟩ := (r1.rp rfl).inv_str
      obtain ⟨c, n, rfl, hn, rfl⟩ := idx_str_inv hz
      have oi := occ_idx x c
      rw [hn] at oi
      obtain ⟨rest, oi⟩ := oi
      exact mt_sindex pins s σ H _ _ u us Q I rv rvs ⟨_, _, n, rest, rfl, by rw [(r2.rp rfl).inv_str.1], oi, q _ H (Same.refl H) (.int _)⟩
  · rename_i xs
    refine ⟨"list", _, F.plainAttrs_list, F.slot_list_index, F.type_list_index, fun O H v r => ?_, fun O pins s σ H v ys u us Q I rv rvs hh => ?_⟩
    · obtain ⟨p, vs, rfl, h1, h2⟩ := r.inv_lst
      exact mty_of (.inl ⟨rfl, vs, .of h1⟩)
    · obtain ⟨dom, y, e, z, rfl, r1, r2, hz, q⟩ := hh
      unfold b2R at hz
      simp only at hz
      split at hz
      · rename_i hc
        rw [Bool.and_eq_true, List.all_eq_true] at hc
        split at hz
        · rename_i n hn
          cases hz
          obtain ⟨j, w, e1, e2, e3, e4⟩ := idxD_some hn
          have hl : (D.lst xs).dat 31 = true := by rw [D.dat, List.all_eq_true]; exact hc.2
          have w1 := r1.weak hl
          have w2 := r2.weak hc.1
          obtain ⟨p, vs, rfl, h1, h2⟩ := r1.inv_lst
          have dl := w1.dp hl
          have sl := w1.shaped hl (by decide)
          rw [D.py] at dl sl
          have at' : ∀ {m : Nat} {z : PyData}, (pys xs)[m]? = some z → ∃ d, xs[m]? = some d ∧ z = d.py ∧ d.dat 30 = true := fun {m z} h => by
            rw [pys_map, List.getElem?_map] at h
            cases hm : xs[m]? with
            | none => rw [hm] at h; cases h
            | some d => rw [hm] at h; cases h; exact ⟨d, rfl, rfl, hc.2 d (List.mem_of_getElem? hm)⟩
          refine mt_indexD hu pins s σ H _ _ u us Q I rv rvs ⟨p, y, e.py, pys xs, n, w.py, rfl, rfl, dl, w2.dp hc.1, sl, w2.shaped hc.1 (by decide), ?_, ?_, fun m z' hm hz' => ?_, q _ H (Same.refl H) (.int _)⟩
          · have : n = j := by omega
            rw [this, pys_map, List.getElem?_map, e2]; rfl
          · rw [D.py_eqv w e 30 30 (hc.2 w (List.mem_of_getElem? e2)) hc.1]; exact e3
          · obtain ⟨d, f1, rfl, f3⟩ := at' hz'
            rw [D.py_eqv d e 30 30 f3 hc.1]
            exact e4 m d (by omega) f1
        · cases hz
      · cases hz
theorem mtD_find : MtD X "find" (recv2 .find) (b2R .find) := by
  refine ⟨b2R_norz .find, fun d hd => ?_⟩
  cases d <;> first | (cases hd; done) | skip
  rename_i x
  refine ⟨"str", _, F.plainAttrs_str, F.slot_str_find, F.type_str_find, fun O H v r => ?_, fun O pins s σ H v xs u us Q I rv rvs hh => ?_⟩
  · rw [(r.rp rfl).inv_str.1]
    exact mty_of (show tyV X.K "str" (.str _) H from rfl)
  · obtain ⟨dom, y, e, z, rfl, r1, r2, hz, q⟩ := hh
    obtain ⟨rfl, ok⟩ := (r1.rp rfl).inv_str
    obtain ⟨c, rfl, hn⟩ := find_str_inv hz
    have oi := occ_idx x c
    refine mt_find pins s σ H _ _ u us Q I rv rvs ⟨_, _, rfl, by rw [(r2.rp rfl).inv_str.1], ?_⟩
    unfold Txt.find
    rcases hn with ⟨n, hn, rfl⟩ | ⟨hn, rfl⟩
    · rw [hn] at oi
      obtain ⟨rest, oi⟩ := oi
      rw [oi]
      exact q _ H (Same.refl H) (.int _)
    · rw [hn] at oi
      have oi : Builtin.Str.occurrences (toS x) (toS [c]) 0 (toS x).length 1 = [] := oi
      rw [oi]
      exact q _ H (Same.refl H) (.int _)
theorem mtD_get (hu : X.A.units + 1 < cLine) : MtD X "get" (recv2 .get) (b2R .get) := by
  refine ⟨b2R_norz .get, fun d hd => ?_⟩
  cases d <;> first | (cases hd; done) | skip
  rename_i b ks
  refine ⟨"dict", _, F.plainAttrs_dict, F.slot_dict_get, F.type_dict_get, fun O H v r => ?_, fun O pins s σ H v xs u us Q I rv rvs hh => ?_⟩
  · cases b with
    | true => obtain ⟨p, kvs, rfl, h1, h2⟩ := r.inv_dk; exact mty_dic (K := X.K) (.inl ⟨kvs, h1⟩)
    | false => obtain ⟨p, kvs, rfl, h1, h2⟩ := r.inv_dt; exact mty_dic (K := X.K) (.inr ⟨kvs, h1⟩)
  · obtain ⟨dom, y, e, z, rfl, r1, r2, hz, q⟩ := hh
    unfold b2R at hz
    simp only at hz
    split at hz
    · rename_i k hk
      split at hz
      · rename_i hb
        cases hz
        obtain ⟨p, rfl, _, g⟩ := dget_d r1 (r2.rp (ky_still hk)) hk hb
        cases rv
        obtain ⟨t, rfl, rt⟩ := vals1 rvs
        rcases g with ⟨w, e', g1, g2, g3⟩ | ⟨g1, g2⟩
        · refine d_get1 hu I g1 rt fun w' s' J rw' => ⟨w, H, J, rw', q _ H (Same.refl H) ?_⟩
          rw [g2]; exact g3
        · refine d_get1 hu I g1 rt fun w' s' J rw' => ⟨.non, H, J, rw', q _ H (Same.refl H) ?_⟩
          rw [g2]; exact .non
      · cases hz
    · cases hz
theorem joinL_eq (s : List Nat) : ∀ xs : List (List Nat), Str.join (toS s) (xs.map toS) = toS (joinL s xs)
  | [] => rfl
  | [x] => rfl
  | x :: y :: r => by
    have ih := joinL_eq s (y :: r)
    show toS x ++ toS s ++ Str.join (toS s) (toS y :: r.map toS) = _
    rw [List.map_cons] at ih
    rw [ih, toS_app, toS_app]
    rfl
theorem joinL_len (s : List Nat) : ∀ xs : List (List Nat), (joinL s xs).length ≤ (xs.map (·.length)).sum + xs.length * s.length
  | [] => Nat.zero_le _
  | [x] => by simp [joinL]
  | x :: y :: r => by
    have ih := joinL_len s (y :: r)
    simp only [joinL, List.length_append, List.map_cons, List.sum_cons, List.length_cons, Nat.add_mul] at ih ⊢
    omega
theorem joinL_mem {s : List Nat} {c : Nat} : ∀ {xs : List (List Nat)}, c ∈ joinL s xs → c ∈ s ∨ ∃ x ∈ xs, c ∈ x
  | [], h => by cases h
  | [x], h => .inr ⟨x, by simp, h⟩
  | x :: y :: r, h => by
    rcases List.mem_append.mp h with h | h
    · rcases List.mem_append.mp h with h | h
      · exact .inr ⟨x, by simp, h⟩
      · exact .inl h
    · rcases joinL_mem h with h | ⟨z, h1, h2⟩
      · exact .inl h
      · exact .inr ⟨z, List.mem_cons_of_mem _ h1, h2⟩
theorem strs_ok {K : PySem.W.Frag} {O : AP_} {H : Hp} : ∀ {vs : List V} {ds : List D} {ys : List (List Nat)}, Rps K O H vs ds → strsD ds = some ys → ∀ y ∈ ys, OkS y
  | _, _, ys, .nil, h, y, hy => by cases h; cases hy
  | _, _, ys, .cons (d := d) h r, e, y, hy => by
    cases d <;> first | (cases e; done) | skip
    rename_i x vs' ds' x'
    unfold strsD at e
    cases hs : strsD ds' with
    | none => rw [hs] at e; cases e
    | some q =>
      rw [hs] at e
      cases e
      rcases List.mem_cons.mp hy with e | hy
      · subst e; exact h.inv_str.2
      · exact strs_ok r hs y hy
theorem mtD_join : MtD X "join" (recv2 .join) (b2R .join) := by
  refine ⟨b2R_norz .join, fun d hd => ?_⟩
  cases d <;> first | (cases hd; done) | skip
  rename_i x
  refine ⟨"str", _, F.plainAttrs_str, F.slot_str_join, F.type_str_join, fun O H v r => ?_, fun O pins s σ H v xs u us Q I rv rvs hh => ?_⟩
  · rw [(r.rp rfl).inv_str.1]
    exact mty_of (show tyV X.K "str" (.str _) H from rfl)
  · obtain ⟨dom, y, e, z, rfl, r1, r2, hz, q⟩ := hh
    obtain ⟨rfl, ok⟩ := (r1.rp rfl).inv_str
    obtain ⟨ds, ys, rfl, hy, hl, rfl⟩ := join_inv hz
    obtain ⟨p, vs, rfl, h1, h2⟩ := r2.inv_lst
    have ev := h2.strs hy
    subst ev
    refine mt_join pins s σ H _ _ u us Q I rv rvs ⟨_, p, ys.map toS, rfl, rfl, .inl (.of h1), ?_, ?_⟩
    · have e1 : (ys.map toS).map (·.length) = ys.map (·.length) := by rw [List.map_map]; exact List.map_congr_left fun y _ => toS_len y
      rw [e1, List.length_map, toS_len]
      exact hl
    · have e : Txt.join (toS x) (ys.map toS) = toS (joinL x ys) := (StrLaws.glued_eq_join _ _).trans (joinL_eq x ys)
      rw [e]
      refine q _ H (Same.refl H) (.str _ ⟨by rw [← lim_eq]; exact Nat.le_trans (joinL_len x ys) hl, fun c hc => ?_⟩)
      rcases joinL_mem hc with h | ⟨y, h3, h4⟩
      · exact ok.2 c h
      · exact (strs_ok h2 hy y h3).2 c h4
end
end Mi

set_option Elab.async false
set_option linter.all false
set_option maxRecDepth 100000
set_option maxHeartbeats 4000000
/-! Mi, soundness 11: calls with two values; sorted -/
namespace Mi
open PySem L2
section
variable {X : Cx} {cl : Gx} {W : WX} {a b c o : Expr} {fa fb fc fo : Env → R D} {pos p p2 apos cpos : Pos}
/-! ### min(x, y), max(x, y) -/
theorem min_inv {d e z : D} (h : b2R .min d e = .ok z) : ∃ i j, d = .int i ∧ e = .int j ∧ z = .int (if j < i then j else i) := by
  cases d <;> first | (cases h; done) | skip
  cases e <;> first | (cases h; done) | skip
  cases h; exact ⟨_, _, rfl, rfl, rfl⟩
theorem max_inv {d e z : D} (h : b2R .max d e = .ok z) : ∃ i j, d = .int i ∧ e = .int j ∧ z = .int (if j > i then j else i) := by
  cases d <;> first | (cases h; done) | skip
  cases e <;> first | (cases h; done) | skip
  cases h; exact ⟨_, _, rfl, rfl, rfl⟩
def CallD2 (X : Cx) (f : Value) (g : D → D → R D) : Prop :=
  (∀ x y c, g x y ≠ .rz c) ∧ ∀ (O : AP_), CallR X f (fun vs H Q => (∀ a, O a → H a ≠ none) ∧ ∃ x y d e z, vs = [x, y] ∧ Rb X.K O H x d ∧ Rb X.K O H y e ∧ g d e = .ok z ∧ ∀ v H', Same H H' → Rp X.K O H' v z → Q v H')
theorem callD_min2 (hcalm : X.calm = true) : CallD2 X (.builtin "min") (b2R .min) := by
  refine ⟨b2R_norz .min, fun O pins s σ H vs us Q I r h => ?_⟩
  obtain ⟨dom, x, y, d, e, z, rfl, r1, r2, hz, q⟩ := h
  obtain ⟨i, j, rfl, rfl, rfl⟩ := min_inv hz
  exact call_min2 hcalm pins s σ H _ us Q I r ⟨i, j, by rw [(r1.rp rfl).inv_int, (r2.rp rfl).inv_int], q _ H (Same.refl H) (.int _)⟩
theorem callD_max2 (hcalm : X.calm = true) : CallD2 X (.builtin "max") (b2R .max) := by
  refine ⟨b2R_norz .max, fun O pins s σ H vs us Q I r h => ?_⟩
  obtain ⟨dom, x, y, d, e, z, rfl, r1, r2, hz, q⟩ := h
  obtain ⟨i, j, rfl, rfl, rfl⟩ := max_inv hz
  exact call_max2 hcalm pins s σ H _ us Q I r ⟨i, j, by rw [(r1.rp rfl).inv_int, (r2.rp rfl).inv_int], q _ H (Same.refl H) (.int _)⟩
theorem de_callB2 {id : String} {x : Str} {g : D → D → R D} (h : CallD2 X (.builtin id) g) (hg : Gl X x) (hm : X.mg x = none) (hv : bootBuiltins x = some (.builtin id)) (ha : DB X cl W a fa) (hb : DB X cl W b fb) (hpa : plainE a = true) (hpb : plainE b = true) (hn : x ≠ "__name__") (hdb : (x == ("__debug__" : Str)) = false) :
    DE X cl W (.Call (.Name x p) [a, b] [] pos) fun ρ => (fa ρ).bind fun x => (fb ρ).bind fun y => g x y :=
  ⟨fun O ρ => ⟨fun pins s σ H Q I q => (pe_callB (h.2 (OO O σ ρ)) hg hm hv (pa_cons (ha.run O ρ) (pa_cons (hb.run O ρ) pa_nil (star_one hpb _ _)) (star_one hpa _ _)) hn hdb (star_one hpa _ _) (star_any (es := [b]) (by rw [List.all_cons, hpb]; rfl) _ _)).run pins s σ H Q I (by
    refine tB.bind q fun x d H1 st1 s1 r1 _ q1 => ?_
    refine tB.bind ⟨st1, q1⟩ fun y e H2 st2 s2 r2 _ q2 => ⟨st2.dom, x, y, d, e, ?_⟩
    cases hz : g d e with
    | ok z => rw [hz] at q2; exact ⟨z, rfl, r1.more s2, r2, rfl, q2⟩
    | rz c => exact absurd hz (h.1 d e c)
    | no => rw [hz] at q2; exact q2.elim)⟩⟩
/-! ### d.get(k, x) -/
structure MtD3 (X : Cx) (name : Str) (ok : D → Bool) (g : D → D → D → R D) : Prop where
  norz : ∀ x y z c, g x y z ≠ .rz c
  run : ∀ d, ok d = true → ∃ T id, PlainAttrs T ∧ Slot T name id ∧ typeOf (.builtin id) = pure (.type "method_descriptor") ∧ (∀ (O : AP_) (H : Hp) (x : V), Rb X.K O H x d → MTy X T x H) ∧
    ∀ O : AP_, MtR X id (fun x xs H Q => (∀ a, O a → H a ≠ none) ∧ ∃ y w e f z, xs = [y, w] ∧ Rb X.K O H x d ∧ Rp X.K O H y e ∧ Rp X.K O H w f ∧ g d e f = .ok z ∧ ∀ v H', Same H H' → Rp X.K O H' v z → Q v H')
theorem de_m2 {name : Str} {ok : D → Bool} {g : D → D → D → R D} (h : MtD3 X name ok g) (ho : DB X cl W o fo) (ha : DE X cl W a fa) (hb : DE X cl W b fb) (hpa : plainE a = true) (hpb : plainE b = true) (hbase : attributeBase o name X.env (eval o X.env) = eval o X.env) (hline : (apos.endLine == cpos.line) = true) :
    DE X cl W (.Call (.Attribute o name apos) [a, b] [] cpos) fun ρ => (fo ρ).bind fun x => if ok x then (fa ρ).bind fun y => (fb ρ).bind fun z => g x y z else .no :=
  ⟨fun O ρ => (pe_bmA (ho.run O ρ) (pa_cons (ha.run O ρ) (pa_cons (hb.run O ρ) pa_nil (star_one hpb _ _)) (star_one hpa _ _)) (by rw [List.all_cons, List.all_cons, hpa, hpb]; rfl) rfl hbase hline).imp fun σ H Q q => by
    refine tB.bind q fun x d H1 st1 s1 r1 _ q1 => ?_
    split at q1
    · rename_i hok
      obtain ⟨T, id, pa, slot, hty, mty, run⟩ := h.run d hok
      refine ⟨T, id, pa, slot, hty, mty _ _ _ r1, ?_⟩
      refine tE.bind ⟨st1, q1⟩ fun y e H2 st2 s2 r2 _ q2 => ?_
      refine tE.bind ⟨st2, q2⟩ fun w f H3 st3 s3 r3 _ q3 => ⟨_, run (OO O σ ρ), st3.dom, y, w, e, f, ?_⟩
      cases hz : g d e f with
      | ok z => rw [hz] at q3; exact ⟨z, rfl, (r1.more s2).more s3, r2.more s3, r3, rfl, q3⟩
      | rz c => exact absurd hz (h.norz d e f c)
      | no => rw [hz] at q3; exact q3.elim
    · exact q1.elim⟩
theorem b3R_norz (b : B3) (x y z : D) (c : Nat) : b3R b x y z ≠ .rz c := by
  unfold b3R
  repeat' split
  all_goals first | (intro h; cases h; done) | skip
theorem mtD_get2 (hu : X.A.units + 1 < cLine) : MtD3 X "get" (recv3 .get) (b3R .get) := by
  refine ⟨b3R_norz .get, fun d hd => ?_⟩
  cases d <;> first | (cases hd; done) | skip
  rename_i b ks
  refine ⟨"dict", _, F.plainAttrs_dict, F.slot_dict_get, F.type_dict_get, fun O H v r => ?_, fun O pins s σ H v xs u us Q I rv rvs hh => ?_⟩
  · cases b with
    | true => obtain ⟨p, kvs, rfl, h1, h2⟩ := r.inv_dk; exact mty_dic (K := X.K) (.inl ⟨kvs, h1⟩)
    | false => obtain ⟨p, kvs, rfl, h1, h2⟩ := r.inv_dt; exact mty_dic (K := X.K) (.inr ⟨kvs, h1⟩)
  · obtain ⟨dom, y, w, e, f, z, rfl, r1, r2, r3, hz, q⟩ := hh
    unfold b3R at hz
    simp only at hz
    split at hz
    · rename_i k hk
      split at hz
      · rename_i hb
        cases hz
        obtain ⟨p, rfl, _, g⟩ := dget_d r1 r2 hk hb
        cases rv
        obtain ⟨t, t', rfl, rt, rt'⟩ := vals2 rvs
        rcases g with ⟨w', e', g1, g2, g3⟩ | ⟨g1, g2⟩
        · refine d_get2 hu I g1 rt rt' fun w2 s' J rw' => ⟨w', H, J, rw', q _ H (Same.refl H) ?_⟩
          rw [g2]; exact g3
        · refine d_get2 hu I g1 rt rt' fun w2 s' J rw' => ⟨w, H, J, rw', q _ H (Same.refl H) ?_⟩
          rw [g2]; exact r3
      · cases hz
    · cases hz
end

/-! ### sorted -/
open PySem.W in
theorem alike_int (i j : Int) : alike (.int i) (.int j) = true := by simp [alike]
/-- a way of sorting: how the data bear the keys, the order -/
structure SortW (β : Type) where
  enc : β → D
  le : β → β → Bool
  dat : ∀ b, (enc b).dat 3 = true
  alike : ∀ b c, PySem.W.alike (enc b).py (enc c).py = true
  ord : PySem.W.dataLe false (fun b => (enc b).py) = le
theorem pys_ints : ∀ ns : List Int, pys (ns.map D.int) = ns.map PyData.int
  | [] => rfl
  | n :: r => by rw [List.map_cons, pys, pys_ints r]; rfl
theorem dat_ints (n : Nat) (ns : List Int) : (ns.map D.int).all (D.dat n) = true := by
  rw [List.all_map, List.all_eq_true]
  intro x _
  cases n <;> rfl
def srI : SortW Int where
  enc := .int
  le := leI
  dat := fun _ => rfl
  alike := fun _ _ => by simp [D.py, PySem.W.alike]
  ord := by
    have := PySem.W.dataLe_int (β := Int) id
    simp only [D.py]
    exact this
def srS : SortW (List Nat) where
  enc := .str
  le := leS
  dat := fun _ => rfl
  alike := fun _ _ => by simp [D.py, PySem.W.alike]
  ord := by
    have := PySem.W.dataLe_str (β := List Nat) toS
    simp only [D.py]
    rw [this]
    funext a b
    exact decide_eq_decide.mpr (by simp [toS])
theorem dataLt_tups (xs ys : List Int) : PySem.W.dataLt (.tuple (xs.map .int)) (.tuple (ys.map .int)) = decide (xs < ys) := by
  rw [PySem.W.dataLt_tuple]
  exact PySem.W.dataLt_ints xs ys
theorem pyT (ts : List Int) : (D.tup (ts.map D.int)).py = .tuple (ts.map .int) := by rw [D.py, pys_ints]
def srT : SortW (List Int) where
  enc := fun t => .tup (t.map .int)
  le := leT
  dat := fun t => dat_ints 2 t
  alike := fun b c => by
    rw [pyT, pyT]
    simp only [PySem.W.alike]
    exact PySem.W.alike_ints b c
  ord := by
    funext a b
    rw [PySem.W.dataLe_eq]
    show (!PySem.W.dataLt (D.tup (b.map D.int)).py (D.tup (a.map D.int)).py) = _
    rw [pyT, pyT, dataLt_tups]
    unfold leT
    by_cases h : b < a
    · have h' : ¬ a ≤ b := fun r => List.not_lt.mpr r h
      simp [h, h']
    · have h' : a ≤ b := List.not_lt.mp h
      simp [h, h']
theorem pyP (p : Int × List Int) : (D.tup [.int p.1, .tup (p.2.map D.int)]).py = .tuple [.int p.1, .tuple (p.2.map .int)] := by
  rw [D.py, pys, pys, pyT]; rfl
def srP : SortW (Int × List Int) where
  enc := fun p => .tup [.int p.1, .tup (p.2.map .int)]
  le := leP
  dat := fun p => by
    have := dat_ints 1 p.2
    rw [D.dat, List.all_cons, List.all_cons]
    simp only [D.dat, List.all_nil, Bool.and_true, Bool.true_and]
    exact this
  alike := fun b c => by
    rw [pyP, pyP]
    simp [PySem.W.alike, PySem.W.alikeAll, PySem.W.alike_ints]
  ord := by
    funext a b
    rw [PySem.W.dataLe_eq]
    show (!PySem.W.dataLt (D.tup [.int b.1, .tup (b.2.map D.int)]).py (D.tup [.int a.1, .tup (a.2.map D.int)]).py) = _
    rw [pyP, pyP, PySem.W.dataLt_pair (by simp [PySem.W.alike]) (by simp [PySem.W.alike, PySem.W.alike_ints]), PySem.W.dataLt_int, dataLt_tups]
    have ev : ∀ xs ys : List Int, PyData.eqvAll (xs.map .int) (ys.map .int) = decide (xs = ys) := by
      intro xs
      induction xs with
      | nil => intro ys; cases ys <;> simp [PyData.eqvAll]
      | cons x xs ih =>
        intro ys
        cases ys with
        | nil => simp [PyData.eqvAll]
        | cons y ys =>
          rw [List.map_cons, List.map_cons, PyData.eqvAll, ih ys, PyData.eqv]
          by_cases h1 : x = y <;> by_cases h2 : xs = ys <;> simp [h1, h2]
    have e1 : PyData.eqv (.int b.1) (.int a.1) = decide (b.1 = a.1) := by rw [PyData.eqv]; by_cases h : b.1 = a.1 <;> simp [h]
    have e2 : PyData.eqv (.tuple (b.2.map .int)) (.tuple (a.2.map .int)) = decide (b.2 = a.2) := by rw [PyData.eqv]; exact ev _ _
    rw [e1, e2]
    unfold leP
    by_cases h1 : b.1 = a.1
    · rw [if_pos (decide_eq_true h1), if_pos h1.symm]
      by_cases h2 : b.2 = a.2
      · rw [if_pos (decide_eq_true h2), h2]
        have : a.2 ≤ a.2 := List.le_refl _
        simp [this]
      · rw [if_neg (by simp [h2])]
        by_cases h : b.2 < a.2
        · have h' : ¬ a.2 ≤ b.2 := fun r => List.not_lt.mpr r h
          simp [h, h']
        · have h' : a.2 ≤ b.2 := List.not_lt.mp h
          simp [h, h']
    · rw [if_neg (by simp [h1]), if_neg (fun e => h1 e.symm)]
      have : (!decide (b.1 < a.1)) = decide (a.1 < b.1) := by
        by_cases h : b.1 < a.1
        · have : ¬ a.1 < b.1 := by omega
          simp [h, this]
        · have : a.1 < b.1 := by omega
          simp [h, this]
      exact this
end Mi

set_option Elab.async false
set_option linter.all false
set_option maxRecDepth 100000
set_option maxHeartbeats 4000000
/-! Mi, soundness 12: sorted -/
namespace Mi
open PySem L2
section
variable {X : Cx} {pins : List (Addr × Obj)} {σ : St} {H : Hp} {s s' : Shared} {A : Around} {E : Value → Shared → Prop} {O : AP_}
theorem inv_any (I : L2.Inv X pins σ H s) (k : ∀ b o, s.heap.get? b = some o → s'.heap.get? b = some o) (g : s'.gens = s.gens) (o : s'.os = s.os) : L2.Inv X pins σ H s' :=
  I.call' (ch := []) o (Un.kept k) (I.hok.kept k) (by rw [g]; exact I.bare) (fun _ z => nomatch z)
theorem fits_line {l : Addr} {vs : List V} (I : L2.Inv X pins σ H s) (h : H l = some (.lst vs)) : vs.length ≤ sizeLine := (show ObjOk X.prog X.w H s.heap l (.lst vs) from I.hok l _ h).1
theorem fits_tup {l : Addr} {vs : List V} (I : L2.Inv X pins σ H s) (h : H l = some (.tup vs)) : vs.length ≤ sizeLine := (show ObjOk X.prog X.w H s.heap l (.tup vs) from I.hok l _ h).1
theorem rks_keys {K : PySem.W.Frag} : ∀ {kvs : List (Key × V)} {ks : KVs}, RKs K O H kvs ks → Rps K O H (kvs.map fun p => kV p.1) (ks.map fun p => p.1.d)
  | _, _, .nil => .nil
  | _, _, .cons (k := k) h0 _ h => by
    rw [List.map_cons, List.map_cons]
    refine .cons ?_ (rks_keys h)
    cases k with
    | inl i => exact .int i
    | inr x => exact .str x h0
/-- no dict with tuples for keys -/
def _root_.Mi.D.noT : D → Bool
  | .dic false _ => false
  | _ => true
/-- a value of data is gathered -/
theorem coll_of (hh : A.handled = none) {v : V} {u : Value} {d : D} {ds : List D} {Q : List Value → Shared → Prop} (I : L2.Inv X pins σ H s) (r : Rb X.K O H v d) (rv : RelV v u) (hd : d.noT = true) (he : itemsR d = .ok ds)
    (q : ∀ s' us vs, (∀ b o, s.heap.get? b = some o → s'.heap.get? b = some o) → s'.gens = s.gens → s'.os = s.os → Vals vs us → Rps X.K O H vs ds → vs.length ≤ sizeLine → Q us s') : wpAny (model X.prog X.w) A (collect u) Q E s := by
  cases d <;> first | (cases he; done) | skip
  · cases he
    rename_i x
    obtain ⟨rfl, ok⟩ := (r.rp rfl).inv_str
    obtain ⟨t, rfl⟩ := rv
    refine wpAny_collect_str hh (toS x) t (fun s' acc k g _ o hi => ?_) (by simpa [toS] using ok.1)
    exact q s' acc.toList (chV x) k g o (vals_chV (by simpa [toS] using hi)) (chV_rps ok) (by simpa [chV] using ok.1)
  · cases he
    obtain ⟨p, vs, rfl, h1, h2⟩ := r.inv_lst
    cases rv
    obtain ⟨its, rv, pl, hz⟩ := I.list (.of h1)
    refine PyProof.Rows.collect_list pl.isList ?_ (by rw [← rv.length]; exact hz)
    refine q _ its vs (fun b o e => ?_) rfl rfl rv h2 hz
    have hb : b ≠ s.heap.objs.size := Nat.ne_of_lt (Heap.lt_size e)
    exact (Heap.get?_update_other _ _ (Ne.symm hb)).trans (Heap.get?_push_of_some _ e)
  · cases he
    obtain ⟨p, vs, rfl, _, h1, h2⟩ := (r.rp rfl).inv_tup
    cases rv
    obtain ⟨its, rv, ⟨o, ho, hc, n, hd⟩, hz⟩ := I.tuple (.of h1)
    refine wpAny_collect_seq p (.inr rfl) ho hc hd (fun h' k => ?_) (by rw [List.size_toArray, ← rv.length]; exact hz)
    exact q _ its vs (fun b o e => k b o e) rfl rfl rv h2 hz
  · rename_i b ks
    cases b with
    | false => cases hd
    | true =>
      cases he
      obtain ⟨p, kvs, rfl, h1, h2⟩ := r.inv_dk
      cases rv
      obtain ⟨z, lo, vs, rk, hdd⟩ := dk_rd I.hok h1
      obtain ⟨ep, hat⟩ := hdd.dictAt
      have hl : kvs.length = vs.length := PySem.Paired.length rk
      refine PySem.W.kdu_collect (PySem.W.kdl_dict (knd := mixKind X.prog X.w) (kvs := vs) (ep := ep) lo) hh hat (by rw [← hl]; exact z) fun h' tk acc' hkeep hacc => ?_
      refine q _ acc'.toList (kvs.map fun p => kV p.1) (fun b o e => hkeep b o e) rfl rfl ?_ (rks_keys h2) (by rw [List.length_map]; exact z)
      have el : acc'.toList.length = acc'.size := by simp
      refine vals_of_at (by rw [List.length_map, el, hacc.1, hl]) fun j x w h1 h2 => ?_
      obtain ⟨k, y, hky, hi⟩ := hacc.2 j w (by rw [← Array.getElem?_toList]; exact h2)
      have e1 : (kvs.map (·.1))[j]? = some k := by
        rw [KV.keys rk, List.getElem?_map, hky] <;> rfl
      have e2 : (kvs.map fun kv => kV kv.1)[j]? = some (kV k) := by
        have e3 : (kvs.map fun kv => kV kv.1) = (kvs.map (·.1)).map kV := by rw [List.map_map] <;> rfl
        rw [e3, List.getElem?_map, e1] <;> rfl
      rw [e2] at h1
      cases h1
      exact keyIs_rel hi
theorem each_of {β : Type} (S : SortW β) : ∀ {vs : List V} {us : List Value} {bs : List β}, Vals vs us → Rps X.K O H vs (bs.map S.enc) → PySem.W.EachIs (fun u b => ∃ x, RelV x u ∧ Rp X.K O H x (S.enc b)) us bs
  | _, _, [], rv, rp => by cases rp; cases rv; exact .nil
  | _, _, b :: bs, rv, rp => by
    rw [List.map_cons] at rp
    cases rp with
    | cons h t => cases rv with
      | cons r1 r2 => exact .cons ⟨_, r1, h⟩ (each_of S r2 t)
theorem of_each {β : Type} (S : SortW β) : ∀ {us : List Value} {bs : List β}, PySem.W.EachIs (fun u b => ∃ x, RelV x u ∧ Rp X.K O H x (S.enc b)) us bs → ∃ vs, Vals vs us ∧ Rps X.K O H vs (bs.map S.enc)
  | _, _, .nil => ⟨[], .nil, .nil⟩
  | _, _, .cons ⟨x, r, p⟩ t => by
    obtain ⟨vs, h1, h2⟩ := of_each S t
    exact ⟨x :: vs, .cons r h1, .cons p h2⟩
/-- behind the gathering: a new list that is sorted -/
theorem sort_after {β : Type} (S : SortW β) {vs : List V} {us : List Value} {bs : List β} {Q : VK} (hu : A.units + 64 < cLine) (I : L2.Inv X pins σ H s) (rv : Vals vs us) (rp : Rps X.K O H vs (bs.map S.enc)) (hz : vs.length ≤ sizeLine) (hk : PySem.W.Sortable (bs.map fun b => (S.enc b).py)) (dom : ∀ a, O a → H a ≠ none)
    (q : ∀ v H', Same H H' → Rp X.K O H' v (.lst ((bs.mergeSort S.le).map S.enc)) → Q v H') :
    wpAny (model X.prog X.w) A (do
      let l ← newList us
      let _ ← holding [l] (call (.builtin "list.sort") [l])
      ret l) (fun fin s' => ∃ r, fin = .done (.ret r) ∧ EP X pins σ Q r s') E s := by
  have hlen := rv.length
  have hb : vs.length = bs.length := by rw [rp.length, List.length_map]
  refine wpAny_bind (wpAny_newList ?_ (by rw [← hlen]; exact hz))
  have hoL : (s.heap.push (PyProof.Rows.seqObj "list" us.toArray 0)).get? s.heap.objs.size = some (PyProof.Rows.seqObj "list" us.toArray 0) := Heap.get?_push_size _ rfl
  have e := each_of S rv rp
  have er : PySem.W.EachIs (fun v b => ∃ as, Reads s.heap v (S.enc b).py as) us bs := e.mono fun u b ⟨x, r1, r2⟩ => Dp.reads I _ x u (r2.dp (S.dat b)) r1
  have er' : PySem.W.EachIs (fun v b => ∃ as, Reads (PySem.W.sortingHeap (s.heap.push (PyProof.Rows.seqObj "list" us.toArray 0)) s.heap.objs.size us) v (S.enc b).py as) us bs := er.mono fun v b ⟨as, r⟩ => ⟨as, PyProof.Rows.Reads.keeps (fun c o z => PySem.W.sortingHeap_old (Nat.ne_of_lt (Heap.lt_size z)) (Heap.get?_push_of_some _ z)) r⟩
  have hal : PySem.W.AllAlike (bs.map fun b => (S.enc b).py) := PySem.W.AllAlike.of S.alike
  have hdp : ∀ b, b ∈ bs → A.units + 1 + (S.enc b).py.depth < cLine := fun b _ => by
    have := D.py_deep (S.enc b) 3 (S.dat b)
    omega
  refine wpAny_bind (wpAny_holding (wpAny_call_entry PyProof.Rows.slot_list_sort ⟨_, hoL, rfl⟩ PyProof.Rows.entry_list_sort
    (PySem.W.list_sort_vals (κ := PySem.W.dataKind (PySem.W.sortingHeap (s.heap.push (PyProof.Rows.seqObj "list" us.toArray 0)) s.heap.objs.size us) (bs.map fun b => (S.enc b).py)) hoL
      (PySem.W.SortsAt.data (s := { s with heap := PySem.W.sortingHeap (s.heap.push (PyProof.Rows.seqObj "list" us.toArray 0)) s.heap.objs.size us }) (PySem.W.each_map (R := fun v d => ∃ as, Reads (PySem.W.sortingHeap (s.heap.push (PyProof.Rows.seqObj "list" us.toArray 0)) s.heap.objs.size us) v d as) (fun b => (S.enc b).py) er') hal hk (PySem.W.bound_map hdp)) (by rw [← hlen]; exact hz) ⟨_, rfl, ?_⟩) (PyProof.Rows.args_list_sort _)))
  obtain ⟨c, hc⟩ := PyProof.Rows.sortedHeap_at (vs := us) (out := (PySem.W.sortVals (PySem.W.dataKind (PySem.W.sortingHeap (s.heap.push (PyProof.Rows.seqObj "list" us.toArray 0)) s.heap.objs.size us) (bs.map fun b => (S.enc b).py)) false us us).toArray) hoL
  obtain ⟨ws, w1, w2⟩ := of_each S (PySem.W.sortVals_data (h' := PySem.W.sortingHeap (s.heap.push (PyProof.Rows.seqObj "list" us.toArray 0)) s.heap.objs.size us) false e er' hal)
  rw [S.ord] at w2
  have hz2 : ws.length ≤ sizeLine := by rw [w2.length, List.length_map, List.length_mergeSort, ← hb]; exact hz
  refine wpAny_pure ⟨_, rfl, .ref s.heap.objs.size, upd H s.heap.objs.size (.lst ws), I.laid (t' := s.toks) (fun b o z => ?_) (Nat.le_refl _) ⟨hz2, _, c, w1, hc⟩, rfl, new_lst dom w2 q _ (I.hok.fresh (Nat.le_refl _))⟩
  have hne := Nat.ne_of_lt (Heap.lt_size z)
  rw [PyProof.Rows.sortedHeap_old hne (Heap.lt_size (Heap.get?_push_of_some _ z))]
  exact Heap.get?_push_of_some _ z
theorem intsD_map : ∀ {xs : List D} {ns : List Int}, intsD xs = some ns → xs = ns.map srI.enc
  | [], ns, h => by cases h; rfl
  | x :: r, ns, h => by
    cases x <;> first | (cases h; done) | skip
    unfold intsD at h
    cases e : intsD r with
    | none => rw [e] at h; cases h
    | some q => rw [e] at h; cases h; rw [intsD_map e]; rfl
theorem strsD_map : ∀ {xs : List D} {ns : List (List Nat)}, strsD xs = some ns → xs = ns.map srS.enc
  | [], ns, h => by cases h; rfl
  | x :: r, ns, h => by
    cases x <;> first | (cases h; done) | skip
    unfold strsD at h
    cases e : strsD r with
    | none => rw [e] at h; cases h
    | some q => rw [e] at h; cases h; rw [strsD_map e]; rfl
theorem tupIs_map : ∀ {xs : List D} {ns : List (List Int)}, tupIs xs = some ns → xs = ns.map srT.enc
  | [], ns, h => by cases h; rfl
  | x :: r, ns, h => by
    cases x <;> first | (cases h; done) | skip
    unfold tupIs at h
    split at h
    · rename_i ys is hi
      cases e : tupIs r with
      | none => rw [e] at h; cases h
      | some q =>
        rw [e] at h
        cases h
        rw [tupIs_map e, intsD_map hi]
        rfl
    · cases h
theorem pairIs_map : ∀ {xs : List D} {ns : List (Int × List Int)}, pairIs xs = some ns → xs = ns.map srP.enc
  | [], ns, h => by cases h; rfl
  | x :: r, ns, h => by
    unfold pairIs at h
    split at h
    · cases h; rename_i e; cases e
    · rename_i n ys r' e
      cases e
      split at h
      · rename_i is hi
        cases e : pairIs r with
        | none => rw [e] at h; cases h
        | some q =>
          rw [e] at h
          cases h
          rw [pairIs_map e, intsD_map hi]
          rfl
      · cases h
    · cases h
theorem so_others {β : Type} (S : SortW β) (bs : List β) (h : ∀ b, (S.enc b).py ≠ .none ∧ ∀ xs, (S.enc b).py ≠ .tuple xs) : PySem.W.Sortable (bs.map fun b => (S.enc b).py) := PySem.W.Sortable.others h
theorem so_ints (bs : List Int) : PySem.W.Sortable (bs.map fun b => (srI.enc b).py) := so_others srI bs fun b => ⟨fun e => (by cases (show PyData.int b = .none from e)), fun xs e => (by cases (show PyData.int b = .tuple xs from e))⟩
theorem so_strs (bs : List (List Nat)) : PySem.W.Sortable (bs.map fun b => (srS.enc b).py) := so_others srS bs fun b => ⟨fun e => (by cases (show PyData.str (toS b) = .none from e)), fun xs e => (by cases (show PyData.str (toS b) = .tuple xs from e))⟩
theorem so_pairs (bs : List (Int × List Int)) : PySem.W.Sortable (bs.map fun b => (srP.enc b).py) := PySem.W.Sortable.tuples fun b => ⟨_, _, pyP b⟩
theorem so_tups {bs : List (List Int)} (h : bs.all (fun t => !t.isEmpty) = true) : PySem.W.Sortable (bs.map fun b => (srT.enc b).py) := .inl fun d hd => by
  obtain ⟨b, hb, rfl⟩ := List.mem_map.mp hd
  have := List.all_eq_true.mp h b hb
  cases b with
  | nil => simp at this
  | cons x r => exact ⟨_, _, pyT (x :: r)⟩
/-- the four ways of sorting -/
theorem sortR_inv {ds : List D} {z : D} (h : sortR ds = .ok z) : ∃ (β : Type) (S : SortW β) (bs : List β), ds = bs.map S.enc ∧ z = .lst ((bs.mergeSort S.le).map S.enc) ∧ PySem.W.Sortable (bs.map fun b => (S.enc b).py) := by
  unfold sortR at h
  split at h
  · rename_i ns e; cases h; exact ⟨_, srI, ns, intsD_map e, rfl, so_ints ns⟩
  · split at h
    · rename_i ns e; cases h; exact ⟨_, srS, ns, strsD_map e, rfl, so_strs ns⟩
    · split at h
      · rename_i ns e
        split at h
        · rename_i ha; cases h; exact ⟨_, srT, ns, tupIs_map e, rfl, so_tups ha⟩
        · cases h
      · split at h
        · rename_i ns e; cases h; exact ⟨_, srP, ns, pairIs_map e, rfl, so_pairs ns⟩
        · cases h
theorem callD_sorted (hu : X.A.units + 65 < cLine) (hcalm : X.calm = true) : CallD X (.builtin "sorted") (b1R .sorted) := by
  refine ⟨b1R_norz .sorted, fun O pins s σ H vs us Q I r h => ?_⟩
  obtain ⟨dom, x, d, z, rfl, r1, hz, q⟩ := h
  obtain ⟨u, rfl, ru⟩ := vals1 r
  have hn : d.noT = true := by
    cases d <;> first | rfl | skip
    rename_i b ks
    cases b <;> first | rfl | (cases hz; done)
  have hz : (itemsR d).bind sortR = .ok z := by
    cases d <;> first | exact hz | skip
    rename_i b ks
    cases b <;> first | exact hz | (cases hn; done)
  cases hi : itemsR d with
  | no => rw [hi] at hz; cases hz
  | rz c => cases d <;> cases hi
  | ok ds =>
    rw [hi] at hz
    obtain ⟨β, S, bs, rfl, rfl, hk⟩ := sortR_inv (show sortR ds = .ok z from hz)
    refine Calls.call_function_entry PyProof.Rows.kind_sorted PyProof.Rows.plain_sorted PyProof.Rows.entry_sorted (PyProof.Rows.args_sorted1 _) ?_
    unfold Builtin.«sorted»
    refine wpAny_bind (m := checkCount "sorted" 1 1 _) (wpAny_pure ?_)
    refine wpAny_bind (coll_of (A := X.A.in1) (I.ok.hd hcalm) I r1 ru hn hi fun s' us vs k g o rv rp hl => ?_)
    exact sort_after (A := X.A.in1) S (by show X.A.units + 1 + 64 < cLine; omega) (inv_any I k g o) rv rp hl hk dom q
end
end Mi

set_option Elab.async false
set_option linter.all false
set_option maxRecDepth 100000
set_option maxHeartbeats 4000000
/-! Mi, soundness 13: sets of None, ints, texts -/
namespace Mi
open PySem L2 PySem.Spec PyProof.Rows
theorem paired_perm {α β : Type} {F : α → β → Prop} {l l' : List α} (p : l'.Perm l) : ∀ {L : List β}, PySem.Paired F l L → ∃ L', L'.Perm L ∧ PySem.Paired F l' L' := by
  induction p with
  | nil => intro L h; exact ⟨L, List.Perm.refl _, h⟩
  | cons x _ ih =>
    intro L h
    cases h with
    | cons h1 h2 =>
      obtain ⟨L', p', q⟩ := ih h2
      exact ⟨_ :: L', p'.cons _, .cons h1 q⟩
  | swap x y l =>
    intro L h
    cases h with
    | cons h1 h2 => cases h2 with
      | cons h2 h3 => exact ⟨_, List.Perm.swap _ _ _, .cons h2 (.cons h1 h3)⟩
  | trans _ _ ih1 ih2 =>
    intro L h
    obtain ⟨L1, p1, q1⟩ := ih2 h
    obtain ⟨L2, p2, q2⟩ := ih1 q1
    exact ⟨L2, p2.trans p1, q2⟩
theorem paired_mem {α β : Type} {F : α → β → Prop} : ∀ {l : List α} {L : List β}, PySem.Paired F l L → ∀ {y : β}, y ∈ L → ∃ x ∈ l, F x y
  | _, _, .nil, y, h => by cases h
  | _, _, .cons h t, y, hy => by
    rcases List.mem_cons.mp hy with e | hy
    · subst e; exact ⟨_, List.mem_cons_self, h⟩
    · obtain ⟨x, h1, h2⟩ := paired_mem t hy
      exact ⟨x, List.mem_cons_of_mem _ h1, h2⟩
theorem paired_memL {α β : Type} {F : α → β → Prop} : ∀ {l : List α} {L : List β}, PySem.Paired F l L → ∀ {x : α}, x ∈ l → ∃ y ∈ L, F x y
  | _, _, .nil, y, h => by cases h
  | _, _, .cons h t, y, hy => by
    rcases List.mem_cons.mp hy with e | hy
    · subst e; exact ⟨_, List.mem_cons_self, h⟩
    · obtain ⟨x, h1, h2⟩ := paired_memL t hy
      exact ⟨x, List.mem_cons_of_mem _ h1, h2⟩
section
variable {P : Program} {w : World} {A : Around} {E : Value → Shared → Prop} {s : Shared}
/-- an entry for a key -/
def KeE (P : Program) (w : World) (e : Int × Value) (k : Option Key) : Prop := (noneKind P w).is k e.2 = true ∧ e.1 = (noneKind P w).hash k ∧ e.2.scannable = true
/-- the set at a has the members L, its table rises and can be walked -/
def SetL (P : Program) (w : World) (h : Heap) (a : Addr) (L : List (Option Key)) : Prop :=
  ∃ o es ep t L', h.get? a = some o ∧ o.ExactSet ∧ o.data = .set es ep t ∧ PySem.Paired (KeE P w) es.toList L' ∧ L'.Perm L ∧ L.Nodup ∧
    es.size < scanBound ∧ t.fits es.size = true ∧ Ris t.place.toList ∧ (w.params.followText "set-order" = true ∨ t.led = true)
theorem SetL.at {h h' : Heap} {a : Addr} {L : List (Option Key)} (R : SetL P w h a L) (k : ∀ o, h.get? a = some o → h'.get? a = some o) : SetL P w h' a L := by
  obtain ⟨o, es, ep, t, L', ho, r⟩ := R
  exact ⟨o, es, ep, t, L', k o ho, r⟩
theorem ke_elems {l : List (Int × Value)} {L : List (Option Key)} (g : PySem.Paired (KeE P w) l L) : ElemsOf (noneKind P w) l := fun e he => by
  obtain ⟨k, _, h1, h2, h3⟩ := paired_memL g he
  exact ⟨⟨k, h1, h2⟩, h3⟩
theorem ke_mem {l : List (Int × Value)} {L : List (Option Key)} (g : PySem.Paired (KeE P w) l L) (k : Option Key) : k ∈ L ↔ ∃ e ∈ l, (noneKind P w).is k e.2 = true := by
  constructor
  · intro h
    obtain ⟨e, he, q⟩ := paired_mem g h
    exact ⟨e, he, q.1⟩
  · rintro ⟨e, he, q⟩
    obtain ⟨k', hk, h1, _⟩ := paired_memL g he
    rw [(noneKind P w).inj _ _ _ q h1]; exact hk
theorem setL_add_tail {g : Bool → Sem Unit} (hg : ∀ (b : Bool) (s₁ : Shared) (Q' : Unit → Shared → Prop), Q' () s₁ → wpAny (model P w) A (g b) Q' E s₁)
    {a : Addr} {o : Obj} {es : Array (Int × Value)} {ep : Nat} {t : SetTable} (ho : s.heap.get? a = some o) (hex : o.ExactSet) (hd : o.data = .set es ep t)
    {es1 : Array (Int × Value)} {t2 : SetTable} {L' L : List (Option Key)} (g1 : PySem.Paired (KeE P w) es1.toList L') (p1 : L'.Perm L) (nd1 : L.Nodup)
    (hb1 : es1.size < scanBound) (hf2 : t2.fits es1.size = true) (hr : Ris t2.place.toList) (hl : w.params.followText "set-order" = true ∨ t2.led = true) {wasDummy : Bool} {R : Option Bool → Shared → Prop}
    (hR : ∀ h', Heap.SameBut a s.heap h' → SetL P w h' a L → R (some true) { s with heap := h' }) :
    wpAny (model P w) A (do
        storeSet a es1 t2
        if (!wasDummy && t2.tooFull) = true then do
            g (relayAll t2 es1 (SetTable.grown es1.size)).2.2
            storeSet a (relayAll t2 es1 (SetTable.grown es1.size)).1 (relayAll t2 es1 (SetTable.grown es1.size)).2.1
            pure (some true)
          else pure (some true)) R E s := by
  refine wpAny_bind (wpAny_storeSet_of ho hd ?_ (fits_of_scanBound hb1))
  have ho1 := store_at (es' := es1) (t' := t2) ho hd
  have sb1 := Heap.SameBut.update s.heap a (Obj.putSet es1 t2)
  split
  · have pm := relayAll_perm t2 es1 (SetTable.grown es1.size)
    have hf3 := relayAll_fits t2 es1 (SetTable.grown es1.size)
    have hr3 := relayAll_ris t2 es1 (SetTable.grown es1.size)
    have hl3 := relayAll_led t2 es1 (SetTable.grown es1.size)
    generalize relayAll t2 es1 (SetTable.grown es1.size) = Z at pm hf3 hr3 hl3 ⊢
    obtain ⟨es2, t3, gave⟩ := Z
    dsimp only at pm hf3 hr3 hl3 ⊢
    have hsz : es2.size = es1.size := by rw [← Array.length_toList, pm.length_eq, Array.length_toList]
    have hb2 : es2.size < scanBound := by rw [hsz]; exact hb1
    refine wpAny_bind (hg _ _ _ ?_)
    refine wpAny_bind (wpAny_storeSet_of ho1 rfl ?_ (fits_of_scanBound hb2))
    have ho2 := store_at (es' := es2) (t' := t3) ho1 rfl
    obtain ⟨L2, p2, g2⟩ := paired_perm pm g1
    refine wpAny_pure (hR _ (sb1.trans (Heap.SameBut.update _ a _)) ?_)
    exact ⟨_, es2, _, t3, L2, ho2, hex, rfl, g2, p2.trans p1, nd1, hb2, by rw [hsz]; rw [hsz] at hf3; exact hf3, hr3, hl.imp id fun z => by rw [hl3]; exact z⟩
  · exact wpAny_pure (hR _ sb1 ⟨_, es1, _, t2, L', ho1, hex, rfl, g1, p1, nd1, hb1, hf2, hr, hl⟩)
open Classical in
/-- with k -/
noncomputable def addK (L : List (Option Key)) (k : Option Key) : List (Option Key) := if k ∈ L then L else L ++ [k]
theorem setL_add_hashed {a : Addr} {L : List (Option Key)} {k : Option Key} {x : Value} {Q : Bool → Shared → Prop} (R : SetL P w s.heap a L) (hkey : (noneKind P w).is k x = true) (hsc : x.scannable = true) (room : L.length + 1 < scanBound)
    (hQ : ∀ b h', Heap.SameBut a s.heap h' → SetL P w h' a (addK L k) → Q b { s with heap := h' }) :
    wpAny (model P w) A (setAddHashed a x ((noneKind P w).hash k)) Q E s := by
  obtain ⟨o, es, ep, t, L', ho, hex, hd, g, hp, nd, hb, hf, hr, hl⟩ := R
  have hel : ElemsOf (noneKind P w) es.toList := ke_elems g
  unfold setAddHashed setAddHashedIn
  refine wpAny_holding (wpAny_bind (wpAny_setState_of ho hd hf ?_))
  dsimp only
  rw [byScan_of hsc hb hel]
  simp only [↓reduceIte]
  unfold setAddByScan
  refine wpAny_bind ?_
  refine wpAny_bind (wpAny_rule ?_)
  refine wpAny_bind (wpAny_setScan_of hkey ho hd hf hel ?_)
  cases hfi : List.findIdx? (fun e => (noneKind P w).is k e.2) es.toList with
  | some j =>
    dsimp only
    obtain ⟨hj, pj, _⟩ := List.findIdx?_eq_some_iff_getElem.mp hfi
    have hk : k ∈ L := hp.mem_iff.mp ((ke_mem g k).2 ⟨es.toList[j], List.getElem_mem hj, pj⟩)
    refine wpAny_pure (wpAny_pure ?_)
    refine hQ _ s.heap (Heap.SameBut.refl a s.heap) ?_
    unfold addK
    rw [if_pos hk]
    exact ⟨o, es, ep, t, L', ho, hex, hd, g, hp, nd, hb, hf, hr, hl⟩
  | none =>
    dsimp only
    have hnk : k ∉ L := fun z => by
      obtain ⟨e, he, q⟩ := (ke_mem g k).1 (hp.mem_iff.mpr z)
      have c := List.findIdx?_eq_none_iff.mp hfi e he
      rw [q] at c
      cases c
    have ea : addK L k = L ++ [k] := if_neg hnk
    have hgw : ∀ (b : Bool) {s₁ : Shared} {Q' : Unit → Shared → Prop}, Q' () s₁ → wpAny (model P w) A (match b with | true => rule "set.scan.the-table-gave-way" | false => pure ()) Q' E s₁ :=
      fun b s₁ Q' q => by cases b <;> first | exact wpAny_pure q | exact wpAny_rule q
    have pm := layNew_perm t es ((noneKind P w).hash k) x
    have hf1 := layNew_fits t es ((noneKind P w).hash k) x
    have hr1 := layNew_ris t es ((noneKind P w).hash k) x hr
    have hl1 := layNew_led t es ((noneKind P w).hash k) x
    generalize layNew t es ((noneKind P w).hash k) x = Z at pm hf1 hr1 hl1 ⊢
    obtain ⟨es1, t1, wasDummy, gave⟩ := Z
    dsimp only at pm hf1 hr1 hl1 ⊢
    rw [Array.toList_push] at pm
    have pc : es1.toList.Perm (((noneKind P w).hash k, x) :: es.toList) := pm.trans (List.perm_append_singleton _ _)
    obtain ⟨L1, p1, g1⟩ := paired_perm pc (L := k :: L') (.cons ⟨hkey, rfl, hsc⟩ g)
    have p1 : L1.Perm (addK L k) := by rw [ea]; exact (p1.trans (hp.cons k)).trans (List.perm_append_singleton _ _).symm
    have nd1 : (addK L k).Nodup := by
      rw [ea]
      exact (List.perm_append_singleton k L).symm.nodup_iff.mp (List.nodup_cons.mpr ⟨hnk, nd⟩)
    have hn : es.size = L.length := by rw [← Array.length_toList, g.length, hp.length_eq]
    have hsz : es1.size = L.length + 1 := by rw [← Array.length_toList, pc.length_eq, List.length_cons, Array.length_toList, hn]
    have hb1 : es1.size < scanBound := by rw [hsz]; exact room
    have hled : w.params.followText "set-order" = true ∨ t1.led = true := hl.imp id fun z => by rw [hl1]; exact z
    have fin : ∀ h', Heap.SameBut a s.heap h' → SetL P w h' a (addK L k) → Q true { s with heap := h' } := fun h' sb r => hQ true h' sb r
    refine wpAny_bind (hgw _ ?_)
    split
    · refine wpAny_bind ?_
      rw [hashByValue_scannable 8 hsc]
      refine wpAny_pure ?_
      refine setL_add_tail ?_ ho hex hd g1 p1 nd1 hb1 ?_ ?_ ?_ ?_
      · intro b s₁ Q' q; cases b <;> first | exact wpAny_pure q | exact wpAny_rule q
      · first | (split <;> first | exact hf1 | exact SetTable.fits_plain_off hf1) | exact hf1
      · first | (split <;> exact hr1) | exact hr1
      · first | (split <;> exact hled) | exact hled
      · intro h' sb r; dsimp only; exact wpAny_pure (fin h' sb r)
    · refine wpAny_bind (wpAny_pure ?_)
      simp only [↓reduceIte]
      refine setL_add_tail ?_ ho hex hd g1 p1 nd1 hb1 hf1 hr1 hled ?_
      · intro b s₁ Q' q; cases b <;> first | exact wpAny_pure q | exact wpAny_rule q
      · intro h' sb r; dsimp only; exact wpAny_pure (fin h' sb r)
noncomputable def addAll (L : List (Option Key)) : List (Option Key) → List (Option Key)
  | [] => L
  | k :: r => addAll (addK L k) r
theorem addK_len (L : List (Option Key)) (k : Option Key) : (addK L k).length ≤ L.length + 1 := by
  unfold addK
  split
  · omega
  · simp
/-- the loop of set(x) -/
theorem set_update_keys {I : Addr} {fp wr : List Addr} {G : Array GenState → Array GenState → Prop} {n : Nat} {Pv : Nat → Value → Prop} {St : Nat → Shared → Prop} {R : Result → Shared → Prop}
    (W : WalksS P w A.in1 I fp wr G n Pv St) (S : Addr) (hSf : S ∉ fp) (ks : List (Option Key)) (hn : n = ks.length) (hval : ∀ i v, Pv i v → ∃ k, ks[i]? = some k ∧ (noneKind P w).is k v = true ∧ v.scannable = true) :
    ∀ (k i : Nat) (s : Shared) (L : List (Option Key)), n - i = k → i ≤ n → L.length + k + 1 < scanBound → St i s → SetL P w s.heap S L →
      (∀ s', Moved (S :: wr) G s s' → SetL P w s'.heap S (addAll L (ks.drop i)) → R (.ok (.ret .none)) s') →
      codeAny (model P w) A (.builtin "set.update.loop" ⟨[.ref S, .ref I], []⟩) R s := by
  have hSw : S ∉ wr := fun h => hSf (W.sub _ h)
  have hsub : ∀ b ∈ wr, b ∈ S :: wr := fun b hb => List.mem_cons_of_mem _ hb
  intro k
  induction k with
  | zero =>
    intro i s L hk' hi hb hst hS hR
    have hin : i = n := by omega
    subst hin
    refine codeAny_builtin PyProof.Rows.F.entry_set_update_loop ?_
    rw [Around.under_plainId PyProof.Rows.F.plain_set_update_loop _]
    show wpAny _ A.in1 (pyNext (.ref I) >>= _) _ _ s
    refine wpAny_bind (W.done s _ _ hst fun s' hm => ?_)
    show wpAny _ A.in1 (ret Value.none) _ _ s'
    have e : ks.drop i = [] := List.drop_eq_nil_of_le (by omega)
    rw [e] at hR
    exact wpAny_pure (hR s' (hm.mono hsub) (hS.at fun o e => hm.heap S o hSw e))
  | succ k ih =>
    intro i s L hk' hi hb hst hS hR
    have hlt : i < n := by omega
    refine codeAny_builtin PyProof.Rows.F.entry_set_update_loop ?_
    rw [Around.under_plainId PyProof.Rows.F.plain_set_update_loop _]
    show wpAny _ A.in1 (pyNext (.ref I) >>= _) _ _ s
    refine wpAny_bind (W.item i s _ _ hlt hst fun v s' hP hst' hm => ?_)
    obtain ⟨z, hz, hk1, hsc⟩ := hval i v hP
    have hS' : SetL P w s'.heap S L := hS.at fun o e => hm.heap S o hSw e
    show wpAny _ A.in1 (holding [v] (setAdd S v) >>= _) _ _ s'
    refine wpAny_bind (wpAny_holding ?_)
    unfold setAdd
    refine wpAny_holding ?_
    refine wpAny_bind ((noneKind P w).pyHash (k := z) hk1 ?_)
    refine setL_add_hashed (s := { s' with toks := s'.toks + 1 }) hS' hk1 hsc (by omega) fun b h' hsb hS2 => ?_
    have ed : ks.drop i = z :: ks.drop (i + 1) := by
      obtain ⟨h1, h2⟩ := List.getElem?_eq_some_iff.mp hz
      rw [← h2]; exact List.drop_eq_getElem_cons h1
    rw [ed] at hR
    have hl := addK_len L z
    refine wpAny_pure ⟨plainId_quiet PyProof.Rows.F.plain_set_update_loop _, ih (i + 1) _ _ (by omega) hlt (by omega) (W.frame _ s' _ _ hst' (Nat.le_succ _) fun b hb o e => ?_) hS2 fun s'' hm'' hS'' => ?_⟩
    · rw [hsb.2 b (fun h : b = S => hSf (by rw [← h]; exact hb))]; exact e
    · refine hR s'' (Moved.trans W.gtrans ((hm.mono hsub).then_heap (Nat.le_succ _) fun b o hb e => ?_) hm'') hS''
      rw [hsb.2 b (fun h : b = S => hb (by rw [h]; exact List.mem_cons_self))]; exact e
theorem setL_new_at {h : Heap} {a : Addr} (ho : h.get? a = some { cls := .type "set", dict := none, data := .set #[] 0 (.fresh 0 0 (!w.params.followText "set-order")) }) : SetL P w h a [] :=
  ⟨_, #[], 0, _, [], ho, ⟨rfl, rfl, rfl⟩, rfl, .nil, List.Perm.refl _, List.nodup_nil, (by decide), (by rfl), List.Pairwise.nil, by
    show _ ∨ (!w.params.followText "set-order") = true
    cases w.params.followText "set-order"
    · exact .inr rfl
    · exact .inl rfl⟩
theorem typeIs_keep {s s' : Shared} {u : Value} {T : String} (h : s.TypeIs u T) (k : ∀ b o, s.heap.get? b = some o → s'.heap.get? b = some o) : s'.TypeIs u T := by
  cases u <;> first | exact h | skip
  obtain ⟨o, e, c⟩ := h
  exact ⟨o, k _ _ e, c⟩
/-- what may be walked and is no set, no dict -/
inductive Src : String → Prop
  | list : Src "list"
  | tuple : Src "tuple"
  | str : Src "str"
set_option maxHeartbeats 3200000 in
theorem call_set_src {u : Value} {T : String} (hT : s.TypeIs u T) (sr : Src T) (vs : List V) (ks : List (Option Key)) (hh : A.handled = none) (hb : ks.length + 2 < scanBound) {Q : Value → Shared → Prop}
    (hl : ks.length = vs.length) (hv : ∀ (i : Nat) (x : V) (v : Value), vs[i]? = some x → RelV x v → ∃ k, ks[i]? = some k ∧ (noneKind P w).is k v = true ∧ v.scannable = true)
    (walk : ∀ (A' : Around) (s1 : Shared) (Q : Value → Shared → Prop) (E : Value → Shared → Prop), (∀ b o, s.heap.get? b = some o → s1.heap.get? b = some o) → WkOf P w s1 u vs Q → wpAny (model P w) A' (pyIter u) Q E s1)
    (h : ∀ (h' : Heap) (tk : Nat), SetL P w h' s.heap.objs.size (addAll [] ks) → (∀ b o, s.heap.get? b = some o → h'.get? b = some o) → Q (.ref s.heap.objs.size) { s with heap := h', toks := tk }) :
    wpAny (model P w) A (call (.type "set") [u]) Q E s := by
  obtain ⟨c, tl, hmro⟩ := F.called_set.mro
  have hmade := F.called_set.made
  have hsub := F.called_set.sub
  refine wpAny_call (codeAny_of_tree ?_)
  show wpAny _ _ (callAny (.type "set") _) _ _ _
  refine wpAny_pure ⟨Code.quiet_builtin _ (by decide +kernel), codeAny_builtin F.entry_type_call ?_⟩
  rw [Around.under_plain (weight_type_call_type "set" [u] []) rfl]
  have h1 := F.called_set.notType
  have h2 := F.called_set.canCreate
  have hct := F.typeCall_set_1 u
  repeat (any_goals (first | assumption | wp_step))

  refine codeAny_mono (code_set_led1 u (E := E) (Q₁ := fun obj s₁ => obj = .ref s.heap.objs.size ∧ s₁ = { s with heap := s.heap.push { cls := .type "set", dict := none, data := .set #[] 0 (.fresh 0 0 (!w.params.followText "set-order")) } }) ⟨rfl, rfl⟩) fun r s₁ hr => ?_
  cases r with
  | error e => exact hr
  | ok fl =>
    cases fl with
    | ret obj =>
      obtain ⟨rfl, rfl⟩ := hr
      have hS : (s.heap.push { cls := .type "set", dict := none, data := .set #[] 0 (.fresh 0 0 (!w.params.followText "set-order")) }).get? s.heap.objs.size = some { cls := .type "set", dict := none, data := .set #[] 0 (.fresh 0 0 (!w.params.followText "set-order")) } := Heap.get?_push_size _ rfl
      have hTs : Shared.TypeIs { s with heap := s.heap.push { cls := .type "set", dict := none, data := .set #[] 0 (.fresh 0 0 (!w.params.followText "set-order")) } } (.ref s.heap.objs.size) "set" := ⟨_, hS, rfl⟩
      have hTu : Shared.TypeIs { s with heap := s.heap.push { cls := .type "set", dict := none, data := .set #[] 0 (.fresh 0 0 (!w.params.followText "set-order")) } } u T := typeIs_keep (s' := { s with heap := s.heap.push { cls := .type "set", dict := none, data := .set #[] 0 (.fresh 0 0 (!w.params.followText "set-order")) } }) hT fun b o e => Heap.get?_push_of_some _ e
      have hli := F.called_set.init.lookup
      have hbi := F.called_set.init.bind (.ref s.heap.objs.size)
      repeat (any_goals (first | assumption | wp_step))

      refine codeAny_mono (codeAny_call_builtin (R := wants (fun r s₂ => r = .none ∧ ∃ h' tk, s₂ = { s with heap := h', toks := tk } ∧ SetL P w h' s.heap.objs.size (addAll [] ks) ∧
          (∀ b o, s.heap.get? b = some o → h'.get? b = some o)) E) F.called_set.init.plain F.entry_set_init (check_set_init_1 hTs ?_)) fun r₂ s₂ hr₂ => ?_
      · have hsls : isSubtype (.type T) (.type "set") = pure false := by
          cases sr
          · exact F.sub_list_set
          · exact F.sub_tuple_set
          · exact F.sub_str_set
        have hslf : isSubtype (.type T) (.type "frozenset") = pure false := by
          cases sr
          · exact F.sub_list_frozenset
          · exact F.sub_tuple_frozenset
          · exact F.sub_str_frozenset
        have hne : (Value.type T == Value.type "dict") = false := by cases sr <;> decide
        unfold Builtin.«set.__init__» noKeywords Builtin.Frozenset.updateFrom
        generalize hPI : pyIter = PI
        wp_walk
        subst hPI
        have hlt : ∀ b, u = .ref b → b < s.heap.objs.size := fun b e => by
          subst e
          obtain ⟨o, e, _⟩ := hT
          exact Heap.lt_size e
        refine walk _ { s with heap := s.heap.push { cls := .type "set", dict := none, data := .set #[] 0 (.fresh 0 0 (!w.params.followText "set-order")) } } _ _ (fun b o e => Heap.get?_push_of_some _ e) fun h' I fp St k hI W st hfp hfu => ?_
        have hz1 : (s.heap.push { cls := .type "set", dict := none, data := .set #[] 0 (.fresh 0 0 (!w.params.followText "set-order")) }).objs.size = s.heap.objs.size + 1 := Heap.size_push ..
        have hI : s.heap.objs.size + 1 ≤ I := by rw [← hz1]; exact hI
        refine wpAny_bind (wpAny_runValue ?_)
        have hSf : s.heap.objs.size ∉ fp := fun hm => by
          rcases hfu _ hm with e | e
          · exact Nat.ne_of_lt hI e
          · exact absurd (hlt _ e) (Nat.lt_irrefl _)
        have hh3 : A.in1.in1.in1.handled = none := by simp [hh]
        refine set_update_keys ((W _ hh3).toS) s.heap.objs.size hSf ks hl.symm (fun i v hP => ?_) vs.length 0 _ [] (by omega) (Nat.zero_le _) (by rw [← hl]; simpa using Nat.lt_of_succ_lt hb) st (setL_new_at (k _ _ hS)) ?_
        · obtain ⟨x, hx, rx⟩ := hP
          exact hv i x v hx rx
        · intro s' hm hS'
          obtain ⟨h2', g2, d', tk', os'⟩ := s'
          have eg : g2 = s.gens := hm.gens
          have ed : d' = s.drawn := hm.drawn
          have eo : os' = s.os := hm.os
          subst eg; subst ed; subst eo
          show wpAny _ _ _ _ _ _
          refine wpAny_pure ?_
          show wpAny _ _ (ret Value.none) _ _ _
          refine wpAny_pure ⟨rfl, h2', tk', rfl, hS', fun b o e => ?_⟩
          have hb0 : b < s.heap.objs.size := Heap.lt_size e
          exact hm.heap b o (by simp only [List.mem_cons, List.mem_singleton, List.not_mem_nil, or_false, not_or]; exact ⟨Nat.ne_of_lt hb0, Nat.ne_of_lt (Nat.lt_trans hb0 hI)⟩) (k _ _ (Heap.get?_push_of_some _ e))
      · cases r₂ with
        | error e => exact hr₂
        | ok fl₂ =>
          cases fl₂ with
          | ret r =>
            obtain ⟨rfl, h', tk, rfl, hS', hk'⟩ := hr₂
            repeat (any_goals (first | assumption | wp_step))
            exact h _ _ hS' hk'
          | _ => exact hr₂.elim
    | _ => exact hr.elim
end
end Mi

set_option Elab.async false
set_option linter.all false
set_option maxRecDepth 100000
set_option maxHeartbeats 4000000
/-! Mi, soundness 14: len(set(x)), sorted(set(x)) -/
namespace Mi
open PySem L2 PySem.Spec PyProof.Rows
theorem call_at {α β : Type} {F : α → β → Prop} : ∀ {l : List α} {L : List β}, PySem.Paired F l L → ∀ {i : Nat} {x : α}, l[i]? = some x → ∃ y, L[i]? = some y ∧ F x y
  | _, _, .cons h t, 0, x, e => by cases e; exact ⟨_, rfl, h⟩
  | _, _, .cons h t, i + 1, x, e => call_at t (i := i) (by simpa using e)
def keysO (ks : List (Option At)) : List (Option Key) := ks.map (Option.map Mi.keyOf)
theorem optKey_inj {a b : Option At} (h : a.map Mi.keyOf = b.map Mi.keyOf) : a = b := by
  cases a <;> cases b <;> first | rfl | (cases h; done) | skip
  have := Option.some.inj h
  rw [keyOf_inj this]
theorem keysO_mem {ks : List (Option At)} {k : Option At} : k.map Mi.keyOf ∈ keysO ks ↔ k ∈ ks := by
  unfold keysO
  rw [List.mem_map]
  exact ⟨fun ⟨j, h, e⟩ => optKey_inj e ▸ h, fun h => ⟨k, h, rfl⟩⟩
/-! ### what a scan gathers -/
theorem addK_spec {L : List (Option Key)} {k : Option Key} : (L.Nodup → (addK L k).Nodup) ∧ ∀ j, j ∈ addK L k ↔ j ∈ L ∨ j = k := by
  unfold addK
  by_cases h : k ∈ L
  · rw [if_pos h]
    exact ⟨id, fun j => ⟨.inl, fun z => z.elim id fun e => e ▸ h⟩⟩
  · rw [if_neg h]
    refine ⟨fun nd => (List.perm_append_singleton k L).symm.nodup_iff.mp (List.nodup_cons.mpr ⟨h, nd⟩), fun j => by simp⟩
theorem addAll_spec : ∀ (ks L : List (Option Key)), (L.Nodup → (addAll L ks).Nodup) ∧ ∀ j, j ∈ addAll L ks ↔ j ∈ L ∨ j ∈ ks
  | [], L => ⟨id, fun j => by simp [addAll]⟩
  | k :: r, L => by
    obtain ⟨h1, h2⟩ := addK_spec (L := L) (k := k)
    obtain ⟨h3, h4⟩ := addAll_spec r (addK L k)
    refine ⟨fun nd => h3 (h1 nd), fun j => ?_⟩
    show j ∈ addAll (addK L k) r ↔ _
    rw [h4, h2, List.mem_cons, or_assoc]
theorem nub_spec {α : Type} [DecidableEq α] : ∀ l : List α, (nub l).Nodup ∧ ∀ x, x ∈ nub l ↔ x ∈ l
  | [] => ⟨List.nodup_nil, fun x => Iff.rfl⟩
  | a :: r => by
    obtain ⟨h1, h2⟩ := nub_spec r
    unfold nub
    by_cases h : a ∈ nub r
    · rw [if_pos h]
      refine ⟨h1, fun x => ?_⟩
      rw [h2, List.mem_cons]
      exact ⟨.inr, fun z => z.elim (fun e => by rw [e]; exact (h2 a).mp h) id⟩
    · rw [if_neg h]
      refine ⟨List.nodup_cons.mpr ⟨h, h1⟩, fun x => ?_⟩
      rw [List.mem_cons, List.mem_cons, h2]
theorem addAll_perm (ks : List (Option At)) : (addAll [] (keysO ks)).Perm (keysO (nub ks)) := by
  obtain ⟨h1, h2⟩ := addAll_spec (keysO ks) []
  obtain ⟨h3, h4⟩ := nub_spec ks
  refine (List.perm_ext_iff_of_nodup (h1 List.nodup_nil) ?_).mpr fun j => ?_
  · unfold keysO
    unfold List.Nodup at h3 ⊢
    exact List.pairwise_map.mpr (h3.imp fun hne e => hne (optKey_inj e))
  · rw [h2]
    constructor
    · intro z
      rcases z with z | z
      · cases z
      · unfold keysO at z ⊢
        obtain ⟨k, hk, e⟩ := List.mem_map.mp z
        exact List.mem_map.mpr ⟨k, (h4 k).mpr hk, e⟩
    · intro z
      unfold keysO at z ⊢
      obtain ⟨k, hk, e⟩ := List.mem_map.mp z
      exact .inr (List.mem_map.mpr ⟨k, (h4 k).mp hk, e⟩)
/-- lists, tuples, texts -/
def D.seq3 : D → Bool
  | .lst _ => true
  | .tup _ => true
  | .str _ => true
  | _ => false
def SetX (P : Program) (w : World) (a : Addr) (L : List (Option Key)) : HO := .ext fun h => SetL P w h a L
section
variable {X : Cx} {pins : List (Addr × Obj)} {σ : L2.St} {H : Hp} {s : Shared} {A : Around} {E : Value → Shared → Prop} {O : AP_}
theorem setX_new {w : World} {P : Program} {H : Hp} {h : Heap} {a : Addr} {L : List (Option Key)} (R : SetL P w h a L) : ObjOk P w H h a (SetX P w a L) := by
  have ⟨o, _, _, _, _, ho, _⟩ := R
  exact ⟨R, ⟨o, ho⟩, fun h1 h2 p k => SetL.at p k⟩
theorem setX_get {a : Addr} {L : List (Option Key)} (I : L2.Inv X pins σ H s) (ha : H a = some (SetX X.prog X.w a L)) : SetL X.prog X.w s.heap a L := (I.hok a _ ha).1
theorem scan_at {P : Program} {w : World} {K : PySem.W.Frag} : ∀ {vs : List V} {ds : List D} {ks : List (Option At)}, Rps K O H vs ds → scans ds = some ks → ∀ (i : Nat) (x : V) (v : Value), vs[i]? = some x → RelV x v → ∃ k, (keysO ks)[i]? = some k ∧ (noneKind P w).is k v = true ∧ v.scannable = true
  | _, _, _, .nil, _, i, x, v, e, _ => by simp at e
  | _, _, ks, .cons (d := d) (ds := ds) h t, e, i, x, v, hx, rx => by
    have step : ∀ (k : Option At) (ks' : List (Option At)), scans ds = some ks' → ks = k :: ks' → ((noneKind P w).is (k.map Mi.keyOf) v = true ∧ v.scannable = true ∨ i ≠ 0) → ∃ k, (keysO ks)[i]? = some k ∧ (noneKind P w).is k v = true ∧ v.scannable = true := fun k ks' e' ek hk => by
      cases i with
      | zero => subst ek; exact ⟨_, rfl, hk.resolve_right (fun z => z rfl)⟩
      | succ i =>
        subst ek
        obtain ⟨q, h1, h2⟩ := scan_at (P := P) (w := w) t e' i x v (by simpa using hx) rx
        exact ⟨q, by simpa [keysO] using h1, h2⟩
    cases d <;> first | (cases e; done) | skip
    all_goals
      unfold scans at e
      cases hs : scans ds with
      | none => rw [hs] at e; cases e
      | some ks' =>
        rw [hs] at e
        have e : _ :: ks' = ks := Option.some.inj e
        refine step _ ks' hs e.symm ?_
        cases i with
        | succ i => exact .inr (Nat.succ_ne_zero i)
        | zero =>
          refine .inl ?_
          have hx : _ = x := Option.some.inj hx
          subst hx
          first
            | (rw [h.inv_non] at rx; cases rx; exact ⟨rfl, rfl⟩)
            | (rw [h.inv_int] at rx; obtain ⟨t, rfl⟩ := rx; exact ⟨kV_is (P := P) (w := w) (k := .inl _) ⟨t, rfl⟩, rfl⟩)
            | (rw [h.inv_str.1] at rx; obtain ⟨t, rfl⟩ := rx; exact ⟨kV_is (P := P) (w := w) (k := .inr _) ⟨t, rfl⟩, rfl⟩)
/-- set(x) -/
def rSetD (X : Cx) (O : AP_) : List V → Hp → VK → Prop := fun vs H Q => ∃ x d ds ks, vs = [x] ∧ Rb X.K O H x d ∧ d.seq3 = true ∧ itemsR d = .ok ds ∧ scans ds = some ks ∧ ds.length < 4000 ∧ ∀ p, H p = none → Q (.ref p) (upd H p (SetX X.prog X.w p (addAll [] (keysO ks))))
theorem cr_setD (hcalm : X.calm = true) : CallR X (.type "set") (rSetD X O) := by
  intro pins s σ H vs us Q I r h
  obtain ⟨x, d, ds, ks, rfl, r1, hs, he, hk, hn, q⟩ := h
  obtain ⟨u, rfl, ru⟩ := vals1 r
  have hsq : d.seq = true := by cases d <;> first | rfl | (cases hs; done)
  have lens : ∀ {ds : List D} {ks : List (Option At)}, scans ds = some ks → ks.length = ds.length := fun {ds ks} => by
    induction ds generalizing ks with
    | nil => intro e; cases e; rfl
    | cons d ds ih =>
      intro e
      cases d <;> first | (cases e; done) | skip
      all_goals
        unfold scans at e
        cases hh : scans ds with
        | none => rw [hh] at e; cases e
        | some q => rw [hh] at e; cases e; simp [ih hh]
  have wks : ∃ vs, Rps X.K O H vs ds ∧ ∀ (A' : Around) (s1 : Shared) (Q : Value → Shared → Prop) (E : Value → Shared → Prop), (∀ b o, s.heap.get? b = some o → s1.heap.get? b = some o) → WkOf X.prog X.w s1 u vs Q → wpAny (model X.prog X.w) A' (pyIter u) Q E s1 := by
    cases d <;> first | (cases hs; done) | skip
    · cases he
      obtain ⟨rfl, ok⟩ := (r1.rp rfl).inv_str
      obtain ⟨t, rfl⟩ := ru
      exact ⟨_, chV_rps ok, fun A' s1 Q E k q => wk_str q⟩
    · cases he
      obtain ⟨p, vs, rfl, h1, h2⟩ := r1.inv_lst
      cases ru
      refine ⟨vs, h2, fun A' s1 Q E k q => ?_⟩
      obtain ⟨its, rv, ⟨o, n, ho, hc, hdn, hd⟩, _⟩ := I.list (.of h1)
      have hL : s1.heap.IsList p its.toArray := ⟨o, k _ _ ho, hc, n, hd⟩
      have hlt : p < s1.heap.objs.size := Heap.lt_size (k _ _ ho)
      refine wpAny_pyIter_list hL (q _ _ _ _ (fun b o e => Heap.get?_push_of_some _ e) (Nat.le_refl _) (fun A' hA => walk_vals (Walks.list hA s1.heap.objs.size p (Nat.ne_of_lt hlt) its.toArray) (by simp [rv.length]) fun i v h => vals_at rv h) ⟨⟨_, Heap.get?_push_size _ rfl, rfl, rfl⟩, hL.push _⟩ (fun b hb => ?_) fun b hb => ?_)
      · rw [Heap.size_push]
        rcases List.mem_cons.mp hb with rfl | hb
        · exact Nat.lt_succ_self _
        · rcases List.mem_cons.mp hb with rfl | hb
          · exact Nat.lt_succ_of_lt hlt
          · cases hb
      · rcases List.mem_cons.mp hb with rfl | hb
        · exact .inl rfl
        · rcases List.mem_cons.mp hb with rfl | hb
          · exact .inr rfl
          · cases hb
    · cases he
      obtain ⟨p, vs, rfl, _, h1, h2⟩ := (r1.rp rfl).inv_tup
      cases ru
      refine ⟨vs, h2, fun A' s1 Q E k q => ?_⟩
      obtain ⟨its, rv, ⟨o, ho, hc, n, hd⟩, _⟩ := I.tuple (.of h1)
      have hL : s1.heap.IsTuple p its.toArray := ⟨o, k _ _ ho, hc, n, hd⟩
      have hlt : p < s1.heap.objs.size := Heap.lt_size (k _ _ ho)
      refine wpAny_pyIter_tuple hL (q _ _ _ _ (fun b o e => Heap.get?_push_of_some _ e) (Nat.le_refl _) (fun A' hA => walk_vals (Walks.tuple hA s1.heap.objs.size p (Nat.ne_of_lt hlt) its.toArray) (by simp [rv.length]) fun i v h => vals_at rv h) ⟨⟨_, Heap.get?_push_size _ rfl, rfl, rfl⟩, hL.push _⟩ (fun b hb => ?_) fun b hb => ?_)
      · rw [Heap.size_push]
        rcases List.mem_cons.mp hb with rfl | hb
        · exact Nat.lt_succ_self _
        · rcases List.mem_cons.mp hb with rfl | hb
          · exact Nat.lt_succ_of_lt hlt
          · cases hb
      · rcases List.mem_cons.mp hb with rfl | hb
        · exact .inl rfl
        · rcases List.mem_cons.mp hb with rfl | hb
          · exact .inr rfl
          · cases hb
  obtain ⟨vs, rp, walk⟩ := wks
  have ty : ∃ T, s.TypeIs u T ∧ Src T := by
    cases d <;> first | (cases hs; done) | skip
    · obtain ⟨rfl, ok⟩ := (r1.rp rfl).inv_str
      obtain ⟨t, rfl⟩ := ru
      exact ⟨_, typeIs_str _ _ _, .str⟩
    · obtain ⟨p, vs, rfl, h1, h2⟩ := r1.inv_lst
      cases ru
      obtain ⟨its, rv, ⟨o, n, ho, hc, hdn, hd⟩, _⟩ := I.list (.of h1)
      exact ⟨_, ⟨o, ho, hc⟩, .list⟩
    · obtain ⟨p, vs, rfl, _, h1, h2⟩ := (r1.rp rfl).inv_tup
      cases ru
      obtain ⟨its, rv, ⟨o, ho, hc, n, hd⟩, _⟩ := I.tuple (.of h1)
      exact ⟨_, ⟨o, ho, hc⟩, .tuple⟩
  obtain ⟨T, hT, sr⟩ := ty
  have hkl : (keysO ks).length = vs.length := by unfold keysO; rw [List.length_map, lens hk, rp.length]
  refine call_set_src hT sr vs (keysO ks) (I.ok.hd hcalm) (by rw [hkl, rp.length]; show ds.length + 2 < 4096; omega) hkl (scan_at rp hk) walk fun h' tk R k => ?_
  exact ⟨.ref s.heap.objs.size, upd H s.heap.objs.size (SetX X.prog X.w s.heap.objs.size (addAll [] (keysO ks))), I.laid (t' := tk) k (Nat.le_refl _) (setX_new R), rfl, q _ (I.hok.fresh (Nat.le_refl _))⟩
theorem cr_lenX : CallR X (.builtin "len") (fun vs H Q => ∃ p L, vs = [V.ref p] ∧ H p = some (SetX X.prog X.w p L) ∧ Q (.int (L.length : Nat)) H) := by
  intro pins s σ H vs us Q I r h
  obtain ⟨p, L, rfl, hp, q⟩ := h
  obtain ⟨u, rfl, ru⟩ := vals1 r
  cases ru
  obtain ⟨o, es, ep, t, L', ho, hex, hd, g, pm, nd, hb, hf, _⟩ := setX_get I hp
  have hn : es.size = L.length := by rw [← Array.length_toList, g.length, pm.length_eq]
  unfold scanBound at hb
  refine call_len_set ho hex hd hf (by omega) ⟨.int (L.length : Nat), H, I.tok _, ⟨_, by rw [hn]⟩, q⟩
/-- sorted(a set): whatever order it was walked in -/
theorem cr_sortedX {β : Type} (S : SortW β) (hu : X.A.units + 65 < cLine) (hcalm : X.calm = true) : CallR X (.builtin "sorted") (fun vs H Q => ∃ (p : Addr) (L : List (Option Key)) (bs : List β), vs = [V.ref p] ∧ H p = some (SetX X.prog X.w p L) ∧ L.length < 4096 ∧ (∀ a, O a → H a ≠ none) ∧
    (∀ out us, out.Perm L → PySem.Paired (fun u k => (noneKind X.prog X.w).is k u = true) us out → ∃ (vs : List V) (cs : List β), Vals vs us ∧ Rps X.K O H vs (cs.map S.enc) ∧ cs.Perm bs ∧ cs.mergeSort S.le = bs.mergeSort S.le ∧ PySem.W.Sortable (cs.map fun b => (S.enc b).py)) ∧
    ∀ v H', Same H H' → Rp X.K O H' v (.lst ((bs.mergeSort S.le).map S.enc)) → Q v H') := by
  intro pins s σ H vs us Q I r h
  obtain ⟨p, L, bs, rfl, hp, hL, dom, key, q⟩ := h
  obtain ⟨u, rfl, ru⟩ := vals1 r
  cases ru
  obtain ⟨o, es, ep, t, L', ho, hex, hd, g, pm, nd, hb, hf, hr, hl⟩ := setX_get I hp
  refine Calls.call_function_entry kind_sorted plain_sorted entry_sorted (args_sorted1 _) ?_
  unfold Builtin.«sorted»
  refine wpAny_bind (m := checkCount "sorted" 1 1 _) (wpAny_pure ?_)
  refine wpAny_bind (collect_set (A := X.A.in1) (I.ok.hd hcalm) ⟨o, ho, hex.1, hd⟩ hf hb hr hl fun s1 us k1 hz g1 o1 po => ?_)
  have g2 : PySem.Paired (fun u k => (noneKind X.prog X.w).is k u = true) (es.toList.map (·.2)) L' := by
    clear pm po hb hf hd ho
    generalize es.toList = l at g
    induction g with
    | nil => exact .nil
    | cons h _ ih => exact .cons h.1 ih
  obtain ⟨L2, p2, g3⟩ := paired_perm po g2
  obtain ⟨vs, cs, rv, rp, pc, ec, hk⟩ := key L2 us (p2.trans pm) g3
  have hlen : vs.length ≤ sizeLine := by
    have : us.length = L.length := by rw [g3.length, (p2.trans pm).length_eq]
    rw [rv.length, this, sizeLine_eq]; omega
  exact sort_after (A := X.A.in1) S (by show X.A.units + 1 + 64 < cLine; omega) (inv_any I k1 g1 o1) rv rp hlen hk dom fun v H' sm r => q v H' sm (by rw [← ec]; exact r)
end
theorem leI_anti (a b : Int) (h : leI a b = true) (h' : leI b a = true) : a = b := by
  unfold leI at h h'; simp at h h'; omega
theorem leI_trans (a b c : Int) (h : leI a b = true) (h' : leI b c = true) : leI a c = true := by
  unfold leI at *; simp at *; omega
theorem leI_total (a b : Int) : (leI a b || leI b a) = true := by
  unfold leI; simp; omega
theorem leS_anti (a b : List Nat) (h : leS a b = true) (h' : leS b a = true) : a = b := by
  unfold leS at h h'; exact List.le_antisymm (of_decide_eq_true h) (of_decide_eq_true h')
theorem leS_trans (a b c : List Nat) (h : leS a b = true) (h' : leS b c = true) : leS a c = true := by
  unfold leS at *; exact decide_eq_true (List.le_trans (of_decide_eq_true h) (of_decide_eq_true h'))
theorem leS_total (a b : List Nat) : (leS a b || leS b a) = true := by
  unfold leS
  rcases List.le_total a b with h | h
  · rw [decide_eq_true h]; rfl
  · rw [decide_eq_true h, Bool.or_true]
/-- one sorted list for all orders -/
theorem sort_perm {α : Type} {le : α → α → Bool} (anti : ∀ a b, le a b = true → le b a = true → a = b) (tr : ∀ a b c, le a b = true → le b c = true → le a c = true) (tot : ∀ a b, (le a b || le b a) = true) {l l' : List α} (p : l.Perm l') : l.mergeSort le = l'.mergeSort le :=
  List.Perm.eq_of_pairwise (fun a b _ _ h h' => anti a b h h') (List.pairwise_mergeSort tr tot l) (List.pairwise_mergeSort tr tot l') (((List.mergeSort_perm l le).trans p).trans (List.mergeSort_perm l' le).symm)
end Mi

set_option Elab.async false
set_option linter.all false
set_option maxRecDepth 100000
set_option maxHeartbeats 4000000
/-! Mi, soundness 15: len(set(x)), sorted(set(x)) as expressions -/
namespace Mi
open PySem L2 PySem.Spec PyProof.Rows
theorem out_keys {α : Type} [DecidableEq α] {f : α → At} (hf : ∀ a b, f a = f b → a = b) (ns : List α) {out : List (Option Key)} (po : out.Perm (addAll [] (keysO (ns.map fun n => some (f n))))) :
    ∃ cs : List α, out = cs.map (fun n => some (Mi.keyOf (f n))) ∧ cs.Perm (nub ns) := by
  obtain ⟨h1, h2⟩ := addAll_spec (keysO (ns.map fun n => some (f n))) []
  have hm : ∀ k, k ∈ out ↔ k ∈ keysO (ns.map fun n => some (f n)) := fun k => by
    rw [po.mem_iff, h2]
    exact ⟨fun z => z.elim (fun z => nomatch z) id, .inr⟩
  have all : ∀ l : List (Option Key), (∀ k ∈ l, k ∈ keysO (ns.map fun n => some (f n))) → ∃ cs : List α, l = cs.map fun n => some (Mi.keyOf (f n)) := by
    intro l
    induction l with
    | nil => intro _; exact ⟨[], rfl⟩
    | cons k l ih =>
      intro h
      obtain ⟨cs, e⟩ := ih fun j hj => h j (List.mem_cons_of_mem _ hj)
      have hk := h k List.mem_cons_self
      unfold keysO at hk
      rw [List.map_map] at hk
      obtain ⟨n, hn, e2⟩ := List.mem_map.mp hk
      exact ⟨n :: cs, by rw [e, ← e2]; rfl⟩
  obtain ⟨cs, e⟩ := all out fun k hk => (hm k).mp hk
  refine ⟨cs, e, ?_⟩
  obtain ⟨h3, h4⟩ := nub_spec ns
  have nd : out.Nodup := po.symm.nodup_iff.mp (h1 List.nodup_nil)
  rw [e] at nd
  refine (List.perm_ext_iff_of_nodup ?_ h3).mpr fun n => ?_
  · unfold List.Nodup at nd ⊢
    exact (List.pairwise_map.mp nd).imp fun h e => h (by rw [e])
  · rw [h4]
    have inj : ∀ {a b : α}, some (Mi.keyOf (f a)) = some (Mi.keyOf (f b)) → a = b := fun h => hf _ _ (keyOf_inj (Option.some.inj h))
    have q := hm (some (Mi.keyOf (f n)))
    rw [e] at q
    unfold keysO at q
    rw [List.map_map] at q
    constructor
    · intro h
      obtain ⟨m, hm, e2⟩ := List.mem_map.mp (q.mp (List.mem_map.mpr ⟨n, h, rfl⟩))
      exact inj e2 ▸ hm
    · intro h
      obtain ⟨m, hm, e2⟩ := List.mem_map.mp (q.mpr (List.mem_map.mpr ⟨n, h, rfl⟩))
      exact inj e2 ▸ hm
theorem scans_ints : ∀ {ds : List D} {ns : List Int}, intsD ds = some ns → scans ds = some (ns.map fun n => some (.inl n))
  | [], ns, h => by cases h; rfl
  | d :: r, ns, h => by
    cases d <;> first | (cases h; done) | skip
    unfold intsD at h
    cases e : intsD r with
    | none => rw [e] at h; cases h
    | some q => rw [e] at h; cases h; unfold scans; rw [scans_ints e]; rfl
theorem scans_strs : ∀ {ds : List D} {ns : List (List Nat)}, strsD ds = some ns → scans ds = some (ns.map fun n => some (.inr n))
  | [], ns, h => by cases h; rfl
  | d :: r, ns, h => by
    cases d <;> first | (cases h; done) | skip
    unfold strsD at h
    cases e : strsD r with
    | none => rw [e] at h; cases h
    | some q => rw [e] at h; cases h; unfold scans; rw [scans_strs e]; rfl
section
variable {X : Cx} {cl : Gx} {W : WX} {a b c o : Expr} {fa fb fc fo : Env → R D} {pos p p2 pos2 apos cpos : Pos}
theorem nub_len {α : Type} [DecidableEq α] : ∀ l : List α, (nub l).length ≤ l.length
  | [] => Nat.le_refl _
  | a :: r => by
    have := nub_len r
    unfold nub
    split <;> simp <;> omega
theorem addAll_len (ks L : List (Option Key)) : (addAll L ks).length ≤ L.length + ks.length := by
  induction ks generalizing L with
  | nil => exact Nat.le_refl _
  | cons k r ih =>
    have := ih (addK L k)
    have := addK_len L k
    show (addAll (addK L k) r).length ≤ _
    simp only [List.length_cons]
    omega
theorem scans_len : ∀ {ds : List D} {ks : List (Option At)}, scans ds = some ks → ks.length = ds.length := fun {ds ks} => by
    induction ds generalizing ks with
    | nil => intro e; cases e; rfl
    | cons d ds ih =>
      intro e
      cases d <;> first | (cases e; done) | skip
      all_goals
        unfold scans at e
        cases hh : scans ds with
        | none => rw [hh] at e; cases e
        | some q => rw [hh] at e; cases e; simp [ih hh]
theorem seq3_of {d : D} {ds : List D} (h : itemsR d = .ok ds) (hd : d.seq = true) : d.seq3 = true := by
  cases d <;> first | rfl | (cases h; done) | (cases hd; done)
theorem lset_inv {d z : D} (h : b1R .lset d = .ok z) : ∃ ds ks, d.seq3 = true ∧ itemsR d = .ok ds ∧ scans ds = some ks ∧ ds.length < 4000 ∧ z = .int (nub ks).length := by
  have hd : d.seq = true := by cases d <;> first | rfl | (cases h; done)
  have h : (itemsR d).bind (fun xs => if xs.length < 4000 then match scans xs with
      | some ks => R.ok (.int (nub ks).length)
      | none => .no
    else .no) = .ok z := by cases d <;> first | exact h | (cases hd; done)
  cases hi : itemsR d with
  | no => rw [hi] at h; cases h
  | rz c => cases d <;> cases hi
  | ok ds =>
    rw [hi] at h
    simp only [R.bind] at h
    split at h
    · rename_i hl
      split at h
      · rename_i ks hk
        cases h
        exact ⟨ds, ks, seq3_of hi hd, rfl, hk, hl, rfl⟩
      · cases h
    · cases h
theorem sset_inv {d z : D} (h : b1R .sset d = .ok z) : ∃ ds, d.seq3 = true ∧ itemsR d = .ok ds ∧ ds.length < 4000 ∧ ((∃ ns, intsD ds = some ns ∧ z = .lst (((nub ns).mergeSort leI).map .int)) ∨ ∃ ns, strsD ds = some ns ∧ z = .lst (((nub ns).mergeSort leS).map .str)) := by
  have hd : d.seq = true := by cases d <;> first | rfl | (cases h; done)
  have h : (itemsR d).bind (fun xs => if xs.length < 4000 then match intsD xs with
      | some ns => R.ok (.lst (((nub ns).mergeSort leI).map .int))
      | none => match strsD xs with
        | some ss => .ok (.lst (((nub ss).mergeSort leS).map .str))
        | none => .no
    else .no) = .ok z := by cases d <;> first | exact h | (cases hd; done)
  cases hi : itemsR d with
  | no => rw [hi] at h; cases h
  | rz c => cases d <;> cases hi
  | ok ds =>
    rw [hi] at h
    simp only [R.bind] at h
    split at h
    · rename_i hl
      refine ⟨ds, seq3_of hi hd, rfl, hl, ?_⟩
      split at h
      · rename_i ns e; cases h; exact .inl ⟨ns, e, rfl⟩
      · split at h
        · rename_i ns e; cases h; exact .inr ⟨ns, e, rfl⟩
        · cases h
    · cases h
theorem de_lset {xl xs : Str} (hcalm : X.calm = true) (hg : Gl X xl) (hm : X.mg xl = none) (hv : bootBuiltins xl = some (.builtin "len")) (hn : xl ≠ "__name__") (hdb : (xl == ("__debug__" : Str)) = false)
    (hg2 : Gl X xs) (hm2 : X.mg xs = none) (hv2 : bootBuiltins xs = some (.type "set")) (hn2 : xs ≠ "__name__") (hdb2 : (xs == ("__debug__" : Str)) = false) (ha : DB X cl W a fa) (hpe : plainE a = true) :
    DE X cl W (.Call (.Name xl p) [.Call (.Name xs p2) [a] [] pos2] [] pos) fun ρ => (fa ρ).bind (b1R .lset) :=
  ⟨fun O ρ => ⟨fun pins s σ H Q I q => (pe_callB cr_lenX hg hm hv (pa_cons (pe_callTy (cr_setD (O := OO O σ ρ) hcalm) hg2 hm2 hv2 (pa_cons (ha.run O ρ) pa_nil (star_one hpe _ _)) hn2 hdb2 (star_one hpe _ _)) pa_nil (star_one rfl _ _)) hn hdb (star_one rfl _ _)).run pins s σ H Q I (by
    refine tB.bind q fun x d H1 st1 s1 r1 _ q1 => ?_
    cases hz : b1R .lset d with
    | rz c => exact absurd hz (b1R_norz _ _ _)
    | no => rw [hz] at q1; exact q1.elim
    | ok z =>
      rw [hz] at q1
      obtain ⟨ds, ks, h1, h2, h3, h4, rfl⟩ := lset_inv hz
      refine ⟨x, d, ds, ks, rfl, r1, h1, h2, h3, h4, fun p hp => ⟨p, _, rfl, upd_same, ?_⟩⟩
      have e : (addAll [] (keysO ks)).length = (nub ks).length := by rw [(addAll_perm ks).length_eq]; unfold keysO; rw [List.length_map]
      rw [e]
      exact q1 _ _ (same_upd hp) (.int _))⟩⟩
theorem vals_is_int {P : Program} {w : World} : ∀ {us : List Value} {cs : List Int}, PySem.Paired (fun u k => (noneKind P w).is k u = true) us (cs.map fun n => some (Mi.keyOf (.inl n))) → Vals (cs.map V.int) us
  | [], [], _ => .nil
  | [], _ :: _, h => by cases h
  | _ :: _, [], h => by cases h
  | u :: us, c :: cs, h => by
    rw [List.map_cons] at h
    cases h with
    | cons h t =>
      have h : keyIs (.inl c) u = true := h
      exact .cons (keyIs_rel h) (vals_is_int t)
theorem vals_is_str {P : Program} {w : World} : ∀ {us : List Value} {cs : List (List Nat)}, PySem.Paired (fun u k => (noneKind P w).is k u = true) us (cs.map fun n => some (Mi.keyOf (.inr n))) → Vals ((cs.map toS).map V.str) us
  | [], [], _ => .nil
  | [], _ :: _, h => by cases h
  | _ :: _, [], h => by cases h
  | u :: us, c :: cs, h => by
    rw [List.map_cons] at h
    cases h with
    | cons h t =>
      have h : keyIs (.inr (toS c)) u = true := h
      exact .cons (keyIs_rel h) (vals_is_str t)
theorem Rps.ofStrs {K : PySem.W.Frag} {O : AP_} {H : Hp} : ∀ cs : List (List Nat), (∀ c ∈ cs, OkS c) → Rps K O H ((cs.map toS).map V.str) (cs.map D.str)
  | [], _ => .nil
  | c :: r, h => .cons (.str c (h c List.mem_cons_self)) (Rps.ofStrs r fun d hd => h d (List.mem_cons_of_mem _ hd))
theorem items_oks {K : PySem.W.Frag} {O : AP_} {H : Hp} {v : V} {d : D} {ds : List D} {ss : List (List Nat)} (r : Rb K O H v d) (h3 : d.seq3 = true) (h : itemsR d = .ok ds) (hs : strsD ds = some ss) : ∀ c ∈ ss, OkS c := by
  cases d <;> first | (cases h3; done) | skip
  · cases h
    obtain ⟨rfl, ok⟩ := (r.rp rfl).inv_str
    exact strs_ok (chV_rps (K := K) (O := O) (H := H) ok) hs
  · cases h
    obtain ⟨p, vs, rfl, h1, h2⟩ := r.inv_lst
    exact strs_ok h2 hs
  · cases h
    obtain ⟨p, vs, rfl, _, h1, h2⟩ := (r.rp rfl).inv_tup
    exact strs_ok h2 hs
theorem de_sset {xl xs : Str} (hr : X.A.units + 65 < cLine) (hcalm : X.calm = true) (hg : Gl X xl) (hm : X.mg xl = none) (hv : bootBuiltins xl = some (.builtin "sorted")) (hn : xl ≠ "__name__") (hdb : (xl == ("__debug__" : Str)) = false)
    (hg2 : Gl X xs) (hm2 : X.mg xs = none) (hv2 : bootBuiltins xs = some (.type "set")) (hn2 : xs ≠ "__name__") (hdb2 : (xs == ("__debug__" : Str)) = false) (ha : DB X cl W a fa) (hpe : plainE a = true) :
    DE X cl W (.Call (.Name xl p) [.Call (.Name xs p2) [a] [] pos2] [] pos) fun ρ => (fa ρ).bind (b1R .sset) := by
  have hu : X.A.units + 65 < cLine := hr
  exact ⟨fun O ρ => ⟨fun pins s σ H Q I q => (pe_callB (CallR.or (cr_sortedX (O := OO O σ ρ) srI hu hcalm) (cr_sortedX (O := OO O σ ρ) srS hu hcalm)) hg hm hv (pa_cons (pe_callTy (cr_setD (O := OO O σ ρ) hcalm) hg2 hm2 hv2 (pa_cons (ha.run O ρ) pa_nil (star_one hpe _ _)) hn2 hdb2 (star_one hpe _ _)) pa_nil (star_one rfl _ _)) hn hdb (star_one rfl _ _)).run pins s σ H Q I (by
    refine tB.bind q fun x d H1 st1 s1 r1 _ q1 => ?_
    cases hz : b1R .sset d with
    | rz c => exact absurd hz (b1R_norz _ _ _)
    | no => rw [hz] at q1; exact q1.elim
    | ok z =>
      rw [hz] at q1
      obtain ⟨ds, h1, h2, h4, h5⟩ := sset_inv hz
      rcases h5 with ⟨ns, h3, rfl⟩ | ⟨ns, h3, rfl⟩
      · have hsc := scans_ints h3
        refine ⟨x, d, ds, _, rfl, r1, h1, h2, hsc, h4, fun p hp => .inl ⟨p, _, nub ns, rfl, upd_same, ?_, fun a ha => ?_, fun out us po g => ?_, fun v H' sm r => q1 v H' ((same_upd hp).trans sm) r⟩⟩
        · have := addAll_len (keysO (ns.map fun n => some (Sum.inl n))) []
          have e2 : (keysO (ns.map fun n => some (Sum.inl n))).length = ds.length := by rw [← scans_len hsc]; unfold keysO; rw [List.length_map]
          simp only [List.length_nil] at this
          omega
        · have := st1.dom a ha
          by_cases e : a = p
          · rw [e, upd_same]; simp
          · rw [upd_ne e]; exact this
        · obtain ⟨cs, rfl, pc⟩ := out_keys (f := Sum.inl) (fun a b e => Sum.inl.inj e) ns po
          exact ⟨_, cs, vals_is_int g, Rps.ofInts cs, pc, sort_perm leI_anti leI_trans leI_total pc, so_ints cs⟩
      · have hsc := scans_strs h3
        refine ⟨x, d, ds, _, rfl, r1, h1, h2, hsc, h4, fun p hp => .inr ⟨p, _, nub ns, rfl, upd_same, ?_, fun a ha => ?_, fun out us po g => ?_, fun v H' sm r => q1 v H' ((same_upd hp).trans sm) r⟩⟩
        · have := addAll_len (keysO (ns.map fun n => some (Sum.inr n))) []
          have e2 : (keysO (ns.map fun n => some (Sum.inr n))).length = ds.length := by rw [← scans_len hsc]; unfold keysO; rw [List.length_map]
          simp only [List.length_nil] at this
          omega
        · have := st1.dom a ha
          by_cases e : a = p
          · rw [e, upd_same]; simp
          · rw [upd_ne e]; exact this
        · obtain ⟨cs, rfl, pc⟩ := out_keys (f := Sum.inr) (fun a b e => Sum.inr.inj e) ns po
          refine ⟨_, cs, vals_is_str g, Rps.ofStrs cs fun c hc => ?_, pc, sort_perm leS_anti leS_trans leS_total pc, so_strs cs⟩
          exact items_oks r1 h1 h2 h3 c (((nub_spec ns).2 c).mp (pc.mem_iff.mp hc)))⟩⟩
end
end Mi

set_option Elab.async false
set_option linter.all false
set_option maxRecDepth 100000
set_option maxHeartbeats 4000000
/-! Mi, soundness 16: what a loop walks -/
namespace Mi
open PySem L2 PySem.Spec PyProof.Rows
def NoTup (o : HO) : Prop := ∀ vs, o ≠ .tup vs
theorem OwnO.noTup {o : HO} (h : OwnO o) : NoTup o := fun vs e => by subst e; exact h
/-- what is not the def's own stays; what is its own never is a tuple, nothing that was there becomes its own -/
structure Keep (O O' : AP_) (H H' : Hp) : Prop where
  ho : ∀ a, O' a → H a ≠ none → O a
  k : ∀ a u, ¬ O a → H a = some u → H' a = some u
  own : ∀ a, O' a → ∃ o, H' a = some o ∧ NoTup o
theorem Keep.dom {O O' : AP_} {H H' : Hp} (h : Keep O O' H H') : ∀ a, O' a → H' a ≠ none := fun a ha e => by
  obtain ⟨o, e2, _⟩ := h.own a ha
  rw [e] at e2; cases e2
/-- the iterator J, from H on, gives ds -/
def Srv (K : PySem.W.Frag) (O : AP_) (J : It) (H : Hp) (ds : List D) : Prop :=
  ∀ O' H', Keep O O' H H' → (∀ i d, ds[i]? = some d → J.go i H' ∧ ∀ x H'', J.yld i H' x H'' → Same H' H'' ∧ Rp K O' H'' x d) ∧ J.stop ds.length H'
/-- sizes -/
structure Fit (H : Hp) : Prop where
  lst : ∀ a vs, Rd H a (.lst vs) → vs.length ≤ sizeLine
  tup : ∀ a vs, Rd H a (.tup vs) → vs.length ≤ sizeLine
  dK : ∀ a vs, Rd H a (.dK vs) → vs.length ≤ sizeLine
  dT : ∀ a vs, Rd H a (.dT vs) → vs.length ≤ sizeLine
theorem fit_of {X : Cx} {pins : List (Addr × Obj)} {σ : L2.St} {H : Hp} {s : Shared} (I : L2.Inv X pins σ H s) : Fit H :=
  ⟨fun a vs h => (show ObjOk X.prog X.w H s.heap a (.lst vs) from h.ok I.hok).1, fun a vs h => (show ObjOk X.prog X.w H s.heap a (.tup vs) from h.ok I.hok).1, fun a vs h => (show ObjOk X.prog X.w H s.heap a (.dK vs) from h.ok I.hok).1, fun a vs h => (show ObjOk X.prog X.w H s.heap a (.dT vs) from h.ok I.hok).1⟩
def tFit (t : TE) : TE := fun σ H Q => t σ H fun v H1 => Fit H1 → Q v H1
theorem _root_.L2.PE.fit {X : Cx} {e : Expr} {t : TE} (h : PE X e t) : PE X e (tFit t) := ⟨fun pins s σ H Q I q => thn (h.run pins s σ H _ I q) fun v s1 ⟨x, H1, I1, r1, q1⟩ => ⟨x, H1, I1, r1, q1 (fit_of I1)⟩⟩
section
variable {K : PySem.W.Frag} {O O' : AP_} {H H' : Hp}
theorem Rp.kept {v : V} {d : D} (r : Rp K O H v d) (k : Keep O O' H H') : Rp K O' H' v d := r.keep k.ho k.k
theorem Rps.kept {v : List V} {d : List D} (r : Rps K O H v d) (k : Keep O O' H H') : Rps K O' H' v d := r.keep k.ho k.k
theorem srv_list {a : Addr} {vs : List V} {ds : List D} (n : ¬ O a) (h : H a = some (.lst vs)) (r : Rps K O H vs ds) : Srv K O (Itl K a) H ds := fun O' H' k => by
  have h' := k.k a _ n h
  refine ⟨fun i d e => ?_, ⟨vs, .of h', by rw [r.length]; exact Nat.le_refl _⟩⟩
  obtain ⟨v, ev, rv⟩ := r.get e
  refine ⟨⟨vs, v, .of h', ev⟩, fun x H'' q => ?_⟩
  obtain ⟨e1, e2⟩ := q
  subst e1
  have e3 := e2 vs (.of h')
  rw [ev] at e3
  cases e3
  exact ⟨Same.refl _, rv.kept k⟩
theorem srv_tup {a : Addr} {vs : List V} {ds : List D} (n : ¬ O a) (h : H a = some (.tup vs)) (r : Rps K O H vs ds) : Srv K O (Itt K a) H ds := fun O' H' k => by
  have h' := k.k a _ n h
  refine ⟨fun i d e => ?_, ⟨vs, .of h', by rw [r.length]; exact Nat.le_refl _⟩⟩
  obtain ⟨v, ev, rv⟩ := r.get e
  refine ⟨⟨vs, v, .of h', ev⟩, fun x H'' q => ?_⟩
  obtain ⟨e1, e2⟩ := q
  subst e1
  have e3 := e2 vs (.of h')
  rw [ev] at e3
  cases e3
  exact ⟨Same.refl _, rv.kept k⟩
theorem srv_str {x : List Nat} (ok : OkS x) : Srv K O (Its (toS x)) H (chars x) := fun O' H' k => by
  have hs : (toS x).cps.size = x.length := by simp [toS]
  refine ⟨fun i d e => ?_, ?_⟩
  · obtain ⟨v, ev, rv⟩ := (chV_rps (K := K) (O := O') (H := H') ok).get e
    have hi : i < x.length := by
      have := (List.getElem?_eq_some_iff.mp ev).1
      simpa [chV] using this
    refine ⟨by show i < (toS x).cps.size; rw [hs]; exact hi, fun y H'' q => ?_⟩
    obtain ⟨e1, c, e2, e3⟩ := q
    subst e1 e3
    have e2 : x[i]? = some c := by simpa [toS] using e2
    unfold chV at ev
    rw [List.getElem?_map, e2] at ev
    cases ev
    exact ⟨Same.refl _, rv⟩
  · show (toS x).cps.size ≤ (chars x).length
    rw [hs]; simp [chars]
theorem srv_rng (lo hi : Int) : Srv K O (Itr lo (hi - lo).toNat) H (rngL lo hi) := fun O' H' k => by
  have hl : (rngL lo hi).length = (hi - lo).toNat := by simp [rngL]
  refine ⟨fun i d e => ?_, by show (hi - lo).toNat ≤ (rngL lo hi).length; rw [hl]; exact Nat.le_refl _⟩
  have hi' : i < (hi - lo).toNat := by rw [← hl]; exact (List.getElem?_eq_some_iff.mp e).1
  refine ⟨hi', fun x H'' q => ?_⟩
  obtain ⟨e1, e2⟩ := q
  subst e1 e2
  unfold rngL at e
  rw [List.getElem?_map, List.getElem?_range hi'] at e
  cases e
  exact ⟨Same.refl _, .int _⟩
theorem rks_get : ∀ {kvs : List (Key × V)} {ks : KVs} {i : Nat} {p : Ky × D}, RKs K O H kvs ks → ks[i]? = some p → ∃ k v, kvs[i]? = some (Mi.keyOf k, v) ∧ p.1 = .a k ∧ AtOk k ∧ Rp K O H v p.2
  | _, _, 0, p, .cons h0 h1 _, e => by cases e; exact ⟨_, _, rfl, rfl, h0, h1⟩
  | _, _, i + 1, p, .cons _ _ h, e => rks_get (i := i) h (by simpa using e)
theorem rts_get : ∀ {kvs : List (List Key × V)} {ks : KVs} {i : Nat} {p : Ky × D}, RTs K O H kvs ks → ks[i]? = some p → ∃ k v, kvs[i]? = some (k.map Mi.keyOf, v) ∧ p.1 = .t k ∧ (∀ x ∈ k, AtOk x) ∧ Rp K O H v p.2
  | _, _, 0, p, .cons h0 h1 _, e => by cases e; exact ⟨_, _, rfl, rfl, h0, h1⟩
  | _, _, i + 1, p, .cons _ _ h, e => rts_get (i := i) h (by simpa using e)
theorem rp_key {k : At} (h : AtOk k) : Rp K O H (kV (Mi.keyOf k)) (atD k) := by
  cases k with
  | inl i => exact .int i
  | inr x => exact .str x h
theorem rps_keys : ∀ {k : List At}, (∀ x ∈ k, AtOk x) → Rps K O H ((k.map Mi.keyOf).map kV) (k.map atD)
  | [], _ => .nil
  | x :: r, h => .cons (rp_key (h x List.mem_cons_self)) (rps_keys fun y hy => h y (List.mem_cons_of_mem _ hy))
theorem srv_keys {d : Addr} {od : Obj} {kvs : List (Key × V)} {ks : KVs} (n : ¬ O d) (h : H d = some (.frz od (.dK kvs))) (r : RKs K O H kvs ks) : Srv K O (Itk d od kvs) H (ks.map fun p => p.1.d) := fun O' H' k => by
  have h' := k.k d _ n h
  refine ⟨fun i e q => ?_, ⟨h', by rw [List.length_map, r.length]; exact Nat.le_refl _⟩⟩
  rw [List.getElem?_map] at q
  cases hp : ks[i]? with
  | none => rw [hp] at q; cases q
  | some p =>
    rw [hp] at q
    cases q
    obtain ⟨a, v, e1, e2, e3, e4⟩ := rks_get r hp
    refine ⟨⟨h', (List.getElem?_eq_some_iff.mp e1).1⟩, fun x H'' y => ?_⟩
    obtain ⟨y1, k', v', y2, y3⟩ := y
    subst y1 y3
    rw [e1] at y2
    cases y2
    refine ⟨Same.refl _, ?_⟩
    show Rp K O' _ _ p.1.d
    rw [e2]
    exact rp_key e3
theorem srv_keysT {d : Addr} {od : Obj} {kvs : List (List Key × V)} {ks : KVs} (n : ¬ O d) (h : H d = some (.frz od (.dT kvs))) (r : RTs K O H kvs ks) : Srv K O (Itkt d od kvs) H (ks.map fun p => p.1.d) := fun O' H' k => by
  have h' := k.k d _ n h
  refine ⟨fun i e q => ?_, ⟨h', by rw [List.length_map, r.length]; exact Nat.le_refl _⟩⟩
  rw [List.getElem?_map] at q
  cases hp : ks[i]? with
  | none => rw [hp] at q; cases q
  | some p =>
    rw [hp] at q
    cases q
    obtain ⟨a, v, e1, e2, e3, e4⟩ := rts_get r hp
    refine ⟨⟨h', (List.getElem?_eq_some_iff.mp e1).1⟩, fun x H'' y => ?_⟩
    obtain ⟨y1, k', v', q', y2, y3, y4⟩ := y
    subst y1 y3
    rw [e1] at y2
    cases y2
    refine ⟨Same.refl _, ?_⟩
    show Rp K O' _ _ p.1.d
    rw [e2]
    refine .tup (fun z => ?_) y4 (rps_keys e3)
    obtain ⟨o, e5, e6⟩ := k.own _ z
    rw [y4] at e5
    cases e5
    exact e6 _ rfl
theorem srv_items {d : Addr} {od : Obj} {kvs : List (Key × V)} {ks : KVs} (n : ¬ O d) (h : H d = some (.frz od (.dK kvs))) (r : RKs K O H kvs ks) : Srv K O (Iti d od kvs) H (ks.map fun p => .tup [p.1.d, p.2]) := fun O' H' k => by
  have h' := k.k d _ n h
  refine ⟨fun i e q => ?_, ⟨h', by rw [List.length_map, r.length]; exact Nat.le_refl _⟩⟩
  rw [List.getElem?_map] at q
  cases hp : ks[i]? with
  | none => rw [hp] at q; cases q
  | some p =>
    rw [hp] at q
    cases q
    obtain ⟨a, v, e1, e2, e3, e4⟩ := rks_get r hp
    refine ⟨⟨h', (List.getElem?_eq_some_iff.mp e1).1⟩, fun x H'' y => ?_⟩
    obtain ⟨T, k', v', y2, y3, y4, y5⟩ := y
    subst y3 y5
    rw [e1] at y2
    cases y2
    have sm := same_upd (o := HO.tup [kV (Mi.keyOf a), v]) y4
    refine ⟨sm, ?_⟩
    show Rp K O' _ _ (.tup [p.1.d, p.2])
    rw [e2]
    exact .tup (fun z => k.dom _ z y4) upd_same (.cons (rp_key e3) (.cons ((e4.kept k).more sm) .nil))
theorem srv_enum {a : Addr} {vs : List V} {ds : List D} (n : ¬ O a) (h : H a = some (.lst vs)) (r : Rps K O H vs ds) : Srv K O (Ite K a) H (enumL 0 ds) := fun O' H' k => by
  have h' := k.k a _ n h
  have en : ∀ (ds : List D) (j i : Nat), (enumL j ds)[i]? = (ds[i]?).map fun d => .tup [.int ((j + i : Nat) : Int), d] := fun ds => by
    induction ds with
    | nil => intro j i; cases i <;> rfl
    | cons d ds ih =>
      intro j i
      cases i with
      | zero => rfl
      | succ i =>
        show (enumL (j + 1) ds)[i]? = _
        rw [ih (j + 1) i]
        have : j + 1 + i = j + (i + 1) := by omega
        rw [this]
        rfl
  have el : ∀ (ds : List D) (j : Nat), (enumL j ds).length = ds.length := fun ds => by
    induction ds with
    | nil => intro j; rfl
    | cons d ds ih => intro j; show (enumL (j + 1) ds).length + 1 = ds.length + 1; rw [ih]
  refine ⟨fun i d e => ?_, ⟨vs, .of h', by rw [el, r.length]; exact Nat.le_refl _⟩⟩
  rw [en] at e
  cases hd : ds[i]? with
  | none => rw [hd] at e; cases e
  | some y =>
    rw [hd] at e
    cases e
    obtain ⟨v, ev, rv⟩ := r.get hd
    refine ⟨⟨vs, v, .of h', ev⟩, fun x H'' q => ?_⟩
    obtain ⟨T, w, e1, e2, e3, e4⟩ := q
    subst e1 e3
    have e5 := e4 vs (.of h')
    rw [ev] at e5
    cases e5
    have sm := same_upd (o := HO.tup [.int (i : Nat), v]) e2
    refine ⟨sm, .tup (fun z => k.dom _ z e2) upd_same (.cons ?_ (.cons ((rv.kept k).more sm) .nil))⟩
    rw [Nat.zero_add]
    exact .int _
theorem zipL_get : ∀ (xs ys : List D) (i : Nat) (d : D), (zipL xs ys)[i]? = some d → ∃ x y, xs[i]? = some x ∧ ys[i]? = some y ∧ d = .tup [x, y]
  | [], ys, i, d, h => by cases ys <;> cases h
  | x :: xs, [], i, d, h => by cases h
  | x :: xs, y :: ys, 0, d, h => by cases h; exact ⟨x, y, rfl, rfl, rfl⟩
  | x :: xs, y :: ys, i + 1, d, h => zipL_get xs ys i d h
theorem zipL_len : ∀ (xs ys : List D), (zipL xs ys).length = min xs.length ys.length
  | [], ys => by cases ys <;> simp [zipL]
  | x :: xs, [] => by simp [zipL]
  | x :: xs, y :: ys => by
    show (zipL xs ys).length + 1 = _
    rw [zipL_len xs ys]
    simp only [List.length_cons]
    omega
theorem srv_zipL {a b : Addr} {vs ws : List V} {ds es : List D} (n : ¬ O a) (h : H a = some (.lst vs)) (r : Rps K O H vs ds) (n2 : ¬ O b) (h2 : H b = some (.lst ws)) (r2 : Rps K O H ws es) : Srv K O (Itz K a b) H (zipL ds es) := fun O' H' k => by
  have h' := k.k a _ n h
  have h2' := k.k b _ n2 h2
  refine ⟨fun i d e => ?_, ⟨vs, ws, .of h', .of h2', by rw [zipL_len, r.length, r2.length]; omega⟩⟩
  obtain ⟨x, y, ex, ey, rfl⟩ := zipL_get _ _ _ _ e
  obtain ⟨v, ev, rv⟩ := r.get ex
  obtain ⟨w, ew, rw_⟩ := r2.get ey
  refine ⟨⟨vs, ws, v, w, .of h', .of h2', ev, ew⟩, fun z H'' q => ?_⟩
  obtain ⟨T, x', y', e1, e2, e3, e4, e5⟩ := q
  subst e1 e3
  have e6 := e4 vs (.of h')
  rw [ev] at e6
  cases e6
  have e7 := e5 ws (.of h2')
  rw [ew] at e7
  cases e7
  have sm := same_upd (o := HO.tup [v, w]) e2
  exact ⟨sm, .tup (fun z => k.dom _ z e2) upd_same (.cons ((rv.kept k).more sm) (.cons ((rw_.kept k).more sm) .nil))⟩
theorem srv_zipT {a b : Addr} {vs ws : List V} {ds es : List D} (n : ¬ O a) (h : H a = some (.tup vs)) (r : Rps K O H vs ds) (n2 : ¬ O b) (h2 : H b = some (.tup ws)) (r2 : Rps K O H ws es) : Srv K O (RZ.ItzT K a b) H (zipL ds es) := fun O' H' k => by
  have h' := k.k a _ n h
  have h2' := k.k b _ n2 h2
  refine ⟨fun i d e => ?_, ⟨vs, ws, .of h', .of h2', by rw [zipL_len, r.length, r2.length]; omega⟩⟩
  obtain ⟨x, y, ex, ey, rfl⟩ := zipL_get _ _ _ _ e
  obtain ⟨v, ev, rv⟩ := r.get ex
  obtain ⟨w, ew, rw_⟩ := r2.get ey
  refine ⟨⟨vs, ws, v, w, .of h', .of h2', ev, ew⟩, fun z H'' q => ?_⟩
  obtain ⟨T, x', y', e1, e2, e3, e4, e5⟩ := q
  subst e1 e3
  have e6 := e4 vs (.of h')
  rw [ev] at e6
  cases e6
  have e7 := e5 ws (.of h2')
  rw [ew] at e7
  cases e7
  have sm := same_upd (o := HO.tup [v, w]) e2
  exact ⟨sm, .tup (fun z => k.dom _ z e2) upd_same (.cons ((rv.kept k).more sm) (.cons ((rw_.kept k).more sm) .nil))⟩
end

/-! ### expressions that are walked -/
def tI (K : PySem.W.Frag) (cl : Gx) (O : AP_) (W : WX) (ρ : Env) (f : R D) : TI := fun σ H R => StE K cl O σ H ρ ∧ (match f with
  | .ok (.lst ds) => ∀ J H', Same H H' → Srv K (OO O σ ρ) J H' ds → ds.length ≤ sizeLine → R J H'
  | .ok _ => False
  | .rz c => ∀ H', Same H H' → W (.ref (cl.cl c)) none σ H'
  | .no => False)
structure DI (X : Cx) (cl : Gx) (W : WX) (tg e : Expr) (f : Env → R D) : Prop where
  run : ∀ (O : AP_) (ρ : Env), PI X tg e (tI X.K cl O W ρ (f ρ))
theorem _root_.L2.PI.imp {X : Cx} {tg e : Expr} {t t' : TI} (h : PI X tg e t) (k : ∀ σ H Q, t' σ H Q → t σ H Q) : PI X tg e t' := ⟨fun pins s σ H Q I q => h.run pins s σ H Q I (k σ H Q q)⟩
section
variable {X : Cx} {cl : Gx} {W : WX} {tg a b c o : Expr} {fa fb fc fo : Env → R D} {pos p p2 pos2 apos cpos tpos : Pos} {elts : List Expr} {kk : Nat}
theorem tI.any {K : PySem.W.Frag} {O : AP_} {H : Hp} {ρ : Env} {σ : L2.St} {f : R D} {g : D → R D} {R : It → Hp → Prop} (q : tI K cl O W ρ (f.bind g) σ H R) {P : VK} (k : ∀ v d H1, StE K cl O σ H1 ρ → Same H H1 → Rp K (OO O σ ρ) H1 v d → f = .ok d → tI K cl O W ρ (g d) σ H1 R → P v H1) : tE K cl O W ρ f σ H P := by
  refine ⟨q.1, ?_⟩
  have q2 := q.2
  cases f with
  | ok d =>
    refine fun v H1 s r => k v d H1 (q.1.more s) s r rfl ⟨q.1.more s, ?_⟩
    have q2 : (match g d with
      | .ok (.lst ds) => ∀ J H', Same H H' → Srv K (OO O σ ρ) J H' ds → ds.length ≤ sizeLine → R J H'
      | .ok _ => False
      | .rz c => ∀ H', Same H H' → W (.ref (cl.cl c)) none σ H'
      | .no => False) := q2
    cases hg : g d with
    | ok z =>
      rw [hg] at q2
      cases z <;> first | exact q2.elim | skip
      exact fun J H2 s2 => q2 J H2 (s.trans s2)
    | rz c => rw [hg] at q2; exact fun H2 s2 => q2 H2 (s.trans s2)
    | no => rw [hg] at q2; exact q2.elim
  | rz c => exact q2
  | no => exact q2
def itC (x : D) : R D := (itemsR x).bind fun xs => .ok (.lst xs)
/-- a list, a tuple, a text, a dict (its keys) -/
theorem di_it (ha : DE X cl W a fa) : DI X cl W tg a fun ρ => (fa ρ).bind itC := ⟨fun O ρ => by
  have he := (ha.run O ρ).fit
  cases hf : fa ρ with
  | rz c => exact (pi_list (tg := tg) he).imp fun σ H R q => by rw [hf]; exact ⟨q.1, q.2⟩
  | no => exact (pi_list (tg := tg) he).imp fun σ H R q => q.2.elim
  | ok d =>
    rw [hf] at he
    have go : ∀ {σ : L2.St} {H : Hp} {Z : It → Hp → Prop} {ds : List D}, itemsR d = .ok ds → tI X.K cl O W ρ ((R.ok d).bind itC) σ H Z → StE X.K cl O σ H ρ ∧ ∀ J H', Same H H' → Srv X.K (OO O σ ρ) J H' ds → ds.length ≤ sizeLine → Z J H' := fun {σ H Z ds} e q => by
      refine ⟨q.1, ?_⟩
      have q2 := q.2
      have e2 : (R.ok d).bind itC = .ok (.lst ds) := by show itC d = _; unfold itC; rw [e]; rfl
      rw [e2] at q2
      exact q2
    cases d with
    | lst ds =>
      exact (pi_list (tg := tg) he).imp fun σ H Z q => by
        obtain ⟨st, q⟩ := go rfl q
        refine ⟨st, fun v H1 s r fit => ?_⟩
        obtain ⟨a, vs, rfl, h0, h1, h2⟩ := r.inv_lst
        exact ⟨a, rfl, ⟨vs, .of h1⟩, q _ H1 s (srv_list h0 h1 h2) (by rw [← h2.length]; exact fit.lst _ _ (.inl h1))⟩
    | tup ds =>
      exact (pi_tup (tg := tg) he).imp fun σ H Z q => by
        obtain ⟨st, q⟩ := go rfl q
        refine ⟨st, fun v H1 s r fit => ?_⟩
        obtain ⟨a, vs, rfl, h0, h1, h2⟩ := r.inv_tup
        exact ⟨a, rfl, ⟨vs, .of h1⟩, q _ H1 s (srv_tup h0 h1 h2) (by rw [← h2.length]; exact fit.tup _ _ (.inl h1))⟩
    | str x =>
      exact (pi_str (tg := tg) he).imp fun σ H Z q => by
        obtain ⟨st, q⟩ := go rfl q
        refine ⟨st, fun v H1 s r fit => ?_⟩
        obtain ⟨rfl, ok⟩ := r.inv_str
        exact ⟨_, rfl, q _ H1 s (srv_str ok) (by unfold chars; rw [List.length_map]; exact ok.1)⟩
    | dic t ks =>
      exact (pi_keys (tg := tg) he).imp fun σ H Z q => by
        obtain ⟨st, qq⟩ := go rfl q
        refine ⟨st, fun v H1 s r fit => ?_⟩
        cases t with
        | true =>
          obtain ⟨a, od, kvs, rfl, h0, h1, h2⟩ := r.inv_dk
          exact ⟨a, od, rfl, .inl ⟨kvs, h1, qq _ H1 s (srv_keys h0 h1 h2) (by rw [List.length_map, ← h2.length]; exact fit.dK _ _ (.inr ⟨_, h1⟩))⟩⟩
        | false =>
          obtain ⟨a, od, kvs, rfl, h0, h1, h2⟩ := r.inv_dt
          exact ⟨a, od, rfl, .inr ⟨kvs, h1, qq _ H1 s (srv_keysT h0 h1 h2) (by rw [List.length_map, ← h2.length]; exact fit.dT _ _ (.inr ⟨_, h1⟩))⟩⟩
    | _ => exact (pi_list (tg := tg) he).imp fun σ H Z q => q.2.elim⟩
theorem rngR_inv {d e : D} {ds : List D} (h : rngR d e = .ok ds) : ∃ i j, d = .int i ∧ e = .int j ∧ okRng i j = true ∧ ds = rngL i j := by
  cases d <;> first | (cases h; done) | skip
  cases e <;> first | (cases h; done) | skip
  unfold rngR at h
  simp only at h
  split at h
  · rename_i hok; cases h; exact ⟨_, _, rfl, rfl, hok, rfl⟩
  · cases h
theorem rngR_norz {d e : D} {c : Nat} : (rngR d e = .rz c) = False := by
  refine eq_false fun h => ?_
  cases d <;> first | (cases h; done) | skip
  cases e <;> first | (cases h; done) | skip
  unfold rngR at h
  simp only at h
  split at h <;> cases h
theorem okRng_b {i j : Int} (h : okRng i j = true) : -(2 ^ 62) ≤ i ∧ i < 2 ^ 62 ∧ -(2 ^ 62) ≤ j ∧ j < 2 ^ 62 := by
  unfold okRng at h
  simp only [Bool.and_eq_true, decide_eq_true_eq] at h
  omega
theorem rng_fit {i j : Int} (h : okRng i j = true) : (rngL i j).length ≤ sizeLine := by
  unfold okRng at h
  simp only [Bool.and_eq_true, decide_eq_true_eq] at h
  unfold rngL
  rw [List.length_map, List.length_range, sizeLine_eq]
  omega
theorem enumL_len : ∀ (ds : List D) (j : Nat), (enumL j ds).length = ds.length
  | [], j => rfl
  | d :: ds, j => by show (enumL (j + 1) ds).length + 1 = ds.length + 1; rw [enumL_len ds]
theorem di_range1 (hg : Gl X "range") (hm : X.mg "range" = none) (ha : DE X cl W a fa) (hpa : plainE a = true) : DI X cl W tg (.Call (.Name "range" p) [a] [] pos) fun ρ => (fa ρ).bind fun x => (rngR (.int 0) x).bind fun xs => .ok (.lst xs) :=
  ⟨fun O ρ => (pi_range1 hg hm (pa_cons (ha.run O ρ) pa_nil (star_one hpa _ _)) (star_one hpa [] _)).imp fun σ H R q => by
    refine tI.any q fun v d H1 st s r _ q1 => ?_
    cases d <;> first | exact q1.2.elim | skip
    rename_i n _
    have q2 := q1.2
    cases hr : rngR (.int 0) (.int n) with
    | rz c => unfold rngR at hr; simp only at hr; split at hr <;> cases hr
    | no => rw [hr] at q2; exact q2.elim
    | ok ds =>
      rw [hr] at q2
      unfold rngR at hr
      simp only at hr
      split at hr
      · rename_i hok
        cases hr
        obtain ⟨h1, h2, h3, h4⟩ := okRng_b hok
        refine ⟨n, by rw [r.inv_int], h3, h4, ?_⟩
        have := q2 _ H1 (Same.refl H1) (srv_rng 0 n) (rng_fit hok)
        simpa using this
      · cases hr⟩
theorem di_range2 (hg : Gl X "range") (hm : X.mg "range" = none) (ha : DE X cl W a fa) (hb : DE X cl W b fb) (hpa : plainE a = true) (hpb : plainE b = true) : DI X cl W tg (.Call (.Name "range" p) [a, b] [] pos) fun ρ => (fa ρ).bind fun x => (fb ρ).bind fun y => (rngR x y).bind fun xs => .ok (.lst xs) :=
  ⟨fun O ρ => (pi_range2 hg hm (pa_cons (ha.run O ρ) (pa_cons (hb.run O ρ) pa_nil (star_one hpb _ _)) (star_one hpa _ _)) (by rw [star_one hpa, star_one hpb]; rfl) (star_one hpb _ _)).imp fun σ H R q => by
    refine tI.any (g := fun x => (fb ρ).bind fun y => (rngR x y).bind fun xs => .ok (.lst xs)) q fun v d H1 st s r _ q1 => ?_
    refine tI.any (g := fun y => (rngR d y).bind fun xs => .ok (.lst xs)) q1 fun w e H2 st2 s2 r2 _ q2 => ?_
    have q3 := q2.2
    cases hr : rngR d e with
    | rz c => rw [rngR_norz] at hr; cases hr
    | no => rw [hr] at q3; exact q3.elim
    | ok ds =>
      rw [hr] at q3
      obtain ⟨i, j, rfl, rfl, hok, rfl⟩ := rngR_inv hr
      obtain ⟨h1, h2, h3, h4⟩ := okRng_b hok
      exact ⟨i, j, by rw [(r.more s2).inv_int, r2.inv_int], ⟨h1, h2, h3, h4⟩, q3 _ H2 (Same.refl H2) (srv_rng i j) (rng_fit hok)⟩⟩
theorem di_items {elts : List Expr} {kk : Nat} (ha : DE X cl W a fa) (hbase : attributeBase a "items" X.env (eval a X.env) = eval a X.env) (hline : (apos.endLine == cpos.line) = true) : DI X cl W (.Tuple elts kk tpos) (.Call (.Attribute a "items" apos) [] [] cpos) fun ρ => (fa ρ).bind itemsC :=
  ⟨fun O ρ => (pi_items (ha.run O ρ).fit hbase hline).imp fun σ H R q => by
    refine tI.any q fun v d H1 st s r _ q1 fit => ?_
    cases d <;> first | exact q1.2.elim | skip
    rename_i t ks _
    cases t with
    | false => exact q1.2.elim
    | true =>
      obtain ⟨d, od, kvs, rfl, h0, h1, h2⟩ := r.inv_dk
      exact ⟨d, od, kvs, rfl, h1, q1.2 _ H1 (Same.refl H1) (srv_items h0 h1 h2) (by rw [List.length_map, ← h2.length]; exact fit.dK _ _ (.inr ⟨_, h1⟩))⟩⟩
theorem di_enum {elts : List Expr} {kk : Nat} (hg : Gl X "enumerate") (hm : X.mg "enumerate" = none) (ha : DE X cl W a fa) (hpa : plainE a = true) : DI X cl W (.Tuple elts kk tpos) (.Call (.Name "enumerate" p) [a] [] pos) fun ρ => (fa ρ).bind enumC :=
  ⟨fun O ρ => (pi_enum hg hm (pa_cons (ha.run O ρ).fit pa_nil (star_one hpa _ _)) (star_one hpa [] _)).imp fun σ H R q => by
    refine tI.any q fun v d H1 st s r _ q1 fit => ?_
    cases d <;> first | exact q1.2.elim | skip
    obtain ⟨a, vs, rfl, h0, h1, h2⟩ := r.inv_lst
    exact ⟨a, vs, rfl, .of h1, q1.2 _ H1 (Same.refl H1) (srv_enum h0 h1 h2) (by rw [enumL_len, ← h2.length]; exact fit.lst _ _ (.inl h1))⟩⟩
theorem zip_inv (x y : D) : (∃ xs ys, x = .lst xs ∧ y = .lst ys ∧ zipC x y = .ok (.lst (zipL xs ys))) ∨ (∃ xs ys, x = .tup xs ∧ y = .tup ys ∧ zipC x y = .ok (.lst (zipL xs ys))) ∨ zipC x y = .no := by
  cases x <;> first | (exact .inr (.inr rfl)) | (cases y <;> first | exact .inr (.inr rfl) | exact .inl ⟨_, _, rfl, rfl, rfl⟩ | exact .inr (.inl ⟨_, _, rfl, rfl, rfl⟩))
theorem di_zip {elts : List Expr} {kk : Nat} (hg : Gl X "zip") (hm : X.mg "zip" = none) (ha : DE X cl W a fa) (hb : DE X cl W b fb) (hpa : plainE a = true) (hpb : plainE b = true) : DI X cl W (.Tuple elts kk tpos) (.Call (.Name "zip" p) [a, b] [] pos) fun ρ => (fa ρ).bind fun x => (fb ρ).bind fun y => zipC x y :=
  ⟨fun O ρ => (RZ.pi_zipA hg hm (pa_cons (ha.run O ρ).fit (pa_cons (hb.run O ρ) pa_nil (star_one hpb _ _)) (star_one hpa _ _)) (star_one hpa _ _) (star_any (es := [b]) (by rw [List.all_cons, hpb]; rfl) _ _)).imp fun σ H R q => by
    refine tI.any (g := fun x => (fb ρ).bind fun y => zipC x y) q fun v d H1 st s r _ q1 fit => ?_
    refine tI.any (g := fun y => zipC d y) q1 fun w e H2 st2 s2 r2 _ q2 => ?_
    have q3 := q2.2
    rcases zip_inv d e with ⟨xs, ys, rfl, rfl, hz⟩ | ⟨xs, ys, rfl, rfl, hz⟩ | hz
    all_goals rw [hz] at q3
    · have hl : xs.length ≤ sizeLine := by
        obtain ⟨a, vs, rfl, h0, h1, h2⟩ := r.inv_lst
        rw [← h2.length]; exact fit.lst _ _ (.inl h1)
      obtain ⟨a, vs, rfl, h0, h1, h2⟩ := (r.more s2).inv_lst
      obtain ⟨b, ws, rfl, g0, g1, g2⟩ := r2.inv_lst
      exact ⟨a, b, vs, ws, rfl, .inl ⟨.of h1, .of g1, q3 _ H2 (Same.refl H2) (srv_zipL h0 h1 h2 g0 g1 g2) (by rw [zipL_len]; omega)⟩⟩
    · have hl : xs.length ≤ sizeLine := by
        obtain ⟨a, vs, rfl, h0, h1, h2⟩ := r.inv_tup
        rw [← h2.length]; exact fit.tup _ _ (.inl h1)
      obtain ⟨a, vs, rfl, h0, h1, h2⟩ := (r.more s2).inv_tup
      obtain ⟨b, ws, rfl, g0, g1, g2⟩ := r2.inv_tup
      exact ⟨a, b, vs, ws, rfl, .inr ⟨.of h1, .of g1, q3 _ H2 (Same.refl H2) (srv_zipT h0 h1 h2 g0 g1 g2) (by rw [zipL_len]; omega)⟩⟩
    · exact q3.elim⟩
/-! ### list(range(..)), tuple(range(..)) -/
structure DRg (X : Cx) (cl : Gx) (W : WX) (e : Expr) (f : Env → R D) : Prop where
  lst : ∀ ρ d, f ρ = .ok d → ∃ ds, d = .lst ds
  run : ∀ (O : AP_) (ρ : Env), ∃ t, PRg X e t ∧ ∀ σ H (Q : Int → Int → Hp → Prop), StE X.K cl O σ H ρ → (match f ρ with
    | .ok (.lst ds) => ∀ H1 i j, Same H H1 → StE X.K cl O σ H1 ρ → okRng i j = true → ds = rngL i j → Q i j H1
    | .ok _ => False
    | .rz c => ∀ H', Same H H' → W (.ref (cl.cl c)) none σ H'
    | .no => False) → t σ H Q
theorem rg_lst {f : R D} {x d : D} (h : (f.bind fun y => (rngR x y).bind fun xs => .ok (.lst xs)) = .ok d) : ∃ ds, d = .lst ds := by
  cases f with
  | ok y =>
    replace h : ((rngR x y).bind fun xs => Mi.R.ok (D.lst xs)) = .ok d := h
    cases hr : rngR x y with
    | ok ds => rw [hr] at h; cases h; exact ⟨ds, rfl⟩
    | rz c => rw [hr] at h; cases h
    | no => rw [hr] at h; cases h
  | rz c => cases h
  | no => cases h
theorem rg_lst2 {f g : R D} {d : D} (h : (f.bind fun x => g.bind fun y => (rngR x y).bind fun xs => .ok (.lst xs)) = .ok d) : ∃ ds, d = .lst ds := by
  cases f with
  | ok x => exact rg_lst (f := g) h
  | rz c => cases h
  | no => cases h
theorem drg_1 (hg : Gl X "range") (hm : X.mg "range" = none) (ha : DE X cl W a fa) (hpa : plainE a = true) : DRg X cl W (.Call (.Name "range" p) [a] [] pos) fun ρ => (fa ρ).bind fun x => (rngR (.int 0) x).bind fun xs => .ok (.lst xs) :=
  ⟨fun ρ d h => rg_lst h, fun O ρ => ⟨_, prg_1 hg hm (ha.run O ρ) (star_one hpa _ _), fun σ H Q st q => by
    refine ⟨st, ?_⟩
    cases hf : fa ρ with
    | rz c => rw [hf] at q; exact q
    | no => rw [hf] at q; exact q.elim
    | ok d =>
      rw [hf] at q
      refine fun v H1 s r => ?_
      replace q : (match (rngR (.int 0) d).bind fun xs => Mi.R.ok (D.lst xs) with
        | .ok (.lst ds) => ∀ H1 i j, Same H H1 → StE X.K cl O σ H1 ρ → okRng i j = true → ds = rngL i j → Q i j H1
        | .ok _ => False
        | .rz c => ∀ H', Same H H' → W (.ref (cl.cl c)) none σ H'
        | .no => False) := q
      cases hr : rngR (.int 0) d with
      | rz c => rw [rngR_norz] at hr; cases hr
      | no => rw [hr] at q; exact q.elim
      | ok ds =>
        rw [hr] at q
        obtain ⟨i, j, e1, rfl, hok, rfl⟩ := rngR_inv hr
        cases e1
        exact ⟨j, r.inv_int, q H1 0 j s (st.more s) hok rfl⟩⟩⟩
theorem drg_2 (hg : Gl X "range") (hm : X.mg "range" = none) (ha : DE X cl W a fa) (hb : DE X cl W b fb) (hpa : plainE a = true) (hpb : plainE b = true) : DRg X cl W (.Call (.Name "range" p) [a, b] [] pos) fun ρ => (fa ρ).bind fun x => (fb ρ).bind fun y => (rngR x y).bind fun xs => .ok (.lst xs) :=
  ⟨fun ρ d h => rg_lst2 h, fun O ρ => ⟨_, prg_2 hg hm (ha.run O ρ) (hb.run O ρ) (star_one hpa _ _) (star_one hpb _ _) (star_any (es := [b]) (by rw [List.all_cons, hpb]; rfl) _ _), fun σ H Q st q => by
    refine ⟨st, ?_⟩
    cases hf : fa ρ with
    | rz c => rw [hf] at q; exact q
    | no => rw [hf] at q; exact q.elim
    | ok d =>
      rw [hf] at q
      refine fun v H1 s r => ⟨st.more s, ?_⟩
      cases hg : fb ρ with
      | rz c => rw [hg] at q; exact fun H2 s2 => q H2 (s.trans s2)
      | no => rw [hg] at q; exact q.elim
      | ok e =>
        rw [hg] at q
        refine fun w H2 s2 r2 => ?_
        replace q : (match (rngR d e).bind fun xs => Mi.R.ok (D.lst xs) with
          | .ok (.lst ds) => ∀ H1 i j, Same H H1 → StE X.K cl O σ H1 ρ → okRng i j = true → ds = rngL i j → Q i j H1
          | .ok _ => False
          | .rz c => ∀ H', Same H H' → W (.ref (cl.cl c)) none σ H'
          | .no => False) := q
        cases hr : rngR d e with
        | rz c => rw [rngR_norz] at hr; cases hr
        | no => rw [hr] at q; exact q.elim
        | ok ds =>
          rw [hr] at q
          obtain ⟨i, j, rfl, rfl, hok, rfl⟩ := rngR_inv hr
          exact ⟨i, j, (r.more s2).inv_int, r2.inv_int, q H2 i j (s.trans s2) ((st.more s).more s2) hok rfl⟩⟩⟩
theorem rgV_rps {K : PySem.W.Frag} {O : AP_} {H : Hp} (i j : Int) : Rps K O H (rgV i j) (rngL i j) := by
  unfold rgV rngL
  generalize List.range (j - i).toNat = l
  induction l with
  | nil => exact .nil
  | cons n l ih => exact .cons (.int _) ih
theorem okRng_ok {i j : Int} (h : okRng i j = true) : RgOk i j := by
  obtain ⟨h1, h2, h3, h4⟩ := okRng_b h
  unfold okRng at h
  simp only [Bool.and_eq_true, decide_eq_true_eq] at h
  exact ⟨h1, h2, h3, h4, by omega⟩
theorem de_listRg (hcalm : X.calm = true) (hg : Gl X "list") (hm : X.mg "list" = none) (ha : DRg X cl W a fa) (hpa : plainE a = true) : DE X cl W (.Call (.Name "list" p) [a] [] pos) fa :=
  ⟨fun O ρ => by
    obtain ⟨t, ht, k⟩ := ha.run O ρ
    refine (pe_listRg hcalm hg hm ht (star_one hpa _ _)).imp fun σ H Q q => k σ H _ q.1 ?_
    have q2 := q.2
    cases hf : fa ρ with
    | rz c => rw [hf] at q2; exact q2
    | no => rw [hf] at q2; exact q2.elim
    | ok d =>
      rw [hf] at q2
      obtain ⟨ds, rfl⟩ := ha.lst ρ d hf
      intro H1 i j s st hok e
      subst e
      exact ⟨okRng_ok hok, new_lst st.dom (rgV_rps i j) fun v H' s2 r => q2 v H' (s.trans s2) r⟩⟩
def tupC (x : D) : R D := match x with
  | .lst xs => .ok (.tup xs)
  | _ => .no
theorem de_tupRg (hcalm : X.calm = true) (hg : Gl X "tuple") (hm : X.mg "tuple" = none) (ha : DRg X cl W a fa) (hpa : plainE a = true) : DE X cl W (.Call (.Name "tuple" p) [a] [] pos) fun ρ => (fa ρ).bind (b1R .tuple) :=
  ⟨fun O ρ => by
    obtain ⟨t, ht, k⟩ := ha.run O ρ
    refine (pe_tupRg hcalm hg hm ht (star_one hpa _ _)).imp fun σ H Q q => k σ H _ q.1 ?_
    have q2 := q.2
    cases hf : fa ρ with
    | rz c => rw [hf] at q2; exact q2
    | no => rw [hf] at q2; exact q2.elim
    | ok d =>
      rw [hf] at q2
      obtain ⟨ds, rfl⟩ := ha.lst ρ d hf
      intro H1 i j s st hok e
      subst e
      exact ⟨okRng_ok hok, new_tup st.dom (rgV_rps i j) fun v H' s2 r => q2 v H' (s.trans s2) r⟩⟩
end
end Mi

set_option Elab.async false
set_option linter.all false
set_option maxRecDepth 100000
set_option maxHeartbeats 4000000
/-! Mi, soundness 17: targets, list comprehensions -/
namespace Mi
open PySem L2 PySem.Spec PyProof.Rows
theorem getS_len : ∀ (ρ : Env) (i : Nat), ρ.length ≤ i → getS ρ i = .no
  | [], _, _ => rfl
  | _ :: _, 0, h => by simp at h
  | _ :: r, i + 1, h => getS_len r i (by simpa using h)
theorem setS_len : ∀ (ρ : Env) (i : Nat) (y : Sl), (setS ρ i y).length = ρ.length
  | [], _, _ => rfl
  | _ :: _, 0, _ => rfl
  | _ :: r, i + 1, y => by show (setS r i y).length + 1 = _; rw [setS_len r]; rfl
theorem getS_self : ∀ {ρ : Env} {i : Nat} {y : Sl}, i < ρ.length → getS (setS ρ i y) i = y
  | _ :: _, 0, _, _ => rfl
  | _ :: r, i + 1, y, h => getS_self (ρ := r) (i := i) (by simpa using h)
theorem getS_ne : ∀ {ρ : Env} {i j : Nat} {y : Sl}, i ≠ j → getS (setS ρ i y) j = getS ρ j
  | [], _, _, _, _ => rfl
  | _ :: _, 0, 0, _, h => absurd rfl h
  | _ :: _, 0, j + 1, _, _ => rfl
  | _ :: _, i + 1, 0, _, _ => rfl
  | _ :: r, i + 1, j + 1, y, h => getS_ne (ρ := r) fun e => h (by rw [e])
theorem setS_out : ∀ {ρ : Env} {i : Nat} {y : Sl}, ρ.length ≤ i → setS ρ i y = ρ
  | [], _, _, _ => rfl
  | _ :: _, 0, _, h => by simp at h
  | x :: r, i + 1, y, h => by show x :: setS r i y = x :: r; rw [setS_out (by simpa using h)]
section
variable {K : PySem.W.Frag} {cl : Gx} {O O' : AP_} {H H' : Hp} {σ : L2.St} {ρ : Env}
theorem own_set {i : Nat} {z : Option V} {y : Sl} (hl : ρ.length = σ.length) (hy : y.own = false) : ∀ a, Own (σ.set i z) (setS ρ i y) a → Own σ ρ a := fun a ⟨j, h1, h2⟩ => by
  by_cases e : i = j
  · subst e
    by_cases hi : i < ρ.length
    · rw [getS_self hi, hy] at h1; cases h1
    · rw [getS_len _ _ (by rw [setS_len]; omega)] at h1; cases h1
  · rw [getS_ne e] at h1
    rw [List.getElem?_set_ne e] at h2
    exact ⟨j, h1, h2⟩
theorem oo_set {i : Nat} {z : Option V} {y : Sl} (hl : ρ.length = σ.length) (hy : y.own = false) : ∀ a, OO O (σ.set i z) (setS ρ i y) a → OO O σ ρ a := fun a h => h.imp id (own_set hl hy a)
theorem no_of {i : Nat} (h : cl.ex = none) : cl.no i := fun a e => by rw [h] at e; cases e
/-- a slot is given a shared value -/
theorem StE.sh {i : Nat} {v : V} {d : D} (hz : cl.no i) (st : StE K cl O σ H ρ) (r : Rp K (OO O σ ρ) H v d) : StE K cl O (σ.set i (some v)) H (setS ρ i (.sh d)) := by
  have ho := oo_set (O := O) (i := i) (z := some v) (y := .sh d) st.len rfl
  refine ⟨st.odom, fun j => ?_, by rw [setS_len, List.length_set]; exact st.len, fun j a e => by rw [List.getElem?_set_ne (fun z => hz a (by rw [z]; exact e))]; exact st.z j a e⟩
  by_cases e : i = j
  · subst e
    by_cases hi : i < ρ.length
    · rw [getS_self hi, List.getElem?_set_self (by rw [← st.len]; exact hi)]
      exact ⟨v, rfl, r.keep (fun a z _ => ho a z) fun _ _ _ q => q⟩
    · rw [getS_len _ _ (by rw [setS_len]; omega)]
      trivial
  · rw [getS_ne e, List.getElem?_set_ne e]
    exact (st.sl j).keep (fun a z _ => ho a z) (fun _ _ _ q => q) fun _ _ _ => rfl
/-- a slot is emptied -/
theorem StE.wipe1 {i : Nat} (hz : cl.no i) (st : StE K cl O σ H ρ) : StE K cl O (σ.set i none) H (setS ρ i .no) := by
  have ho := oo_set (O := O) (i := i) (z := (none : Option V)) (y := .no) st.len rfl
  refine ⟨st.odom, fun j => ?_, by rw [setS_len, List.length_set]; exact st.len, fun j a e => by rw [List.getElem?_set_ne (fun z => hz a (by rw [z]; exact e))]; exact st.z j a e⟩
  by_cases e : i = j
  · subst e
    by_cases hi : i < ρ.length
    · rw [getS_self hi]; trivial
    · rw [getS_len _ _ (by rw [setS_len]; omega)]; trivial
  · rw [getS_ne e, List.getElem?_set_ne e]
    exact (st.sl j).keep (fun a z _ => ho a z) (fun _ _ _ q => q) fun _ _ _ => rfl
/-- the places of a target -/
def Tg.ix : Tg → List Nat
  | .one i => [i]
  | .two i j => [i, j]
theorem StE.wipe (g : Tg) (hz : cl.ex = none) (st : StE K cl O σ H ρ) : StE K cl O (L2.wipe σ g.ix) H (wipT g ρ) := by
  cases g with
  | one i => exact st.wipe1 (no_of hz)
  | two i j => exact (st.wipe1 (no_of hz)).wipe1 (no_of hz)
theorem oo_wipe (g : Tg) (hl : ρ.length = σ.length) : ∀ a, OO O (L2.wipe σ g.ix) (wipT g ρ) a → OO O σ ρ a := by
  cases g with
  | one i => exact fun a h => oo_set (z := none) (y := .no) hl rfl a h
  | two i j => exact fun a h => oo_set (z := none) (y := .no) hl rfl a (oo_set (z := none) (y := .no) (by rw [setS_len, List.length_set]; exact hl) rfl a h)
/-- what is excluded may grow by what was not there -/
theorem StE.grow {D : Addr} {o : HO} (st : StE K cl O σ H ρ) (hD : H D = none) (s : Same H H') (h : H' D = some o) (w : OwnO o) : StE K cl (fun a => O a ∨ a = D) σ H' ρ := by
  refine ⟨fun a ha => ?_, fun i => (st.sl i).keep (fun a ha hn => ?_) (fun a u _ q => s a u q) fun p h1 h2 => ?_, st.len, st.z⟩
  · rcases ha with ha | rfl
    · obtain ⟨o', e, w'⟩ := st.odom a ha
      exact ⟨o', s a o' e, w'⟩
    · exact ⟨o, h, w⟩
  · rcases ha with (ha | rfl) | ha
    · exact .inl ha
    · exact absurd hD hn
    · exact .inr ha
  · obtain ⟨o', h3, _⟩ := st.at ⟨i, h1, h2⟩
    rw [h3, s p o' h3]
/-- more may be excluded: the def's own are part of it already -/
theorem StE.outer (st : StE K cl O σ H ρ) : StE K cl (OO O σ ρ) σ H ρ := by
  refine ⟨fun a ha => st.ownO ha, fun i => (st.sl i).keep (fun a ha _ => ?_) (fun _ _ _ q => q) fun _ _ _ => rfl, st.len, st.z⟩
  rcases ha with ha | ha
  · exact ha
  · exact .inr ha
end
theorem rps_two {K : PySem.W.Frag} {O : AP_} {H : Hp} {vs : List V} {x y : D} (r : Rps K O H vs [x, y]) : ∃ v w, vs = [v, w] ∧ Rp K O H v x ∧ Rp K O H w y := by
  cases r with
  | cons r1 h2 => cases h2 with
    | cons r2 h2 => cases h2; exact ⟨_, _, rfl, r1, r2⟩
/-! ### targets -/
def gG (K : PySem.W.Frag) : Tg → TG
  | .one i => gName i
  | .two i j => gTup K 2 (gCons (gName i) (gCons (gName j) gNil))
structure DG (X : Cx) (tg : Expr) (g : Tg) : Prop where
  run : PG X tg (gG X.K g)
section
variable {X : Cx} {pos : Pos}
theorem dg_one {i : Nat} {x : Str} (hN : X.N.Nodup) (hi : X.N[i]? = some x) (hx : Loc X.env.scope x) (hf : X.fn x = true ∨ X.env.scope.names.lookup x = some .local) : DG X (.Name x pos) (.one i) := ⟨pg_name hN hi hx hf⟩
theorem dg_two {i j k : Nat} {x y : Str} {p q : Pos} (hc : X.calm = true) (hN : X.N.Nodup) (hi : X.N[i]? = some x) (hx : Loc X.env.scope x) (hf : X.fn x = true ∨ X.env.scope.names.lookup x = some .local)
    (hj : X.N[j]? = some y) (hy : Loc X.env.scope y) (hg : X.fn y = true ∨ X.env.scope.names.lookup y = some .local) : DG X (.Tuple [.Name x p, .Name y q] k pos) (.two i j) :=
  ⟨pg_tup hc (pgs_cons (pg_name hN hi hx hf) (pgs_cons (pg_name hN hj hy hg) pgs_nil))⟩
end
theorem gG_go {K : PySem.W.Frag} {cl : Gx} {O : AP_} {H : Hp} {σ : L2.St} {ρ ρ' : Env} {g : Tg} {v : V} {d : D} {Q : L2.St → Hp → Prop} (hz : cl.ex = none) (st : StE K cl O σ H ρ) (r : Rp K (OO O σ ρ) H v d) (h : tgR g d ρ = .ok ρ') (q : ∀ σ', StE K cl O σ' H ρ' → (∀ a, OO O σ' ρ' a → OO O σ ρ a) → L2.wipe σ' g.ix = L2.wipe σ g.ix → Q σ' H) : gG K g v σ H Q := by
  cases g with
  | one i =>
    cases h
    refine q _ (st.sh (no_of hz) r) (oo_set st.len rfl) ?_
    show (σ.set i (some v)).set i none = σ.set i none
    rw [List.set_set]
  | two i j =>
    unfold tgR at h
    simp only at h
    split at h
    · rename_i x y ht
      cases h
      have hd : d = .tup [x, y] := by
        unfold two at ht
        split at ht
        · cases ht; rfl
        · cases ht
      subst hd
      obtain ⟨a, vs, rfl, _, h1, h2⟩ := r.inv_tup
      obtain ⟨v1, v2, rfl, r1, r2⟩ := rps_two h2
      refine ⟨a, _, rfl, .of h1, rfl, _, _, rfl, ?_⟩
      have st1 := st.sh (i := i) (no_of hz) r1
      have ho := oo_set (O := O) (i := i) (z := some v1) (y := .sh x) st.len rfl
      refine ⟨_, _, rfl, ⟨rfl, ?_⟩⟩
      refine q _ (st1.sh (i := j) (no_of hz) (r2.keep (fun a z _ => ho a z) fun _ _ _ q => q)) (fun a z => ho a (oo_set st1.len rfl a z)) ?_
      show ((((σ.set i (some v1)).set j (some v2)).set j none)).set i none = (σ.set j none).set i none
      rw [List.set_set]
      by_cases e : i = j
      · subst e
        rw [List.set_set, List.set_set, List.set_set]
      · rw [List.set_comm _ _ e, List.set_set, List.set_comm _ _ (Ne.symm e)]
    · cases h
end Mi

set_option Elab.async false
set_option linter.all false
set_option maxRecDepth 100000
set_option maxHeartbeats 4000000
/-! Mi, soundness 18: list comprehensions -/
namespace Mi
open PySem L2 PySem.Spec PyProof.Rows
section
variable {X : Cx} {cl : Gx} {W W' : WX} {tg iter elt : Expr} {ifs : List Expr} {fi fc fe : Env → R D} {pos : Pos}
theorem pe_ex {ι : Type} {e : Expr} {t : ι → TE} (h : ∀ i, PE X e (t i)) : PE X e (fun σ H Q => ∃ i, t i σ H Q) := ⟨fun pins s σ H Q I ⟨i, q⟩ => (h i).run pins s σ H Q I q⟩
theorem pts_ex {ι : Type} {e : List Expr} {t : ι → TT} (h : ∀ i, PTs X e (t i)) : PTs X e (fun σ H Q => ∃ i, t i σ H Q) := ⟨fun pins s σ H Q I ⟨i, q⟩ => (h i).run pins s σ H Q I q⟩
/-- the tests of a clause -/
structure DTs (X : Cx) (cl : Gx) (W : WX) (ifs : List Expr) (f : Env → R D) : Prop where
  run : ∀ (O : AP_) (ρ : Env), PTs X ifs (tTB X.K cl O W ρ (f ρ))
theorem dts_nil : DTs X cl W [] fun _ => .ok (.bl true) := ⟨fun O ρ => ⟨fun pins s σ H Q I q => pts_nil.run pins s σ H Q I (by
  obtain ⟨b, e, q⟩ := q.2
  cases e
  exact q H (Same.refl H))⟩⟩
theorem dts_one {c : Expr} {f : Env → R D} (h : DT X cl W c f) : DTs X cl W [c] f := ⟨fun O ρ => pts_one (h.tb O ρ)⟩
/-- a turn of a comprehension -/
def lcF (fc fe : Env → R D) (g : Tg) (ρ : Env) (x : D) : R (Option D) := (tgR g x (wipT g ρ)).bind fun ρ' => (fc ρ').bind fun y => (blR y).bind fun b => if b then (fe ρ').bind fun z => .ok (some z) else .ok none
theorem lcF_inv {g : Tg} {ρ : Env} {x : D} {o : Option D} (h : lcF fc fe g ρ x = .ok o) : ∃ ρ' b, tgR g x (wipT g ρ) = .ok ρ' ∧ fc ρ' = .ok (.bl b) ∧ ((b = true ∧ ∃ z, fe ρ' = .ok z ∧ o = some z) ∨ (b = false ∧ o = none)) := by
  unfold lcF at h
  cases h1 : tgR g x (wipT g ρ) with
  | ok ρ' =>
    rw [h1] at h
    replace h : ((fc ρ').bind fun y => (blR y).bind fun b => if b then (fe ρ').bind fun z => R.ok (some z) else .ok none) = .ok o := h
    cases h2 : fc ρ' with
    | ok y =>
      rw [h2] at h
      cases y with
      | bl b =>
        refine ⟨ρ', b, rfl, h2, ?_⟩
        cases b with
        | true =>
          replace h : ((fe ρ').bind fun z => R.ok (some z)) = .ok o := h
          cases h3 : fe ρ' with
          | ok z => rw [h3] at h; cases h; exact .inl ⟨rfl, z, rfl, rfl⟩
          | rz c => rw [h3] at h; cases h
          | no => rw [h3] at h; cases h
        | false => cases h; exact .inr ⟨rfl, rfl⟩
      | _ => cases h
    | rz c => rw [h2] at h; cases h
    | no => rw [h2] at h; cases h
  | rz c => rw [h1] at h; cases h
  | no => rw [h1] at h; cases h
theorem lcR_cons {f : D → R (Option D)} {x : D} {r : List D} {ys : List D} (h : lcR f (x :: r) = .ok ys) : ∃ o zs, f x = .ok o ∧ lcR f r = .ok zs ∧ ys = optC o zs := by
  unfold lcR at h
  cases h1 : f x with
  | ok o =>
    rw [h1] at h
    replace h : ((lcR f r).bind fun ys => R.ok (optC o ys)) = .ok ys := h
    cases h2 : lcR f r with
    | ok zs => rw [h2] at h; cases h; exact ⟨o, zs, rfl, rfl, rfl⟩
    | rz c => rw [h2] at h; cases h
    | no => rw [h2] at h; cases h
  | rz c => rw [h1] at h; cases h
  | no => rw [h1] at h; cases h
theorem wipe_idem (σ : L2.St) (g : Tg) : L2.wipe (L2.wipe σ g.ix) g.ix = L2.wipe σ g.ix := by
  cases g with
  | one i => show (σ.set i none).set i none = σ.set i none; rw [List.set_set]
  | two i j =>
    show (((σ.set j none).set i none).set j none).set i none = (σ.set j none).set i none
    by_cases e : i = j
    · subst e; simp [List.set_set]
    · rw [List.set_comm _ _ e, List.set_set, List.set_set]
/-- the loop of a list comprehension, as the library reads it -/
theorem lc_go {K : PySem.W.Frag} {O : AP_} {H1 : Hp} {σ : L2.St} {ρ : Env} {J : It} {ds ys : List D} {g : Tg} {D0 : Addr} {Qd : Hp → Prop} (hx : cl.ex = none) (st : StE K cl O σ H1 ρ) (srv : Srv K (OO O σ ρ) J H1 ds) (hz : ds.length ≤ sizeLine) (hD : H1 D0 = none) (hl : lcR (lcF fc fe g ρ) ds = .ok ys)
    (q : ∀ H', Same H1 H' → Rp K (OO O σ ρ) H' (.ref D0) (.lst ys) → Qd H') :
    ∃ Wm : Nat → Nat → Hp → Prop, (∃ m, Wm 0 m (upd H1 D0 (.lst []))) ∧ ∀ i m H, Wm i m H → (J.stop i H ∧ Qd H) ∨ (J.go i H ∧ ∃ Nx : Hp → Prop, (∀ H', Nx H' → ∃ m', m' < m ∧ Wm (i + 1) m' H') ∧
      ∀ x H', J.yld i H x H' → gG K g x (L2.wipe σ g.ix) H' fun σ2 H2 => L2.wipe σ2 g.ix = L2.wipe σ g.ix ∧ (∃ p : AP_ × Env, tTB K cl p.1 W' p.2 (fc p.2) σ2 H2 fun b H3 => if b = true then (∃ p : AP_ × Env, tE K cl p.1 W' p.2 (fe p.2) σ2 H3 fun y H4 => ∃ acc, H4 D0 = some (.lst acc) ∧ acc.length < sizeLine ∧ Nx (upd H4 D0 (.lst (acc ++ [y])))) else Nx H3)) := by
  have nD : ¬ OO O σ ρ D0 := fun z => st.dom D0 z hD
  let OD : AP_ := fun a => OO O σ ρ a ∨ a = D0
  let Wm : Nat → Nat → Hp → Prop := fun i m H' => m = ds.length - i ∧ i ≤ ds.length ∧ Same H1 H' ∧ ∃ acc dn rest, H' D0 = some (.lst acc) ∧ Rps K OD H' acc dn ∧ lcR (lcF fc fe g ρ) (ds.drop i) = .ok rest ∧ ys = dn ++ rest ∧ acc.length ≤ i
  refine ⟨Wm, ⟨ds.length, rfl, Nat.zero_le _, same_upd hD, [], [], ys, upd_same, .nil, hl, rfl, Nat.le_refl _⟩, ?_⟩
  rintro i m H' ⟨rfl, hi, sm, acc, dn, rest, hacc, racc, hrest, rfl, hle⟩
  have st' : StE K cl O σ H' ρ := st.more sm
  have kp : ∀ O' : AP_, (∀ a, O' a → H1 a ≠ none → OO O σ ρ a) → (∀ a, O' a → OD a) → Keep (OO O σ ρ) O' H1 H' := fun O' h1 h2 => ⟨h1, fun a u _ e => sm a u e, fun a ha => by
    rcases h2 a ha with z | rfl
    · obtain ⟨o, e, w⟩ := st'.ownO z
      exact ⟨o, e, w.noTup⟩
    · exact ⟨_, hacc, fun vs e => nomatch e⟩⟩
  by_cases hlt : i < ds.length
  · right
    have ed : ds.drop i = ds[i] :: ds.drop (i + 1) := List.drop_eq_getElem_cons hlt
    rw [ed] at hrest
    obtain ⟨o, zs, hf, hzs, rfl⟩ := lcR_cons hrest
    obtain ⟨ρ', b, ht, hcnd, hres⟩ := lcF_inv hf
    have k1 := kp OD (fun a z n => z.elim id fun e => absurd hD (e ▸ n)) (fun a z => z)
    obtain ⟨items, _⟩ := srv OD H' k1
    obtain ⟨go, yld⟩ := items i ds[i] (List.getElem?_eq_getElem hlt)
    refine ⟨go, Wm (i + 1) (ds.length - (i + 1)), fun H'' w => ⟨_, by omega, w⟩, fun x H2 hy => ?_⟩
    obtain ⟨s2, rx⟩ := yld x H2 hy
    have hacc2 := s2 D0 _ hacc
    have stD : StE K cl OD σ H2 ρ := st.outer.grow hD (sm.trans s2) hacc2 trivial
    have stW : StE K cl OD (L2.wipe σ g.ix) H2 (wipT g ρ) := stD.wipe g hx
    have rx' : Rp K (OO OD (L2.wipe σ g.ix) (wipT g ρ)) H2 x ds[i] := rx.keep (fun a z _ => by
      rcases oo_wipe (O := OD) g st.len a z with z | z
      · exact z
      · exact .inl (.inr z)) fun _ _ _ e => e
    refine gG_go hx stW rx' ht fun σ2 st2 ho hw => ⟨by rw [hw, wipe_idem], (OD, ρ'), st2, ?_⟩
    show (match fc ρ' with
      | .ok d => ∃ b, d = .bl b ∧ ∀ H', Same H2 H' → _
      | .rz c => _
      | .no => False)
    rw [hcnd]
    refine ⟨b, rfl, fun H3 s3 => ?_⟩
    rcases hres with ⟨rfl, z, hz', rfl⟩ | ⟨rfl, rfl⟩
    · rw [if_pos rfl]
      refine ⟨(OD, ρ'), st2.more s3, ?_⟩
      show RQ K cl OD W' ρ' σ2 H3 _ (fe ρ')
      rw [hz']
      refine fun y H4 s4 ry => ⟨acc, s4 D0 _ (s3 D0 _ hacc2), by omega, by omega, by omega, ?_, acc ++ [y], dn ++ [z], zs, upd_same, ?_, hzs, ?_, ?_⟩
      · intro a u e
        have hne : a ≠ D0 := fun z => by rw [z, hD] at e; cases e
        rw [upd_ne hne]
        exact s4 a u (s3 a u (s2 a u (sm a u e)))
      · have kk : ∀ a u, ¬ OD a → H4 a = some u → (upd H4 D0 (.lst (acc ++ [y]))) a = some u := fun a u n e => by rw [upd_ne (fun z => n (.inr z))]; exact e
        refine Rps.append ?_ (.cons (ry.keep (fun a z _ => .inl z) fun a u n e => kk a u (fun z => n (.inl z)) e) .nil)
        exact (((racc.more s2).more s3).more s4).keep (fun _ z _ => z) kk
      · simp [optC]
      · simp; omega
    · rw [if_neg (by simp)]
      exact ⟨by omega, by omega, ((sm.trans s2).trans s3), acc, dn, zs, s3 D0 _ hacc2, (racc.more s2).more s3, hzs, rfl, by omega⟩
  · left
    have hi' : i = ds.length := by omega
    subst hi'
    have k1 := kp (OO O σ ρ) (fun a z _ => z) (fun a z => .inl z)
    refine ⟨(srv _ H' k1).2, q H' sm ?_⟩
    rw [List.drop_length] at hrest
    cases hrest
    rw [List.append_nil]
    exact .lst nD hacc (racc.keep (fun a z _ => .inl z) fun _ _ _ e => e)
theorem de_lc {g : Tg} {scope : Scope} {own : List (Str × Nat)} (hx : cl.ex = none) (hc : X.calm = true) (hN : X.N.Nodup) (hi : DI X cl W tg iter fi) (ok : BlkOk X.N X.env.scope scope own) (how : own.map (·.2) = g.ix)
    (hg : ∀ (s : Shared) (H : Hp) (C : Addr) (cs : List (Str × Addr)) (fp : List Addr), DG (X.blk s H scope (compEnvC scope cs C X.env) fp) tg g)
    (ht : ∀ (s : Shared) (H : Hp) (C : Addr) (cs : List (Str × Addr)) (fp : List Addr), DTs (X.blk s H scope (compEnvC scope cs C X.env) fp) cl W' ifs fc)
    (he : ∀ (s : Shared) (H : Hp) (C : Addr) (cs : List (Str × Addr)) (fp : List Addr), DE (X.blk s H scope (compEnvC scope cs C X.env) fp) cl W' elt fe)
    (hs : ∀ x, foldedSetIterable iter X.env x = pure x) :
    DE X cl W (.ListComp elt [⟨tg, iter, ifs, 0⟩] scope pos) fun ρ => (fi ρ).bind fun x => (lstR x).bind fun xs => ((lcR (lcF fc fe g ρ) xs).calm).bind fun ys => .ok (.lst ys) :=
  ⟨fun O ρ => (pe_lc hc hN (hi.run O ρ) ok (fun s H C cs fp => (hg s H C cs fp).run) (fun s H C cs fp => pts_ex fun p : AP_ × Env => (ht s H C cs fp).run p.1 p.2) (fun s H C cs fp => pe_ex fun p : AP_ × Env => (he s H C cs fp).run p.1 p.2) hs).imp fun σ H Q q => by
    rw [how]
    refine ⟨q.1, ?_⟩
    have q2 := q.2
    cases hf : fi ρ with
    | rz c => rw [hf] at q2; exact q2
    | no => rw [hf] at q2; exact q2.elim
    | ok d =>
      rw [hf] at q2
      cases d <;> first | exact q2.elim | skip
      rename_i ds
      replace q2 : RQ X.K cl O W ρ σ H Q (((lcR (lcF fc fe g ρ) ds).calm).bind fun ys => .ok (.lst ys)) := q2
      intro J H1 s1 srv hz D0 hD
      cases hl : lcR (lcF fc fe g ρ) ds with
      | rz c => rw [hl] at q2; exact q2.elim
      | no => rw [hl] at q2; exact q2.elim
      | ok ys =>
        rw [hl] at q2
        exact lc_go (cl := cl) (W' := W') hx (q.1.more s1) srv hz hD hl fun H' s' r => q2 _ H' (s1.trans s') r⟩
end
end Mi

set_option Elab.async false
set_option linter.all false
set_option maxRecDepth 100000
set_option maxHeartbeats 4000000
/-! Mi, soundness 19: statements -/
namespace Mi
open PySem L2 PySem.Spec PyProof.Rows
theorem Keep.trans {O1 O2 O3 : AP_} {H1 H2 H3 : Hp} (a : Keep O1 O2 H1 H2) (b : Keep O2 O3 H2 H3) : Keep O1 O3 H1 H3 := by
  refine ⟨fun x h3 hn => ?_, fun x u n e => ?_, b.own⟩
  · by_cases h1 : O1 x
    · exact h1
    · cases e : H1 x with
      | none => exact absurd e hn
      | some u =>
        have e2 := a.k x u h1 e
        exact a.ho x (b.ho x h3 (by rw [e2]; simp)) hn
  · exact b.k x u (fun z => n (a.ho x z (by rw [e]; simp))) (a.k x u n e)
section
variable {K : PySem.W.Frag} {cl : Gx} {O : AP_} {H0 H H' : Hp} {σ σ' : L2.St} {ρ ρ' : Env}
theorem StR.ee (st : StR K cl O H0 σ H ρ) : StE K cl O σ H ρ := st.e
theorem keep_same (st : StE K cl O σ H ρ) (s : Same H H') : Keep (OO O σ ρ) (OO O σ ρ) H H' := ⟨fun _ z _ => z, fun a u _ e => s a u e, fun a h => by
  obtain ⟨o, e, w⟩ := st.ownO h
  exact ⟨o, s a o e, w.noTup⟩⟩
theorem keep_sub (st' : StE K cl O σ' H ρ') (ho : ∀ a, OO O σ' ρ' a → OO O σ ρ a) : Keep (OO O σ ρ) (OO O σ' ρ') H H := ⟨fun a z _ => ho a z, fun _ _ _ e => e, fun a h => by
  obtain ⟨o, e, w⟩ := st'.ownO h
  exact ⟨o, e, w.noTup⟩⟩
theorem StR.sh {i : Nat} {v : V} {d : D} (hz : cl.no i) (st : StR K cl O H0 σ H ρ) (r : Rp K (OO O σ ρ) H v d) : StR K cl O H0 (σ.set i (some v)) H (setS ρ i (.sh d)) := by
  have e := st.e.sh (i := i) hz r
  refine ⟨st.same, st.odom, fun a h => st.own a (own_set st.len rfl a h), fun j k a h1 h2 h3 h4 => ?_, e.sl, e.len, e.z⟩
  have go : ∀ {j : Nat}, (getS (setS ρ i (.sh d)) j).own = true → (σ.set i (some v))[j]? = some (some (.ref a)) → (getS ρ j).own = true ∧ σ[j]? = some (some (.ref a)) := fun {j} h1 h2 => by
    by_cases e : i = j
    · subst e
      by_cases hi : i < ρ.length
      · rw [getS_self hi] at h1; cases h1
      · rw [getS_len _ _ (by rw [setS_len]; omega)] at h1; cases h1
    · rw [getS_ne e] at h1
      rw [List.getElem?_set_ne e] at h2
      exact ⟨h1, h2⟩
  obtain ⟨a1, a2⟩ := go h1 h3
  obtain ⟨b1, b2⟩ := go h2 h4
  exact st.inj j k a a1 b1 a2 b2
theorem gG_goR {g : Tg} {v : V} {d : D} {Q : L2.St → Hp → Prop} (hz : cl.ex = none) (st : StR K cl O H0 σ H ρ) (r : Rp K (OO O σ ρ) H v d) (h : tgR g d ρ = .ok ρ') (q : ∀ σ', StR K cl O H0 σ' H ρ' → (∀ a, OO O σ' ρ' a → OO O σ ρ a) → Q σ' H) : gG K g v σ H Q := by
  cases g with
  | one i =>
    cases h
    exact q _ (st.sh (no_of hz) r) (oo_set st.len rfl)
  | two i j =>
    unfold tgR at h
    simp only at h
    split at h
    · rename_i x y ht
      cases h
      have hd : d = .tup [x, y] := by
        unfold two at ht
        split at ht
        · cases ht; rfl
        · cases ht
      subst hd
      obtain ⟨a, vs, rfl, _, h1, h2⟩ := r.inv_tup
      obtain ⟨v1, v2, rfl, r1, r2⟩ := rps_two h2
      refine ⟨a, _, rfl, .of h1, rfl, _, _, rfl, ?_⟩
      have st1 := st.sh (i := i) (no_of hz) r1
      have ho := oo_set (O := O) (i := i) (z := some v1) (y := .sh x) st.len rfl
      refine ⟨_, _, rfl, ⟨rfl, ?_⟩⟩
      exact q _ (st1.sh (i := j) (no_of hz) (r2.keep (fun a z _ => ho a z) fun _ _ _ q => q)) (fun a z => ho a (oo_set st1.len rfl a z))
    · cases h
/-- a state behind another -/
structure Nxt (K : PySem.W.Frag) (cl : Gx) (O : AP_) (H0 : Hp) (ρ : Env) (σ : L2.St) (H : Hp) (ρ' : Env) (σ' : L2.St) (H' : Hp) : Prop where
  st : StR K cl O H0 σ' H' ρ'
  kp : Keep (OO O σ ρ) (OO O σ' ρ') H H'
theorem Nxt.same (st : StR K cl O H0 σ H ρ) (s : Same H H') : Nxt K cl O H0 ρ σ H ρ σ H' := ⟨st.more s, keep_same st.e s⟩
theorem Nxt.trans {ρ2 : Env} {σ2 : L2.St} {H2 : Hp} (a : Nxt K cl O H0 ρ σ H ρ' σ' H') (b : Nxt K cl O H0 ρ' σ' H' ρ2 σ2 H2) : Nxt K cl O H0 ρ σ H ρ2 σ2 H2 := ⟨b.st, a.kp.trans b.kp⟩
end
/-- what is wanted behind a statement -/
def SQ (K : PySem.W.Frag) (cl : Gx) (O : AP_) (H0 : Hp) (W : WX) (ρ : Env) (σ : L2.St) (H : Hp) (E : Ends) : Out → Prop
  | .nx ρ' => ∀ σ' H', Nxt K cl O H0 ρ σ H ρ' σ' H' → E.nx σ' H'
  | .rt d ρ' => ∀ v σ' H', Nxt K cl O H0 ρ σ H ρ' σ' H' → Rp K (OO O σ' ρ') H' v d → E.rt v H'
  | .bk ρ' => ∀ σ' H', Nxt K cl O H0 ρ σ H ρ' σ' H' → E.bk σ' H'
  | .rz c ρ' => ∀ σ' H', Nxt K cl O H0 ρ σ H ρ' σ' H' → W (.ref (cl.cl c)) none σ' H'
  | .no => False
def tS (K : PySem.W.Frag) (cl : Gx) (O : AP_) (H0 : Hp) (W : WX) (ρ : Env) (o : Out) : TS := fun E σ H => StR K cl O H0 σ H ρ ∧ SQ K cl O H0 W ρ σ H E o
section
variable {K : PySem.W.Frag} {cl : Gx} {O : AP_} {H0 H H' : Hp} {W : WX} {σ σ' : L2.St} {ρ ρ' : Env} {E : Ends} {o : Out}
theorem SQ.step (q : SQ K cl O H0 W ρ σ H E o) (n : Nxt K cl O H0 ρ σ H ρ' σ' H') : SQ K cl O H0 W ρ' σ' H' E o := by
  cases o with
  | nx r => exact fun σ2 H2 m => q σ2 H2 (n.trans m)
  | rt d r => exact fun v σ2 H2 m => q v σ2 H2 (n.trans m)
  | bk r => exact fun σ2 H2 m => q σ2 H2 (n.trans m)
  | rz c r => exact fun σ2 H2 m => q σ2 H2 (n.trans m)
  | no => exact q
/-- an expression within a statement -/
theorem tE.out {f : R D} {g : D → Out} {P : VK} (st : StR K cl O H0 σ H ρ) (q : SQ K cl O H0 W ρ σ H E (f.out ρ g))
    (k : ∀ v d H1, StR K cl O H0 σ H1 ρ → Same H H1 → Rp K (OO O σ ρ) H1 v d → f = .ok d → SQ K cl O H0 W ρ σ H1 E (g d) → P v H1) : tE K cl O W ρ f σ H P := by
  refine ⟨st.e, ?_⟩
  cases f with
  | ok d => exact fun v H1 s r => k v d H1 (st.more s) s r rfl (SQ.step q (Nxt.same st s))
  | rz c => exact fun H1 s => q σ H1 (Nxt.same st s)
  | no => exact q
/-- a test within a statement -/
theorem tTB.out {f : R D} {g : Bool → Out} {P : Bool → Hp → Prop} (st : StR K cl O H0 σ H ρ) (q : SQ K cl O H0 W ρ σ H E ((f.bind blR).out ρ g))
    (k : ∀ b H1, StR K cl O H0 σ H1 ρ → Same H H1 → SQ K cl O H0 W ρ σ H1 E (g b) → P b H1) : tTB K cl O W ρ f σ H P := by
  refine ⟨st.e, ?_⟩
  cases f with
  | ok d =>
    cases d <;> first | exact q.elim | skip
    exact ⟨_, rfl, fun H1 s => k _ H1 (st.more s) s (SQ.step q (Nxt.same st s))⟩
  | rz c => exact fun H1 s => q σ H1 (Nxt.same st s)
  | no => exact q
end
structure DS (X : Cx) (cl : Gx) (W : WX) (st : Stmt) (f : Env → Out) : Prop where
  run : ∀ (O : AP_) (H0 : Hp) (ρ : Env), PS X st (tS X.K cl O H0 W ρ (f ρ))
structure DSs (X : Cx) (cl : Gx) (W : WX) (st : List Stmt) (f : Env → Out) : Prop where
  run : ∀ (O : AP_) (H0 : Hp) (ρ : Env), PSs X st (tS X.K cl O H0 W ρ (f ρ))
section
variable {X : Cx} {cl : Gx} {W W' : WX} {a b c e tg : Expr} {s1 : Stmt} {ss ss2 : List Stmt} {fa fb fc fe fi : Env → R D} {f1 f2 : Env → Out} {pos p pos' : Pos}
theorem dss_nil : DSs X cl W [] fun ρ => .nx ρ := ⟨fun O H0 ρ => pss_nil.imp fun E σ H q => q.2 σ H (Nxt.same q.1 (Same.refl H))⟩
theorem dss_cons (h1 : DS X cl W s1 f1) (h2 : DSs X cl W ss f2) : DSs X cl W (s1 :: ss) fun ρ => (f1 ρ).andThen f2 := ⟨fun O H0 ρ => by
  have k1 := h1.run O H0 ρ
  cases hf : f1 ρ with
  | nx ρ' =>
    rw [hf] at k1
    refine (pss_cons k1 (h2.run O H0 ρ')).imp fun E σ H q => ⟨q.1, fun σ' H' n => ⟨n.st, SQ.step (show SQ X.K cl O H0 W ρ σ H E (f2 ρ') from q.2) n⟩⟩
  | rt d ρ' =>
    rw [hf] at k1
    exact (pss_cons k1 (h2.run O H0 ρ)).imp fun E σ H q => ⟨q.1, q.2⟩
  | bk ρ' =>
    rw [hf] at k1
    exact (pss_cons k1 (h2.run O H0 ρ)).imp fun E σ H q => ⟨q.1, q.2⟩
  | rz c ρ' =>
    rw [hf] at k1
    exact (pss_cons k1 (h2.run O H0 ρ)).imp fun E σ H q => ⟨q.1, q.2⟩
  | no =>
    rw [hf] at k1
    exact (pss_cons k1 (h2.run O H0 ρ)).imp fun E σ H q => q.2.elim⟩
theorem DS.congr {f g : Env → Out} (h : DS X cl W s1 f) (k : ∀ ρ, f ρ = g ρ) : DS X cl W s1 g := by
  have : f = g := funext k
  rw [← this]; exact h
theorem DSs.congr {f g : Env → Out} (h : DSs X cl W ss f) (k : ∀ ρ, f ρ = g ρ) : DSs X cl W ss g := by
  have : f = g := funext k
  rw [← this]; exact h
theorem ds_pass : DS X cl W (.Pass pos) fun ρ => .nx ρ := ⟨fun O H0 ρ => ps_pass.imp fun E σ H q => q.2 σ H (Nxt.same q.1 (Same.refl H))⟩
theorem ds_doc {x : Str} {j : Nat} : DS X cl W (.Expr (.Constant (.str x) j pos) pos') fun ρ => .nx ρ := ⟨fun O H0 ρ => ps_doc.imp fun E σ H q => q.2 σ H (Nxt.same q.1 (Same.refl H))⟩
theorem ds_brk : DS X cl W (.Break pos) fun ρ => .bk ρ := ⟨fun O H0 ρ => ps_break.imp fun E σ H q => q.2 σ H (Nxt.same q.1 (Same.refl H))⟩
theorem ds_set {i : Nat} {x : Str} (hz : cl.no i) (hN : X.N.Nodup) (hi : X.N[i]? = some x) (hx : Loc X.env.scope x) (hf : X.fn x = true ∨ X.env.scope.names.lookup x = some .local) (he : DE X cl W e fe) (hs : swapsWith e (some (.Name x pos')) pos.line X.env = pure false) :
    DS X cl W (.Assign [.Name x pos'] e pos) fun ρ => (fe ρ).out ρ fun d => .nx (setS ρ i (.sh d)) :=
  ⟨fun O H0 ρ => (ps_set hN hi hx (he.run O ρ) hs hf).imp fun E σ H q => tE.out q.1 q.2 fun v d H1 st s r _ q1 => q1 _ _ ⟨st.sh hz r, keep_sub (st.sh hz r).e (oo_set st.len rfl)⟩⟩
theorem ds_ex (he : DE X cl W e fe) (hs : swapsWith e none pos.line X.env = pure false) : DS X cl W (.Expr e pos) fun ρ => (fe ρ).out ρ fun _ => .nx ρ :=
  ⟨fun O H0 ρ => (ps_expr (he.run O ρ) hs).imp fun E σ H q => tE.out q.1 q.2 fun v d H1 st s r _ q1 => q1 _ _ (Nxt.same st (Same.refl H1))⟩
theorem ds_ret (he : DE X cl W e fe) : DS X cl W (.Return (some e) pos) fun ρ => (fe ρ).out ρ fun d => .rt d ρ :=
  ⟨fun O H0 ρ => (ps_ret (he.run O ρ)).imp fun E σ H q => tE.out q.1 q.2 fun v d H1 st s r _ q1 => q1 v σ H1 (Nxt.same st (Same.refl H1)) r⟩
theorem ds_retN : DS X cl W (.Return none pos) fun ρ => .rt .non ρ := ⟨fun O H0 ρ => ps_retN.imp fun E σ H q => q.2 .non σ H (Nxt.same q.1 (Same.refl H)) .non⟩
theorem ds_if (hc : DT X cl W c fc) (h1 : DSs X cl W ss f1) (h2 : DSs X cl W ss2 f2) : DS X cl W (.If c ss ss2 pos) fun ρ => ((fc ρ).bind blR).out ρ fun k => if k then f1 ρ else f2 ρ :=
  ⟨fun O H0 ρ => (ps_if (hc.tb O ρ) (h1.run O H0 ρ) (h2.run O H0 ρ)).imp fun E σ H q => tTB.out q.1 q.2 fun b H1 st s q1 => by
    cases b with
    | true => exact ⟨st, q1⟩
    | false => exact ⟨st, q1⟩⟩
theorem pss_ex {ι : Type} {ss : List Stmt} {t : ι → TS} (h : ∀ i, PSs X ss (t i)) : PSs X ss (fun E σ H => ∃ i, t i E σ H) := ⟨fun pins s σ H Q I ⟨i, q⟩ => (h i).run pins s σ H Q I q⟩
theorem pt_ex {ι : Type} {e : Expr} {t : ι → TT} (h : ∀ i, PT X e (t i)) : PT X e (fun σ H Q => ∃ i, t i σ H Q) := ⟨fun pins s σ H Q I ⟨i, q⟩ => (h i).run pins s σ H Q I q⟩
theorem ds_raise {x m : Str} {j : Nat} {C : Addr} {k : Nat} {bmB : List Value} {B newId initId : String} {p1 p2 p3 : Pos} (hcl : cl.cl k = C) (hc : X.calm = true) (tk : Takes X W) (F : ExcBaseFacts B newId initId bmB) (q : PySem.W.excIn X.K C bmB newId = true) (gC : X.mg x = some (.ref C)) (kC : PySem.W.keepIn X.K (.ref C) = true) (r : Raises X (.ref C)) (hg : Gl X x) (hdb : (x == ("__debug__" : Str)) = false) :
    DS X cl W (.Raise (some (.Call (.Name x p1) [.Constant (.str m) j p2] [] p3)) none pos) fun ρ => .rz k ρ :=
  ⟨fun O H0 ρ => (ps_raise hc tk (pmk_own F q gC kC r hg hdb)).imp fun E σ H q => by
    have := q.2 σ H (Nxt.same q.1 (Same.refl H))
    rw [hcl] at this
    exact this⟩
theorem forR_go (g : Tg) (b : Env → Out) (ds : List D) {i : Nat} (h : i < ds.length) (ρ : Env) : forR g b (ds.drop i) ρ = match tgR g ds[i] ρ with
    | .ok ρ' => (match b ρ' with
      | .nx ρ'' => forR g b (ds.drop (i + 1)) ρ''
      | .bk ρ'' => .nx ρ''
      | o => o)
    | _ => .no := by
  rw [List.drop_eq_getElem_cons h]
  rfl
theorem ds_for {g : Tg} (hx : cl.ex = none) (hp : PassesOwn (model X.prog X.w) X.A X.env X.xe) (hc : X.calm = true) (hi : DI X cl W tg e fi) (hg : DG X tg g) (hb : DSs X cl W ss f1) (hs : ∀ x, foldedSetIterable e X.env x = pure x) :
    DS X cl W (.For tg e ss [] pos) fun ρ => ((fi ρ).bind lstR).out ρ fun xs => forR g f1 xs ρ :=
  ⟨fun O H0 ρ => (ps_for hp hc (hi.run O ρ) hg.run (pss_ex fun p : AP_ × Hp × Env => hb.run p.1 p.2.1 p.2.2) hs).imp fun E σ H q => by
    obtain ⟨st, q⟩ := q
    refine ⟨st.e, ?_⟩
    cases hf : fi ρ with
    | rz c => rw [hf] at q; exact fun H1 s => q σ H1 (Nxt.same st s)
    | no => rw [hf] at q; exact q.elim
    | ok d =>
      rw [hf] at q
      cases d <;> first | exact q.elim | skip
      rename_i ds
      replace q : SQ X.K cl O H0 W ρ σ H E (forR g f1 ds ρ) := q
      intro J H1 sm srv _
      let Wm : Nat → Nat → L2.St → Hp → Prop := fun i m σ' H' => m = ds.length - i ∧ i ≤ ds.length ∧ ∃ ρ', Nxt X.K cl O H0 ρ σ H1 ρ' σ' H' ∧ SQ X.K cl O H0 W ρ' σ' H' E (forR g f1 (ds.drop i) ρ')
      refine ⟨Wm, ⟨ds.length, rfl, Nat.zero_le _, ρ, Nxt.same (st.more sm) (Same.refl H1), SQ.step q (Nxt.same st sm)⟩, ?_⟩
      rintro i m σ' H' ⟨rfl, hi, ρ', n, q'⟩
      obtain ⟨items, stop⟩ := srv _ H' n.kp
      by_cases hlt : i < ds.length
      · right
        obtain ⟨go, yld⟩ := items i ds[i] (List.getElem?_eq_getElem hlt)
        rw [forR_go g f1 ds hlt] at q'
        refine ⟨go, Wm (i + 1) (ds.length - (i + 1)), fun σ2 H2 w => ⟨_, by omega, w⟩, fun x H2 hy => ?_⟩
        obtain ⟨s2, rx⟩ := yld x H2 hy
        cases ht : tgR g ds[i] ρ' with
        | rz c => rw [ht] at q'; exact q'.elim
        | no => rw [ht] at q'; exact q'.elim
        | ok ρ2 =>
          rw [ht] at q'
          dsimp only at q'
          have st2 := n.st.more s2
          have n2 := n.trans (Nxt.same n.st s2)
          have q2 := SQ.step q' (Nxt.same n.st s2)
          refine gG_goR hx st2 rx ht fun σ3 st3 ho => ⟨(O, H0, ρ2), st3, ?_⟩
          have m3 : Nxt X.K cl O H0 ρ' σ' H2 ρ2 σ3 H2 := ⟨st3, keep_sub st3.e ho⟩
          have q3 := SQ.step q2 m3
          have n3 := n2.trans m3
          show SQ X.K cl O H0 W ρ2 σ3 H2 _ (f1 ρ2)
          cases hb1 : f1 ρ2 with
          | nx ρ4 =>
            rw [hb1] at q3
            exact fun σ4 H4 n4 => ⟨rfl, by omega, ρ4, n3.trans n4, SQ.step q3 n4⟩
          | bk ρ4 => rw [hb1] at q3; exact q3
          | rt d ρ4 => rw [hb1] at q3; exact q3
          | rz c ρ4 => rw [hb1] at q3; exact q3
          | no => rw [hb1] at q3; exact q3.elim
      · left
        have hi' : i = ds.length := by omega
        subst hi'
        rw [List.drop_length] at q'
        exact ⟨stop, q' σ' H' (Nxt.same n.st (Same.refl H'))⟩⟩
theorem ds_while (hp : PassesOwn (model X.prog X.w) X.A X.env X.xe) (hc : DT X cl W c fc) (hb : DSs X cl W ss f1) (n : Nat) : DS X cl W (.While c ss [] pos) fun ρ => whR (fun ρ => (fc ρ).bind blR) f1 n ρ :=
  ⟨fun O H0 ρ => (ps_while hp (pt_ex fun p : AP_ × Env => hc.tb p.1 p.2) (pss_ex fun p : AP_ × Hp × Env => hb.run p.1 p.2.1 p.2.2)).imp fun E σ H q => by
    obtain ⟨st, q⟩ := q
    let Wm : Nat → L2.St → Hp → Prop := fun m σ' H' => ∃ ρ', Nxt X.K cl O H0 ρ σ H ρ' σ' H' ∧ SQ X.K cl O H0 W ρ' σ' H' E (whR (fun ρ => (fc ρ).bind blR) f1 m ρ')
    refine ⟨Wm, ⟨n, ρ, Nxt.same st (Same.refl H), q⟩, ?_⟩
    rintro m σ' H' ⟨ρ', nx, q'⟩
    cases m with
    | zero => exact q'.elim
    | succ m =>
      refine ⟨(O, ρ'), ?_⟩
      have e : whR (fun ρ => (fc ρ).bind blR) f1 (m + 1) ρ' = ((fc ρ').bind blR).out ρ' fun k => if k then (match f1 ρ' with
          | .nx ρ2 => whR (fun ρ => (fc ρ).bind blR) f1 m ρ2
          | .bk ρ2 => .nx ρ2
          | o => o) else .nx ρ' := by
        show (match (fc ρ').bind blR with
          | .ok true => _
          | .ok false => _
          | .rz x => _
          | .no => _) = _
        cases (fc ρ').bind blR with
        | ok b => cases b <;> rfl
        | rz c => rfl
        | no => rfl
      rw [e] at q'
      refine tTB.out nx.st q' fun b H1 st1 s1 q1 => ?_
      cases b with
      | false => rw [if_neg (by simp)]; exact q1 σ' H1 (Nxt.same st1 (Same.refl H1))
      | true =>
        rw [if_pos rfl]
        rw [if_pos rfl] at q1
        refine ⟨Wm m, fun σ2 H2 w => ⟨m, by omega, w⟩, (O, H0, ρ'), st1, ?_⟩
        have n1 := nx.trans (Nxt.same nx.st s1)
        show SQ X.K cl O H0 W ρ' σ' H1 _ (f1 ρ')
        cases hb1 : f1 ρ' with
        | nx ρ4 =>
          rw [hb1] at q1
          exact fun σ4 H4 n4 => ⟨ρ4, n1.trans n4, SQ.step q1 n4⟩
        | bk ρ4 => rw [hb1] at q1; exact q1
        | rt d ρ4 => rw [hb1] at q1; exact q1
        | rz c ρ4 => rw [hb1] at q1; exact q1
        | no => rw [hb1] at q1; exact q1.elim⟩
end
end Mi

set_option Elab.async false
set_option linter.all false
set_option maxRecDepth 100000
set_option maxHeartbeats 4000000
/-! Mi, soundness 20: calls of defs -/
namespace Mi
open PySem L2 PySem.Spec PyProof.Rows
/-- what a def promises: φ of its data -/
def spD (K : PySem.W.Frag) (cl : Gx) (n : Nat) (φ : List D → R D) : Sp := fun vs H Q E => vs.length = n ∧ ∃ (O : AP_) (ds : List D), (∀ a, O a → ∃ o, H a = some o ∧ OwnO o) ∧ Rps K O H vs ds ∧ (match φ ds with
  | .ok d => ∀ v H', Same H H' → Rp K O H' v d → Q v H'
  | .rz c => ∀ H', Same H H' → E (.ref (cl.cl c)) none H'
  | .no => False)
/-- a def: where it lies, its data, its parameters -/
structure FI where
  ad : Addr
  fd : FuncData
  ps : List Str
/-- the defs that may be called, at depth k -/
structure TOk (P : Program) (w0 : World) (K : PySem.W.Frag) (mg : Str → Option Value) (base : Heap) (k : Nat) (cl : Gx) (w : Cl) (tb : Nat → Option FI) : Prop where
  fn : ∀ n fi, tb n = some fi → FnOk P w0 K mg base (L2.CX P w0) k fi.ad fi.fd fi.ps (spD K cl fi.ps.length (w.f n))
  kp : ∀ n fi, tb n = some fi → PySem.W.keepIn K (.ref fi.ad) = true
  bd : ∀ n fi, tb n = some fi → Binds K fi.fd fi.ps []
  ar : ∀ n fi ds, tb n = some fi → w.f n ds ≠ .no → ds.length = fi.ps.length
section
variable {X : Cx} {cl cl' : Gx} {w : Cl} {W : WX} {tb : Nat → Option FI} {k n : Nat} {fi : FI} {a e fe : Expr} {es : List Expr} {fa fx : Env → R D} {p pos : Pos} {x : Str}
/-- the callee's end within the caller's reading -/
theorem call_end {φ : List D → R D} {m : Nat} {O : AP_} {ρ : Env} {σ : L2.St} {H : Hp} {Q : VK} {vs : List V} {ds : List D} (hcl : cl'.cl = cl.cl) (st : StE X.K cl O σ H ρ) (r : Rps X.K (OO O σ ρ) H vs ds) (ar : φ ds ≠ .no → ds.length = m) (q : RQ X.K cl O W ρ σ H Q (φ ds)) :
    spD X.K cl' m φ (vs ++ []) H Q (WE W σ) := by
  rw [List.append_nil]
  refine ⟨?_, OO O σ ρ, ds, fun a h => st.ownO h, r, ?_⟩
  · rw [r.length]
    refine ar fun e => ?_
    rw [e] at q; exact q.elim
  · cases hz : φ ds with
    | ok d => rw [hz] at q; exact q
    | rz c => rw [hz] at q; rw [hcl]; exact q
    | no => rw [hz] at q; exact q.elim
theorem de_call (hcl : cl'.cl = cl.cl) (t : TOk X.prog X.w X.K X.mg X.base k cl' w tb) (hn : tb n = some fi) (hr : Room k X.A) (hg : Gl X x) (hm : X.mg x = some (.ref fi.ad)) (tk : Takes X W) (ha : DA X cl W (e :: es) fa) (hpe : (e :: es).all plainE = true) (hdb : (x == ("__debug__" : Str)) = false) :
    DE X cl W (.Call (.Name x p) (e :: es) [] pos) fun ρ => (fa ρ).bind fun y => (lstR y).bind fun xs => w.f n xs := by
  have h1 : plainE e = true ∧ es.all plainE = true := by rw [List.all_cons, Bool.and_eq_true] at hpe; exact hpe
  exact ⟨fun O ρ => (pe_callSD (t.fn n fi hn) hr hg hm (t.kp n fi hn) (t.bd n fi hn) .nil (fun σ => passAt tk σ) (ha.run O ρ) hdb (star_one h1.1 _ _) (star_any h1.2 _ _)).imp fun σ H Q q =>
    tAs.bind q fun vs ds H1 st s r _ q1 => call_end hcl st r (t.ar n fi ds hn) q1⟩
/-- a def by a place in a list: [f, g, ..][i](..) -/
theorem pa_refs : ∀ {fs : List Addr} {es : List Expr}, PySem.Paired (fun a e => PE X e (tC (.ref a)) ∧ plainE e = true) fs es → PA X es (fun σ H Q => Q (fs.map V.ref) H)
  | _, _, .nil => pa_nil
  | _, _, .cons h t => (pa_cons h.1 (pa_refs t) (star_one h.2 _ _)).imp fun σ H Q q => q
theorem de_pick {fns : List Nat} {ls : List Expr} {ix : Expr} {lp sp : Pos} (hcl : cl'.cl = cl.cl) (t : TOk X.prog X.w X.K X.mg X.base k cl' w tb) (hr : Room k X.A) (tk : Takes X W)
    (hfs : PySem.Paired (fun n e => ∃ fi, tb n = some fi ∧ PE X e (tC (.ref fi.ad)) ∧ plainE e = true) fns ls) (hi : DE X cl W ix fx) (hix : PlainIx ix) (hz : fns.length ≤ 1000)
    (ha : DA X cl W (e :: es) fa) (hpe : (e :: es).all plainE = true)
    (hev : eval (.Call (.Subscript (.List ls lp) ix sp) (e :: es) [] pos) X.env = (do callWith pos (← eval (.Subscript (.List ls lp) ix sp) X.env) [] (backTo pos (starEach (e :: es) X.env)) (backToKw pos (keywordEach [] X.env)))) :
    DE X cl W (.Call (.Subscript (.List ls lp) ix sp) (e :: es) [] pos) fun ρ => (fx ρ).bind fun x => match x with
      | .int j => (match atI fns j with
        | some f => (fa ρ).bind fun y => (lstR y).bind fun xs => w.f f xs
        | none => .no)
      | _ => .no := by
  have h1 : plainE e = true ∧ es.all plainE = true := by rw [List.all_cons, Bool.and_eq_true] at hpe; exact hpe
  obtain ⟨as, has, hat⟩ : ∃ as : List Addr, PySem.Paired (fun a e => PE X e (tC (.ref a)) ∧ plainE e = true) as ls ∧ PySem.Paired (fun n a => ∃ fi, tb n = some fi ∧ fi.ad = a) fns as := by
    clear hz hev
    induction hfs with
    | nil => exact ⟨[], .nil, .nil⟩
    | cons h _ ih =>
      obtain ⟨as, i1, i2⟩ := ih
      obtain ⟨fi, h1, h2, h3⟩ := h
      exact ⟨fi.ad :: as, .cons ⟨h2, h3⟩ i1, .cons ⟨fi, h1, rfl⟩ i2⟩
  have hlen : fns.length = as.length := hat.length
  have hat' : ∀ {j : Int} {f : Nat}, atI fns j = some f → ∃ fi, tb f = some fi ∧ L2.atI (as.map V.ref) j = some (.ref fi.ad) := fun {j f} h => by
    unfold Mi.atI at h
    unfold L2.atI
    rw [List.length_map, ixN_eq, ← hlen]
    cases e : Mi.ixN fns.length j with
    | none => rw [e] at h; cases h
    | some i =>
      rw [e] at h
      obtain ⟨b, hb, fi, h3, h4⟩ := call_at hat (show fns[i]? = some f from h)
      exact ⟨fi, h3, by show (as.map V.ref)[i]? = _; rw [List.getElem?_map, hb, ← h4]; rfl⟩
  refine ⟨fun O ρ => ⟨fun pins s σ H Q I q => ?_⟩⟩
  have pf : PE X (.Subscript (.List ls lp) ix sp) _ := pe_ix ix_list (pe_lst (pa_refs has)) (hi.run O ρ) hix
  refine Call_ (thn (pf.run pins s σ H (fun v H1 => ∃ (fi : FI) (f : Nat), tb f = some fi ∧ v = .ref fi.ad ∧ StE X.K cl O σ H1 ρ ∧ RQ X.K cl O W ρ σ H1 Q ((fa ρ).bind fun y => (lstR y).bind fun xs => w.f f xs)) I ?_) fun u s1 ⟨y, H1, I1, ry, fi, f, hf, ey, st1, q1⟩ => ?_) hev
  · show (as.map V.ref).length ≤ sizeLine ∧ ∀ p, H p = none → _
    refine ⟨by rw [List.length_map, ← hlen, sizeLine_eq]; omega, fun p hp => ?_⟩
    have sm := same_upd (o := HO.lst (as.map V.ref)) hp
    have st' := q.1.more sm
    refine ⟨st', ?_⟩
    have q2 := RQ.more q.2 sm
    cases hx : fx ρ with
    | rz c => rw [hx] at q2; exact q2
    | no => rw [hx] at q2; exact q2.elim
    | ok d =>
      rw [hx] at q2
      refine fun v H2 s2 r2 => ?_
      cases d <;> first | exact q2.elim | skip
      rename_i j
      replace q2 : RQ X.K cl O W ρ σ (upd H p (.lst (as.map V.ref))) Q (match atI fns j with
        | some f => (fa ρ).bind fun y => (lstR y).bind fun xs => w.f f xs
        | none => .no) := q2
      cases hj : atI fns j with
      | none => rw [hj] at q2; exact q2.elim
      | some f =>
        rw [hj] at q2
        obtain ⟨fi, h3, h4⟩ := hat' hj
        exact ⟨p, _, j, .ref fi.ad, rfl, r2.inv_int, .of (s2 p _ upd_same), h4, fi, f, h3, rfl, st'.more s2, RQ.more q2 s2⟩
  · subst ey
    obtain rfl : u = Value.ref fi.ad := ry
    refine PySem.W.callWith_K (h₀ := X.base) I1.ok.mod.kin (t.kp f fi hf) (thn ((ha.run O ρ).run pos pins s1 σ H1 (fun vs H2 => spD X.K cl' fi.ps.length (w.f f) (vs ++ []) H2 Q (WE W σ)) I1 (tAs.bind ⟨st1, q1⟩ fun vs ds H2 st s r _ q2 => call_end hcl st r (t.ar f fi ds hf) q2)) fun us s2 ⟨vs, H2, I2, r, q2⟩ => ⟨I2.kIn, ?_⟩) (star_one h1.1 _ _) (star_any h1.2 _ _)
    exact run_fnSD (t.fn f fi hf) hr (t.bd f fi hf) .nil (passAt tk σ) I2 r q2
end
/-! ### a def, by its body -/
theorem startE_get : ∀ (ds : List D) (n i : Nat), getS (startE n (ds.map .sh)) i = (match ds[i]? with
    | some d => .sh d
    | none => .no)
  | [], n, i => by
    show getS (([] : List Sl) ++ List.replicate (n - 0) .no) i = _
    rw [List.nil_append]
    have : ∀ m i, getS (List.replicate m Sl.no) i = .no := fun m => by
      induction m with
      | zero => intro i; rfl
      | succ m ih => intro i; cases i with
        | zero => rfl
        | succ i => exact ih i
    rw [this]; rfl
  | d :: ds, n, 0 => rfl
  | d :: ds, n, i + 1 => by
    show getS (ds.map .sh ++ List.replicate (n - (ds.map Sl.sh).length.succ) .no) i = _
    have := startE_get ds (n - 1) i
    unfold startE at this
    rw [show n - (ds.map Sl.sh).length.succ = n - 1 - (ds.map Sl.sh).length by omega, this]
    rfl
theorem start_get (N : List Str) (vs : List V) (i : Nat) (v : V) (h : vs[i]? = some v) : (L2.start N vs)[i]? = some (some v) := by
  unfold L2.start
  have hi := (List.getElem?_eq_some_iff.mp h).1
  rw [List.getElem?_append_left (by rw [List.length_map]; exact hi), List.getElem?_map, h]
  rfl
/-- a def of the text keeps its promise if its body does -/
theorem fn_sound {cl : Gx} {P : Program} {w0 : World} {K : PySem.W.Frag} {mg : Str → Option Value} {base : Heap} {k : Nat} {f : Addr} {name qual : Str} {params : Arguments} {body : List Stmt} {scope : Scope} {dV kV doc pm cdv ct oc : Value} {an od : Option Addr}
    {osl : Array (Option Value)} {N ps : List Str} {F : Env → Out} {φ : List D → R D} (hx : cl.ex = none) (lk : K.lookup f = some ⟨oc, od, .func (PySem.W.fnOf name qual params body scope dV kV doc pm an cdv ct), osl⟩) (hcd : PySem.W.codeIn K cdv qual = true) (S : FnScope N ps scope)
    (hφ : ∀ ds, ds.length = ps.length → φ ds = endR (F (startE N.length (ds.map .sh)))) (hps : ps.length ≤ N.length)
    (hbody : ∀ (A : Around) (outer : List PySem.Env) (s : Shared) (H : Hp) (E : XK), Room k (A.deeper (envOfC qual scope s.heap.objs.size f cdv)) → DSs (cxOf (L2.CX P w0) P w0 K mg base N qual scope f cdv A outer s H E) cl (fun cls d _ H => E cls d H) body F) :
    FnOk P w0 K mg base (L2.CX P w0) (k + 1) f (PySem.W.fnOf name qual params body scope dV kV doc pm an cdv ct) ps (spD K cl ps.length φ) := by
  refine fn_of lk hcd S (fun vs H Q E h => h.1) fun A outer s H vs Q E hr h => ?_
  obtain ⟨hl, O, ds, odom, r, q⟩ := h
  have hd : ds.length = ps.length := by rw [← r.length]; exact hl
  refine ⟨_, (hbody A outer s H E hr).run O H (startE N.length (ds.map .sh)), ?_, ?_⟩
  · have noown : ∀ i, (getS (startE N.length (ds.map .sh)) i).own = false := fun i => by
      rw [startE_get]
      cases ds[i]? <;> rfl
    refine ⟨Same.refl H, odom, fun a ⟨i, h1, _⟩ => ?_, fun i j a h1 => ?_, fun i => ?_, ?_, fun i a e => ?_⟩
    · rw [noown] at h1; cases h1
    · rw [noown] at h1; cases h1
    · rw [startE_get]
      cases hi : ds[i]? with
      | none => trivial
      | some d =>
        obtain ⟨v, hv, rv⟩ := r.get hi
        refine ⟨v, start_get N vs i v hv, rv.keep (fun a z _ => ?_) fun _ _ _ e => e⟩
        rcases z with z | ⟨i, h1, _⟩
        · exact z
        · rw [noown] at h1; cases h1
    · unfold startE L2.start
      rw [List.length_append, List.length_map, List.length_replicate, List.length_append, List.length_map, List.length_replicate, hl, hd]
    · rw [hx] at e; cases e
  · rw [hφ ds hd] at q
    show SQ K cl O H _ _ _ H _ (F (startE N.length (ds.map .sh)))
    have weak : ∀ {σ' : L2.St} {ρ' : Env} {H' : Hp} {v : V} {d : D}, Rp K (OO O σ' ρ') H' v d → Rp K O H' v d := fun r => r.keep (fun a z _ => .inl z) fun _ _ _ e => e
    cases hF : F (startE N.length (ds.map .sh)) with
    | nx ρ' => rw [hF] at q; exact fun σ' H' n => q .non H' n.st.same .non
    | rt d ρ' => rw [hF] at q; exact fun v σ' H' n r => q v H' n.st.same (weak r)
    | bk ρ' => rw [hF] at q; exact q.elim
    | rz c ρ' => rw [hF] at q; exact fun σ' H' n => q H' n.st.same
    | no => rw [hF] at q; exact q.elim
end Mi

set_option Elab.async false
set_option linter.all false
set_option maxRecDepth 100000
set_option maxHeartbeats 4000000
/-! Mi, soundness 21: a name for a comprehension; try -/
namespace Mi
open PySem L2 PySem.Spec PyProof.Rows
section
variable {X : Cx} {cl cl' : Gx} {w : Cl} {W W' : WX} {tg iter elt e : Expr} {ifs : List Expr} {fi fc fe : Env → R D} {pos spos py p pos' : Pos}
/-- name = [..] -/
theorem ds_setLc {g : Tg} {scope : Scope} {own : List (Str × Nat)} {i : Nat} {y : Str} (hx : cl.ex = none) (hc : X.calm = true) (hN : X.N.Nodup) (hy : X.N[i]? = some y) (hyl : X.env.scope.names.lookup y = some .local)
    (hsw : swapsWith (.ListComp elt [⟨tg, iter, ifs, 0⟩] scope pos) (some (.Name y py)) spos.line X.env = pure true) (hi : DI X cl W tg iter fi) (ok : BlkOk X.N X.env.scope scope own) (how : own.map (·.2) = g.ix)
    (hg : ∀ (s : Shared) (H : Hp) (C : Addr) (cs : List (Str × Addr)) (fp : List Addr), DG (X.blk s H scope (compEnvC scope cs C X.env) fp) tg g)
    (ht : ∀ (s : Shared) (H : Hp) (C : Addr) (cs : List (Str × Addr)) (fp : List Addr), DTs (X.blk s H scope (compEnvC scope cs C X.env) fp) cl W' ifs fc)
    (he : ∀ (s : Shared) (H : Hp) (C : Addr) (cs : List (Str × Addr)) (fp : List Addr), DE (X.blk s H scope (compEnvC scope cs C X.env) fp) cl W' elt fe)
    (hs : ∀ x, foldedSetIterable iter X.env x = pure x) :
    DS X cl W (.Assign [.Name y py] (.ListComp elt [⟨tg, iter, ifs, 0⟩] scope pos) spos) fun ρ => ((fi ρ).bind fun x => (lstR x).bind fun xs => ((lcR (lcF fc fe g ρ) xs).calm).bind fun ys => .ok (.lst ys)).out ρ fun d => .nx (setS ρ i (.sh d)) :=
  ⟨fun O H0 ρ => (ps_setLc hc hN hy hyl hsw (hi.run O ρ) ok (fun s H C cs fp => (hg s H C cs fp).run) (fun s H C cs fp => pts_ex fun p : AP_ × Env => (ht s H C cs fp).run p.1 p.2) (fun s H C cs fp => pe_ex fun p : AP_ × Env => (he s H C cs fp).run p.1 p.2) hs).imp fun E σ H q => by
    have q : tE X.K cl O W ρ ((fi ρ).bind fun x => (lstR x).bind fun xs => ((lcR (lcF fc fe g ρ) xs).calm).bind fun ys => .ok (.lst ys)) σ H (fun v H1 => gName i v σ H1 E.nx) :=
      tE.out q.1 q.2 fun v d H1 st s r _ q1 => q1 _ _ ⟨st.sh (no_of hx) r, keep_sub (st.sh (no_of hx) r).e (oo_set st.len rfl)⟩
    show tLc _ _ _ _ (own.map (·.2)) σ H (fun v H1 => gName i v σ H1 E.nx)
    rw [how]
    refine ⟨q.1, ?_⟩
    have q2 := q.2
    cases hf : fi ρ with
    | rz c => rw [hf] at q2; exact q2
    | no => rw [hf] at q2; exact q2.elim
    | ok d =>
      rw [hf] at q2
      cases d <;> first | exact q2.elim | skip
      rename_i ds
      replace q2 : RQ X.K cl O W ρ σ H (fun v H1 => gName i v σ H1 E.nx) (((lcR (lcF fc fe g ρ) ds).calm).bind fun ys => .ok (.lst ys)) := q2
      intro J H1 s1 srv hz D0 hD
      cases hl : lcR (lcF fc fe g ρ) ds with
      | rz c => rw [hl] at q2; exact q2.elim
      | no => rw [hl] at q2; exact q2.elim
      | ok ys =>
        rw [hl] at q2
        exact lc_go (cl := cl) (W' := W') hx (q.1.more s1) srv hz hD hl fun H' s' r => q2 _ H' (s1.trans s') r⟩
/-! ### isinstance(e, C) within an except suite -/
theorem de_isx {i c xc : Nat} {a : Addr} {oe : Obj} {pn : List (Addr × Obj)} {xi xe xC : Str} {p1 p2 p3 : Pos} (hex : cl.ex = some (i, a)) (hxw : w.x = some xc) (C : ExcC X.K (cl.cl xc)) (hz : Zc (.ref (cl.cl xc)) none oe) (hf : ∃ vs, oe.data = .fields vs)
    (hk : PySem.W.kitOne X.K (.ref (cl.cl xc)) (.ref (cl.cl c)) = some (isSub c xc))
    (hg : Gl (X.suite a ((a, oe) :: pn)) xi) (hm : X.mg xi = none) (hv : bootBuiltins xi = some (.builtin "isinstance")) (hn : xi ≠ "__name__") (hdb : (xi == ("__debug__" : Str)) = false)
    (hN : X.N[i]? = some xe) (hve : Vis X.env.scope xe) (hdb2 : (xe == ("__debug__" : Str)) = false) (hcd : (xe == ("__classdict__" : Str)) = false)
    (hgC : Gl (X.suite a ((a, oe) :: pn)) xC) (hmC : X.mg xC = some (.ref (cl.cl c))) (hdb3 : (xC == ("__debug__" : Str)) = false) :
    DE (X.suite a ((a, oe) :: pn)) cl W (.Call (.Name xi p1) [.Name xe p2, .Name xC p3] [] pos) fun ρ => match w.x with
      | some x => .ok (.bl (isSub c x))
      | none => .no :=
  ⟨fun O ρ => (pe_callB (X := X.suite a ((a, oe) :: pn)) (call_isE C hz hf) hg hm hv (pa_cons (pe_var hN hve hdb2 hcd) (pa_cons (pe_glob (v := .ref (cl.cl c)) hgC hmC rfl hdb3) pa_nil (star_one rfl _ _)) (star_one rfl _ _)) hn hdb (star_one rfl _ _)).imp fun σ H Q q => by
    obtain ⟨st, q⟩ := q
    rw [hxw] at q
    refine ⟨.ref a, st.z i a hex, .ref (cl.cl c), .ref (cl.cl c), isSub c xc, rfl, fun u hu => hu, hk, q _ H (Same.refl H) (.bl _)⟩⟩
end
section
variable {K : PySem.W.Frag} {cl : Gx} {O : AP_} {H0 H H' : Hp} {σ σ' : L2.St} {ρ ρ' : Env}
theorem own_noSet {i : Nat} {z : Option V} (hl : ρ.length = σ.length) : ∀ {j : Nat} {a : Addr}, (getS (setS ρ i .no) j).own = true → (σ.set i z)[j]? = some (some (.ref a)) → (getS ρ j).own = true ∧ σ[j]? = some (some (.ref a)) := fun {j a} h1 h2 => by
  by_cases e : i = j
  · subst e
    by_cases hi : i < ρ.length
    · rw [getS_self hi] at h1; cases h1
    · rw [getS_len _ _ (by rw [setS_len]; omega)] at h1; cases h1
  · rw [getS_ne e] at h1
    rw [List.getElem?_set_ne e] at h2
    exact ⟨h1, h2⟩
/-- a slot is emptied in what is known, whatever is put there -/
theorem StR.forget {i : Nat} {z : Option V} {cl' : Gx} (st : StR K cl O H0 σ H ρ) (hz : ∀ j a, cl'.ex = some (j, a) → (σ.set i z)[j]? = some (some (.ref a))) : StR K cl' O H0 (σ.set i z) H (setS ρ i .no) := by
  have ho := oo_set (O := O) (i := i) (z := z) (y := .no) st.len rfl
  refine ⟨st.same, st.odom, fun a h => st.own a (own_set st.len rfl a h), fun j k a h1 h2 h3 h4 => ?_, fun j => ?_, by rw [setS_len, List.length_set]; exact st.len, hz⟩
  · obtain ⟨a1, a2⟩ := own_noSet st.len h1 h3
    obtain ⟨b1, b2⟩ := own_noSet st.len h2 h4
    exact st.inj j k a a1 b1 a2 b2
  · by_cases e : i = j
    · subst e
      by_cases hi : i < ρ.length
      · rw [getS_self hi]; trivial
      · rw [getS_len _ _ (by rw [setS_len]; omega)]; trivial
    · rw [getS_ne e, List.getElem?_set_ne e]
      exact (st.sl j).keep (fun a z _ => ho a z) (fun _ _ _ q => q) fun _ _ _ => rfl
end
/-- what a try gives: its body's end, or that of the suite -/
def tryO (i : Nat) (b : Out) (h : Nat → Env → Out) : Out := match b with
  | .rz c ρ' => if i < ρ'.length then match h c (setS ρ' i .no) with
      | .nx ρ2 => .nx (setS ρ2 i .no)
      | .rt d ρ2 => .rt d (setS ρ2 i .no)
      | _ => .no
    else .no
  | o => o
section
variable {X : Cx} {cl : Gx} {W : WX}
theorem ds_try {i : Nat} {x n : Str} {C : Value} {body suite : List Stmt} {b₀ : Stmt} {np pos pos' : Pos} {fb : Env → Out} {fh : Nat → Env → Out} (hx : cl.ex = none) (hs : X.stack = X.env :: X.outer) (hfr : X.env.frame = some X.env.locals) (hN : X.N.Nodup) (hi : X.N[i]? = some n) (hln : X.env.kindOf n = some .local) (hc : Names X x C) (tk : Takes X W)
    (hsub : ∀ c, PySem.W.exmOne X.K (.ref (cl.cl c)) C = some true)
    (hb : ∀ (W' : WX) (pn : List (Addr × Obj)) (xe : Value → Shared → Prop), Takes (X.tr pn xe) W' → PassesOwn (model X.prog X.w) X.A X.env xe → DSs (X.tr pn xe) cl W' body fb)
    (hsu : ∀ (c : Nat) (a : Addr) (oe : Obj) (pn : List (Addr × Obj)), Zc (.ref (cl.cl c)) none oe → (∃ vs, oe.data = .fields vs) → DSs (X.suite a ((a, oe) :: pn)) ⟨cl.cl, some (i, a)⟩ (fun _ _ _ _ => False) (b₀ :: suite) (fh c)) :
    DS X cl W (.Try body [.ExceptHandler (some (.Name x np)) (some n) (b₀ :: suite) pos'] [] [] pos) fun ρ => tryO i (fb ρ) fh :=
  ⟨fun O H0 ρ => (ps_try_as (tb := fun W' => tS X.K cl O H0 W' ρ (fb ρ)) (ts := fun a cls d E σ H => ∃ (c : Nat) (p : AP_ × Hp × Env), cls = .ref (cl.cl c) ∧ d = none ∧ tS X.K ⟨cl.cl, some (i, a)⟩ p.1 p.2.1 (fun _ _ _ _ => False) p.2.2 (fh c p.2.2) E σ H)
      hs hfr hN hi hln hc tk (fun W' pn xe h1 h2 => (hb W' pn xe h1 h2).run O H0 ρ) (fun a oe cls d pn hz hf => ⟨fun pins s σ H E I q => by
        obtain ⟨c, p, rfl, rfl, q⟩ := q
        exact ((hsu c a oe pn hz hf).run p.1 p.2.1 p.2.2).run pins s σ H E I q⟩)).imp fun E σ H q => by
    obtain ⟨st, q⟩ := q
    refine ⟨st, ?_⟩
    cases hfb : fb ρ with
    | nx ρ' => rw [hfb] at q; exact q
    | rt d ρ' => rw [hfb] at q; exact q
    | bk ρ' => rw [hfb] at q; exact q
    | no => rw [hfb] at q; exact q.elim
    | rz c ρ' =>
      rw [hfb] at q
      replace q : SQ X.K cl O H0 W ρ σ H E (if i < ρ'.length then match fh c (setS ρ' i .no) with
        | .nx ρ2 => Out.nx (setS ρ2 i .no)
        | .rt d ρ2 => .rt d (setS ρ2 i .no)
        | _ => .no
      else .no) := q
      intro σ1 H1 n1
      refine ⟨true, hsub c, fun _ a ha => ?_, fun h => by cases h⟩
      by_cases hl : i < ρ'.length
      · rw [if_pos hl] at q
        have hl' : i < σ1.length := by rw [← n1.st.len]; exact hl
        have st2 : StR X.K ⟨cl.cl, some (i, a)⟩ O H0 (σ1.set i (some (.ref a))) H1 (setS ρ' i .no) := n1.st.forget fun j b e => by
          cases e
          exact List.getElem?_set_self hl'
        refine ⟨c, (O, H0, setS ρ' i .no), rfl, rfl, st2, ?_⟩
        have back : ∀ {ρ2 : Env} {σ2 : L2.St} {H2 : Hp}, Nxt X.K ⟨cl.cl, some (i, a)⟩ O H0 (setS ρ' i .no) (σ1.set i (some (.ref a))) H1 ρ2 σ2 H2 → Nxt X.K cl O H0 ρ σ H (setS ρ2 i .no) (σ2.set i none) H2 := fun {ρ2 σ2 H2} m => by
          have st3 : StR X.K cl O H0 (σ2.set i none) H2 (setS ρ2 i .no) := m.st.forget fun j b e => by rw [hx] at e; cases e
          refine ⟨st3, (n1.kp.trans ?_).trans (m.kp.trans ?_)⟩
          · exact keep_sub st2.e (oo_set n1.st.len rfl)
          · exact keep_sub (cl := cl) st3.e (oo_set m.st.len rfl)
        show SQ X.K ⟨cl.cl, some (i, a)⟩ O H0 _ (setS ρ' i .no) (σ1.set i (some (.ref a))) H1 _ (fh c (setS ρ' i .no))
        cases hh : fh c (setS ρ' i .no) with
        | nx ρ2 => rw [hh] at q; exact fun σ2 H2 m => q _ _ (back m)
        | rt d ρ2 =>
          rw [hh] at q
          exact fun v σ2 H2 m r => q v _ _ (back m) (r.keep (fun a z _ => oo_set m.st.len rfl a z) fun _ _ _ e => e)
        | bk ρ2 => rw [hh] at q; exact q.elim
        | rz c ρ2 => rw [hh] at q; exact q.elim
        | no => rw [hh] at q; exact q.elim
      · rw [if_neg hl] at q; exact q.elim⟩
end
end Mi

set_option Elab.async false
set_option linter.all false
set_option maxRecDepth 100000
set_option maxHeartbeats 4000000
/-! Mi, the checker 1: what is known, side conditions -/
namespace Mi
open PySem L2 PySem.Spec PyProof.Rows

/-- what a name of the module is: a def; a class; a constant; a built-in -/
inductive GV where
  | fn (n : Nat)
  | cls (c : Nat)
  | con (d : D)
  | bt
structure Ck where
  G : List (Str × GV)
  N : List Str
  nm : List (Str × NameKind)
  calm : Bool
  ex : Option Nat
def debugS : Str := "__debug__"
def nameS : Str := "__name__"
def cdictS : Str := "__classdict__"
def isVis : Option NameKind → Bool
  | some .local => true
  | some .cell => true
  | some .free => true
  | _ => false
def isLoc : Option NameKind → Bool
  | some .local => true
  | some .cell => true
  | _ => false
def isGlo : Option NameKind → Bool
  | some .globalImplicit => true
  | _ => false
def isBt : Option GV → Bool
  | some .bt => true
  | _ => false
namespace Ck
variable (ck : Ck)
def var (i : Nat) (x : Str) : Bool := decide (ck.N[i]? = some x) && isVis (ck.nm.lookup x) && !(x == debugS) && !(x == cdictS)
def loc (i : Nat) (x : Str) : Bool := decide (ck.N[i]? = some x) && isLoc (ck.nm.lookup x)
def glo (x : Str) : Bool := isGlo (ck.nm.lookup x) && !(x == debugS)
/-- the built-in of that name -/
def bt (y x : Str) : Bool := decide (x = y) && ck.glo x && isBt (ck.G.lookup x) && !(x == nameS)
end Ck
/-- what is promised of the exception classes, of names -/
def RaisesK (K : PySem.W.Frag) (cls : Value) : Prop := ∀ (M : Model) (h : Heap), K.In h → PySem.W.Looks M h (isSubtype cls (.type "BaseException")) true ∧ PySem.W.Looks M h (typeOf cls) (.type "type")
def ClsOk (K : PySem.W.Frag) (a : Addr) : Prop := ∃ (bmB : List Value) (B newId initId : String), ExcBaseFacts B newId initId bmB ∧ PySem.W.excIn K a bmB newId = true ∧ PySem.W.keepIn K (.ref a) = true ∧ RaisesK K (.ref a)
def GVOk (K : PySem.W.Frag) (mg : Str → Option Value) (cn : Nat → Addr) (tb : Nat → Option FI) (x : Str) : GV → Prop
  | .fn n => ∃ fi, tb n = some fi ∧ mg x = some (.ref fi.ad)
  | .cls c => mg x = some (.ref (cn c)) ∧ ClsOk K (cn c)
  | .con d => ∃ u v, mg x = some u ∧ RelV v u ∧ ∀ O H, Rp K O H v d
  | .bt => mg x = none
def NmOk (X : Cx) (x : Str) : NameKind → Prop
  | .local => X.env.scope.names.lookup x = some .local
  | .cell => X.env.scope.names.lookup x = some .cell ∧ X.fn x = true
  | .free => X.env.scope.names.lookup x = some .cell ∨ X.env.scope.names.lookup x = some .free
  | .globalImplicit => X.env.scope.names.lookup x = some .globalImplicit
  | .globalExplicit => True
/-- the suite of an except, its exception at slot i -/
structure SuOk (G : List (Str × GV)) (X : Cx) (cl : Gx) (w : Cl) (i : Nat) : Prop where
  ex : ∃ (X0 : Cx) (a : Addr) (oe : Obj) (pn : List (Addr × Obj)) (xc : Nat), X = X0.suite a ((a, oe) :: pn) ∧ cl.ex = some (i, a) ∧ w.x = some xc ∧ ExcC X.K (cl.cl xc) ∧ Zc (.ref (cl.cl xc)) none oe ∧ (∃ vs, oe.data = .fields vs) ∧
    ∀ z c, G.lookup z = some (.cls c) → PySem.W.kitOne X.K (.ref (cl.cl xc)) (.ref (cl.cl c)) = some (isSub c xc)
structure EOk (ck : Ck) (k : Nat) (tb : Nat → Option FI) (X : Cx) (cl : Gx) (w : Cl) (W : WX) : Prop where
  N : X.N = ck.N
  nd : X.N.Nodup
  nm : ∀ x k, ck.nm.lookup x = some k → NmOk X x k
  g : ∀ x g, ck.G.lookup x = some g → GVOk X.K X.mg cl.cl tb x g
  cm : ck.calm = true → X.calm = true ∧ Room k X.A ∧ cl.ex = none ∧ Takes X W
  tok : ∃ cl', cl'.cl = cl.cl ∧ TOk X.prog X.w X.K X.mg X.base k cl' w tb
  su : ∀ i, ck.ex = some i → SuOk ck.G X cl w i
  un : X.A.units + 65 < cLine
  no : ∀ i, ck.ex ≠ some i → cl.no i
section
variable {ck : Ck} {k : Nat} {tb : Nat → Option FI} {X : Cx} {cl : Gx} {w : Cl} {W : WX}
namespace EOk
theorem calm (E : EOk ck k tb X cl w W) (h : ck.calm = true) : X.calm = true := (E.cm h).1
theorem room (E : EOk ck k tb X cl w W) (h : ck.calm = true) : Room k X.A := (E.cm h).2.1
theorem hx (E : EOk ck k tb X cl w W) (h : ck.calm = true) : cl.ex = none := (E.cm h).2.2.1
theorem tk (E : EOk ck k tb X cl w W) (h : ck.calm = true) : Takes X W := (E.cm h).2.2.2
theorem un1 (E : EOk ck k tb X cl w W) : X.A.units + 1 < cLine := by
  have := E.un
  omega
theorem var (E : EOk ck k tb X cl w W) {i : Nat} {x : Str} (h : ck.var i x = true) : X.N[i]? = some x ∧ Vis X.env.scope x ∧ (x == ("__debug__" : Str)) = false ∧ (x == ("__classdict__" : Str)) = false := by
  unfold Ck.var at h
  simp only [Bool.and_eq_true, decide_eq_true_eq, Bool.not_eq_true'] at h
  obtain ⟨⟨⟨h1, h2⟩, h3⟩, h4⟩ := h
  refine ⟨by rw [E.N]; exact h1, ?_, h3, h4⟩
  cases hl : ck.nm.lookup x with
  | none => rw [hl] at h2; cases h2
  | some kd =>
    rw [hl] at h2
    have q := E.nm x kd hl
    cases kd with
    | «local» => exact .inl q
    | cell => exact .inr (.inl q.1)
    | free => exact q.elim (fun q => .inr (.inl q)) fun q => .inr (.inr q)
    | globalExplicit => cases h2
    | globalImplicit => cases h2
theorem loc (E : EOk ck k tb X cl w W) {i : Nat} {x : Str} (h : ck.loc i x = true) : X.N[i]? = some x ∧ Loc X.env.scope x ∧ (X.fn x = true ∨ X.env.scope.names.lookup x = some .local) := by
  unfold Ck.loc at h
  simp only [Bool.and_eq_true, decide_eq_true_eq] at h
  obtain ⟨h1, h2⟩ := h
  refine ⟨by rw [E.N]; exact h1, ?_⟩
  cases hl : ck.nm.lookup x with
  | none => rw [hl] at h2; cases h2
  | some kd =>
    rw [hl] at h2
    have q := E.nm x kd hl
    cases kd with
    | «local» => exact ⟨.inl q, .inr q⟩
    | cell => exact ⟨.inr q.1, .inl q.2⟩
    | free => cases h2
    | globalExplicit => cases h2
    | globalImplicit => cases h2
theorem glo (E : EOk ck k tb X cl w W) {x : Str} (h : ck.glo x = true) : Gl X x ∧ (x == ("__debug__" : Str)) = false := by
  unfold Ck.glo at h
  simp only [Bool.and_eq_true, Bool.not_eq_true'] at h
  refine ⟨?_, h.2⟩
  have h2 := h.1
  cases hl : ck.nm.lookup x with
  | none => rw [hl] at h2; cases h2
  | some kd =>
    rw [hl] at h2
    have q := E.nm x kd hl
    cases kd <;> first | exact q | cases h2
theorem bt (E : EOk ck k tb X cl w W) {x y : Str} (h : ck.bt y x = true) : x = y ∧ Gl X x ∧ X.mg x = none ∧ x ≠ "__name__" ∧ (x == ("__debug__" : Str)) = false := by
  unfold Ck.bt at h
  simp only [Bool.and_eq_true, decide_eq_true_eq, Bool.not_eq_true'] at h
  obtain ⟨⟨⟨h1, h2⟩, h3⟩, h4⟩ := h
  refine ⟨h1, (E.glo h2).1, ?_, fun e => ?_, (E.glo h2).2⟩
  · cases hg : ck.G.lookup x with
    | none => rw [hg] at h3; cases h3
    | some g =>
      rw [hg] at h3
      have q := E.g x g hg
      cases g <;> first | exact q | cases h3
  · have e2 : x = nameS := e
    rw [e2] at h4
    rw [beq_self_eq_true] at h4
    cases h4
end EOk
/-- a block's own context -/
theorem relS_free {sc : Scope} : ∀ {names : List (Str × NameKind)} {x : Str}, names.lookup x = some .free →
    (names.map fun (n, k) => if (k == NameKind.free && sc.kind == .function && sc.names.lookup n == some .cell) then (n, NameKind.cell) else (n, k)).lookup x = some .cell ∨ (names.map fun (n, k) => if (k == NameKind.free && sc.kind == .function && sc.names.lookup n == some .cell) then (n, NameKind.cell) else (n, k)).lookup x = some .free
  | [], _, h => by simp at h
  | (n, k₀) :: r, x, h => by
    have ih := @relS_free sc r x
    simp only [List.map_cons]
    cases hx : x == n with
    | true =>
      simp only [List.lookup_cons, hx] at h
      cases h
      by_cases hc : ((NameKind.free == NameKind.free && sc.kind == .function && sc.names.lookup n == some .cell) = true)
      · rw [if_pos hc]; simp only [List.lookup_cons, hx]; exact .inl trivial
      · rw [if_neg hc]; simp only [List.lookup_cons, hx]; exact .inr trivial
    | false =>
      simp only [List.lookup_cons, hx] at h
      by_cases hc : (k₀ == NameKind.free && sc.kind == .function && sc.names.lookup n == some .cell) = true
      · rw [if_pos hc]; simp only [List.lookup_cons, hx]; exact ih h
      · rw [if_neg hc]; simp only [List.lookup_cons, hx]; exact ih h
def Ck.blk (ck : Ck) (scope : Scope) : Ck := { ck with nm := scope.names, ex := none }
theorem EOk.blk (E : EOk ck k tb X cl w W) (hc : ck.calm = true) (scope : Scope) (s : Shared) (H : Hp) (C : Addr) (cs : List (Str × Addr)) (fp : List Addr) :
    EOk (ck.blk scope) k tb (X.blk s H scope (compEnvC scope cs C X.env) fp) cl w (fun _ _ _ _ => False) := by
  refine ⟨E.N, E.nd, fun x kd h => ?_, E.g, fun _ => ⟨E.calm hc, E.room hc, E.hx hc, fun u s' ⟨_, _, _, _, _, _, _, _, _, _, _, _, _, _, _, _, z⟩ => z.elim⟩, E.tok, (fun i h => by cases h), E.un, fun i _ => no_of (E.hx hc)⟩
  have h : scope.names.lookup x = some kd := h
  cases kd with
  | «local» => exact lookup_relS_keep (sc := X.env.scope) (by decide) h
  | cell => exact ⟨lookup_relS_keep (sc := X.env.scope) (by decide) h, by show (scope.names.lookup x == some .cell) = true; rw [h]; rfl⟩
  | free => exact relS_free (sc := X.env.scope) h
  | globalExplicit => trivial
  | globalImplicit => exact lookup_relS_keep (sc := X.env.scope) (by decide) h
theorem EOk.blkOk (E : EOk ck k tb X cl w W) {scope : Scope} {own : List (Str × Nat)} {more : List (Str × Const)} (h : blkC ck.N ⟨.function, ck.nm, false, false, more⟩ scope own = true) : BlkOk X.N X.env.scope scope own := by
  have b := blkOk_by h
  rw [E.N]
  refine ⟨b.kind, b.uniq, b.ix, fun y hy e => ?_, b.own⟩
  rcases b.free y hy e with q | q
  · exact .inl (E.nm y.1 .cell q).1
  · exact E.nm y.1 .free q
end
/-! ### the shapes -/
def plainT : Expr → Bool
  | .UnaryOp .Not _ _ => false
  | .BoolOp _ _ _ => false
  | .IfExp _ _ _ _ => false
  | .Compare _ _ _ _ => false
  | _ => true
theorem plainT_is {e : Expr} {env : PySem.Env} (h : plainT e = true) (whole : Sem Value) : isTrue e env whole = (do let v ← whole; standAt e.pos; holding [v] (truthy v)) := by
  cases e with
  | UnaryOp o x p => cases o <;> first | rfl | cases h
  | BoolOp => cases h
  | IfExp => cases h
  | Compare => cases h
  | _ => rfl
def plainSw : Expr → Bool
  | .ListComp _ _ _ _ => false
  | .SetComp _ _ _ _ => false
  | .DictComp _ _ _ _ _ => false
  | _ => true
theorem plainSw_is {e : Expr} (h : plainSw e = true) (t : Option Expr) (n : Nat) (env : PySem.Env) : swapsWith e t n env = pure false := by
  cases e <;> first | rfl | cases h
def plainIxB : Expr → Bool
  | .Slice _ _ _ _ => false
  | _ => true
theorem plainIxB_is {e : Expr} (h : plainIxB e = true) : PlainIx e := plainIx_of (by cases e <;> first | rfl | cases h)
def baseOk : Expr → Bool
  | .Call (.Name _ _) [] [] _ => false
  | _ => true
theorem baseOk_is {e : Expr} {env : PySem.Env} (h : baseOk e = true) (name : Str) (whole : Sem Value) : attributeBase e name env whole = whole := by
  cases e with
  | Call f as ks p =>
    cases f <;> cases as <;> cases ks <;> first | rfl | cases h
  | _ => rfl
def plainFs : Expr → Bool
  | .Set _ _ _ => false
  | _ => true
theorem plainFs_is {e : Expr} (h : plainFs e = true) (env : PySem.Env) (x : Value) : foldedSetIterable e env x = pure x := by
  cases e <;> first | rfl | cases h
end Mi

set_option Elab.async false
set_option linter.all false
set_option maxRecDepth 100000
set_option maxHeartbeats 4000000
/-! Mi, the checker 2: the shapes of expressions -/
namespace Mi
open PySem L2 PySem.Spec PyProof.Rows
inductive Md where
  | e (x : Expr)
  | b (x : Expr)
  | t (x : Expr)
  | w (op : BoolOp) (es : List Expr)
  | we (op : BoolOp) (es : List Expr)
  | a (es : List Expr)
  | i (tg x : Expr)
  | r (x : Expr)
/-- what a mode says of f -/
def Sd (X : Cx) (cl : Gx) (W : WX) (f : Env → R D) : Md → Prop
  | .e x => DE X cl W x f
  | .b x => DB X cl W x f
  | .t x => DT X cl W x f
  | .w op es => ∀ pos, DW X cl W (.BoolOp op es pos) f
  | .we op es => ∀ pos, DE X cl W (.BoolOp op es pos) f
  | .a es => DA X cl W es f
  | .i tg x => DI X cl W tg x f
  | .r x => DRg X cl W x f
def md (m : Md) (E T : Expr → Bool) : Bool := match m with
  | .e x => E x
  | .b x => E x
  | .t x => T x
  | .w _ [y] => T y
  | .we _ [y] => E y
  | _ => false
def md1 (m : Md) (E : Expr → Bool) : Bool := md m E fun x => plainT x && E x
section
variable {ck : Ck} {k : Nat} {tb : Nat → Option FI} {X : Cx} {cl : Gx} {w : Cl} {W : WX} {f fa fb fc fd : Env → R D}
theorem md_ok {m : Md} {E T : Expr → Bool} (hE : ∀ x, E x = true → DE X cl W x f) (hT : ∀ x, T x = true → DT X cl W x f) (h : md m E T = true) : Sd X cl W f m := by
  unfold md at h
  split at h
  · exact hE _ h
  · exact (hE _ h).db
  · exact hT _ h
  · rename_i op y
    intro pos
    cases op with
    | And => exact dw_and1 (hT _ h)
    | Or => exact dw_or1 (hT _ h)
  · intro pos
    exact de_one (hE _ h)
  · cases h
theorem md1_ok {m : Md} {E : Expr → Bool} (hE : ∀ x, E x = true → DE X cl W x f) (h : md1 m E = true) : Sd X cl W f m := by
  refine md_ok hE (fun x hx => ?_) h
  rw [Bool.and_eq_true] at hx
  exact dt_val (hE x hx.2) fun whole => plainT_is hx.1 whole
/-- what is known of a part -/
abbrev PartOk (X : Cx) (cl : Gx) (W : WX) (c : Md → Bool) (f : Env → R D) : Prop := ∀ m, c m = true → Sd X cl W f m

/-! ### constants -/
def okStr (x : List Nat) : Bool := decide (x.length ≤ LIM) && x.all fun c => decide (c < 0x110000)
theorem okStr_is {x : List Nat} (h : okStr x = true) : OkS x := by
  unfold okStr at h
  simp only [Bool.and_eq_true, decide_eq_true_eq, List.all_eq_true] at h
  exact ⟨by rw [← lim_eq]; exact h.1, h.2⟩
def flatEq : D → D → Bool
  | .non, .non => true
  | .bl a, .bl b => a == b
  | .int a, .int b => decide (a = b)
  | .str a, .str b => decide (a = b)
  | _, _ => false
theorem flatEq_is {a b : D} (h : flatEq a b = true) : a = b := by
  cases a <;> cases b <;> first | rfl | (cases h; done) | skip
  · rename_i x y; cases x <;> cases y <;> first | rfl | cases h
  · rename_i x y; rw [show x = y from of_decide_eq_true h]
  · rename_i x y; rw [show x = y from of_decide_eq_true h]
def constOk : Const → D → Bool
  | .none, .non => true
  | .bool a, .bl b => a == b
  | .int a, .int b => decide (a = b)
  | .str s, .str x => decide (s = toS x) && okStr x
  | _, _ => false
def kOk (ck : Ck) (d : D) : Expr → Bool
  | .Constant c _ _ => constOk c d
  | .Name x _ => ck.glo x && (match ck.G.lookup x with
    | some (.con d') => flatEq d d'
    | _ => false)
  | _ => false
theorem kOk_is (E : EOk ck k tb X cl w W) {d : D} {e : Expr} (h : kOk ck d e = true) : DE X cl W e fun _ => .ok d := by
  unfold kOk at h
  split at h
  · rename_i c _ _
    cases c <;> cases d <;> first | (cases h; done) | skip
    · exact de_const pe_non fun O H => .non
    · rename_i x y
      have : x = y := by cases x <;> cases y <;> first | rfl | cases h
      subst this
      exact de_const pe_bl fun O H => .bl _
    · rename_i x y
      have : x = y := of_decide_eq_true h
      subst this
      exact de_const pe_int fun O H => .int _
    · rename_i s x
      unfold constOk at h
      simp only [Bool.and_eq_true, decide_eq_true_eq] at h
      obtain ⟨rfl, h⟩ := h
      exact de_const pe_str fun O H => .str _ (okStr_is h)
  · rename_i x _
    rw [Bool.and_eq_true] at h
    obtain ⟨h1, h2⟩ := h
    obtain ⟨hg, hdb⟩ := E.glo h1
    split at h2
    · rename_i d' hl
      have := flatEq_is h2
      subst this
      obtain ⟨u, v, hm, r, rp⟩ := E.g _ _ hl
      exact de_const (pe_glob hg hm r hdb) rp
    · cases h2
  · cases h
def vOk (ck : Ck) (i : Nat) : Expr → Bool
  | .Name x _ => ck.var i x
  | _ => false
theorem vOk_is (E : EOk ck k tb X cl w W) {i : Nat} {e : Expr} (h : vOk ck i e = true) : DE X cl W e fun ρ => slD (getS ρ i) := by
  unfold vOk at h
  split at h
  · obtain ⟨h1, h2, h3, h4⟩ := E.var h
    exact de_var h1 h2 h3 h4
  · cases h
theorem vOk_own (E : EOk ck k tb X cl w W) {i : Nat} {e : Expr} (h : vOk ck i e = true) : DB X cl W e fun ρ => slO (getS ρ i) := by
  unfold vOk at h
  split at h
  · obtain ⟨h1, h2, h3, h4⟩ := E.var h
    exact db_own h1 h2 h3 h4
  · cases h
/-! ### lists of expressions -/
def nilM : Md → Bool
  | .a [] => true
  | _ => false
theorem nilM_is {m : Md} (h : nilM m = true) : Sd X cl W (fun _ => .ok (.lst [])) m := by
  unfold nilM at h
  split at h
  · exact da_nil
  · cases h
def consM (ca cb : Md → Bool) : Md → Bool
  | .a (x :: xs) => plainE x && ca (.e x) && cb (.a xs)
  | _ => false
theorem consM_is {ca cb : Md → Bool} (ha : PartOk X cl W ca fa) (hb : PartOk X cl W cb fb) {m : Md} (h : consM ca cb m = true) : Sd X cl W (fun ρ => (fa ρ).bind fun x => (fb ρ).bind fun y => (lstR y).bind fun ys => .ok (.lst (x :: ys))) m := by
  unfold consM at h
  split at h
  · simp only [Bool.and_eq_true] at h
    exact da_cons (ha _ h.1.2) (hb _ h.2) (star_one h.1.1 _ _)
  · cases h
def tupE (ca : Md → Bool) : Expr → Bool
  | .Tuple es _ _ => ca (.a es)
  | _ => false
theorem tupE_is {ca : Md → Bool} (ha : PartOk X cl W ca fa) {e : Expr} (h : tupE ca e = true) : DE X cl W e fun ρ => (fa ρ).bind fun x => (lstR x).bind fun xs => mkT xs := by
  unfold tupE at h
  split at h
  · exact de_tup (ha _ h)
  · cases h
def lstE (ca : Md → Bool) : Expr → Bool
  | .List es _ => ca (.a es)
  | _ => false
theorem lstE_is {ca : Md → Bool} (ha : PartOk X cl W ca fa) {e : Expr} (h : lstE ca e = true) : DE X cl W e fun ρ => (fa ρ).bind fun x => (lstR x).bind fun xs => mkL xs := by
  unfold lstE at h
  split at h
  · exact de_lst (ha _ h)
  · cases h
/-! ### operations -/
def opOk : Op → Operator → Bool
  | .add, .Add => true
  | .sub, .Sub => true
  | .mul, .Mult => true
  | .div, .FloorDiv => true
  | .mod, .Mod => true
  | .pow, .Pow => true
  | _, _ => false
theorem opOk_is {o : Op} {p : Operator} (h : opOk o p = true) : OpD X (binaryOp p) (opR o) := by
  unfold opOk at h
  split at h
  · exact opD_add
  · exact opD_sub
  · exact opD_mul
  · exact opD_div
  · exact opD_mod
  · exact opD_pow
  · cases h
def binE (o : Op) (ca cb : Md → Bool) : Expr → Bool
  | .BinOp x p y _ => opOk o p && ca (.e x) && cb (.e y)
  | _ => false
theorem binE_is {o : Op} {ca cb : Md → Bool} (ha : PartOk X cl W ca fa) (hb : PartOk X cl W cb fb) {e : Expr} (h : binE o ca cb e = true) : DE X cl W e fun ρ => (fa ρ).bind fun x => (fb ρ).bind fun y => opR o x y := by
  unfold binE at h
  split at h
  · simp only [Bool.and_eq_true] at h
    exact de_op (opOk_is h.1.1) (ha _ h.1.2) (hb _ h.2)
  · cases h
def negE (ca : Md → Bool) : Expr → Bool
  | .UnaryOp .USub x _ => ca (.e x)
  | _ => false
theorem negE_is {ca : Md → Bool} (ha : PartOk X cl W ca fa) {e : Expr} (h : negE ca e = true) : DE X cl W e fun ρ => (fa ρ).bind negR := by
  unfold negE at h
  split at h
  · exact de_un unD_neg (ha _ h)
  · cases h
def notE (ca : Md → Bool) : Expr → Bool
  | .UnaryOp .Not x _ => ca (.e x)
  | _ => false
theorem notE_is {ca : Md → Bool} (ha : PartOk X cl W ca fa) {e : Expr} (h : notE ca e = true) : DE X cl W e fun ρ => (fa ρ).bind fun x => (blR x).bind fun b => .ok (.bl (!b)) := by
  unfold notE at h
  split at h
  · exact de_not (ha _ h)
  · cases h
def notT (ca : Md → Bool) : Expr → Bool
  | .UnaryOp .Not x _ => ca (.t x)
  | _ => false
theorem notT_is {ca : Md → Bool} (ha : PartOk X cl W ca fa) {e : Expr} (h : notT ca e = true) : DT X cl W e fun ρ => (fa ρ).bind fun x => (blR x).bind fun b => .ok (.bl (!b)) := by
  unfold notT at h
  split at h
  · exact dt_not (ha _ h)
  · cases h
/-- comparisons: those that take what is lent -/
def cmOkB : Cm → CmpOp → Bool
  | .eq, .Eq => true
  | .ne, .NotEq => true
  | .inn, .In => true
  | .nin, .NotIn => true
  | _, _ => false
theorem cmOkB_is (hu : X.A.units + 65 < cLine) {o : Cm} {p : CmpOp} (h : cmOkB o p = true) : OpB X (compareOp p) (cmB o) := by
  unfold cmOkB at h
  split at h
  · exact opB_eq hu
  · exact opB_ne hu
  · exact opB_in hu
  · exact opB_nin hu
  · cases h
def cmOk : Cm → CmpOp → Bool
  | .eq, .Eq => true
  | .ne, .NotEq => true
  | .inn, .In => true
  | .nin, .NotIn => true
  | .lt, .Lt => true
  | .le, .LtE => true
  | .gt, .Gt => true
  | .ge, .GtE => true
  | .is, .Is => true
  | .nis, .IsNot => true
  | _, _ => false
theorem cmOk_is (hu : X.A.units + 65 < cLine) {o : Cm} {p : CmpOp} (h : cmOk o p = true) : OpD X (compareOp p) (cmB o) := by
  unfold cmOk at h
  split at h
  · exact opD_eq hu
  · exact opD_ne hu
  · exact opD_in hu
  · exact opD_nin hu
  · exact opD_lt hu
  · exact opD_le
  · exact opD_gt
  · exact opD_ge hu
  · exact opD_is
  · exact opD_nis
  · cases h
def cmE (ck : Ck) (o : Cm) (ca cb : Md → Bool) : Expr → Bool
  | .Compare x [p] [y] _ => !(behindInMarks p y) && ((cmOkB o p && ca (.b x) && cb (.b y)) || (cmOk o p && ca (.e x) && cb (.e y)))
  | _ => false
theorem cmE_is (E : EOk ck k tb X cl w W) {o : Cm} {ca cb : Md → Bool} (ha : PartOk X cl W ca fa) (hb : PartOk X cl W cb fb) {e : Expr} (h : cmE ck o ca cb e = true) :
    DE X cl W e (fun ρ => (fa ρ).bind fun x => (fb ρ).bind fun y => cmB o x y) ∧ DT X cl W e (fun ρ => (fa ρ).bind fun x => (fb ρ).bind fun y => cmB o x y) := by
  unfold cmE at h
  split at h
  · simp only [Bool.and_eq_true, Bool.or_eq_true, Bool.not_eq_true'] at h
    obtain ⟨hm, h | h⟩ := h
    · exact ⟨de_cmpB (cmOkB_is E.un h.1.1) (ha _ h.1.2) (hb _ h.2) hm, dt_cmpB (cmOkB_is E.un h.1.1) (ha _ h.1.2) (hb _ h.2) hm⟩
    · exact ⟨de_cmp (cmOk_is E.un h.1.1) (ha _ h.1.2) (hb _ h.2) hm, dt_cmp (cmOk_is E.un h.1.1) (ha _ h.1.2) (hb _ h.2) hm⟩
  · cases h
def chE (ck : Ck) (o o' : Cm) (ca cb cc : Md → Bool) : Expr → Bool
  | .Compare x [p, p'] [y, z] _ => !(lastMarks [p, p'] [y, z]) && cmOk o p && cmOk o' p' && ca (.e x) && cb (.e y) && cc (.e z)
  | _ => false
theorem chE_is (E : EOk ck k tb X cl w W) {o o' : Cm} {ca cb cc : Md → Bool} (ha : PartOk X cl W ca fa) (hb : PartOk X cl W cb fb) (hc : PartOk X cl W cc fc) {e : Expr} (h : chE ck o o' ca cb cc e = true) :
    DE X cl W e (fun ρ => (fa ρ).bind fun x => (fb ρ).bind fun y => (cmR o x y).bind fun k => if k then (fc ρ).bind fun z => (cmR o' y z).bind fun q => .ok (.bl q) else .ok (.bl false)) ∧
    DT X cl W e (fun ρ => (fa ρ).bind fun x => (fb ρ).bind fun y => (cmR o x y).bind fun k => if k then (fc ρ).bind fun z => (cmR o' y z).bind fun q => .ok (.bl q) else .ok (.bl false)) := by
  unfold chE at h
  split at h
  · simp only [Bool.and_eq_true, Bool.not_eq_true'] at h
    obtain ⟨⟨⟨⟨⟨h1, h2⟩, h3⟩, h4⟩, h5⟩, h6⟩ := h
    exact ⟨de_ch (cmOk_is E.un h2) (cmOk_is E.un h3) (ha _ h4) (hb _ h5) (hc _ h6) h1, dt_ch (cmOk_is E.un h2) (cmOk_is E.un h3) (ha _ h4) (hb _ h5) (hc _ h6) h1⟩
  · cases h
/-! ### and, or, if -/
def bwE (op : BoolOp) (ca cb : Md → Bool) : List Expr → Bool
  | x :: y :: r => ca (.e x) && cb (.we op (y :: r))
  | _ => false
def bwT (op : BoolOp) (ca cb : Md → Bool) : List Expr → Bool
  | x :: y :: r => ca (.t x) && cb (.w op (y :: r))
  | _ => false
def isAnd : BoolOp → Bool
  | .And => true
  | .Or => false
def bE (b : Bool) (ca cb : Md → Bool) : Expr → Bool
  | .BoolOp op es _ => (isAnd op == b) && bwE op ca cb es
  | _ => false
def bT (b : Bool) (ca cb : Md → Bool) : Expr → Bool
  | .BoolOp op es _ => (isAnd op == b) && bwT op ca cb es
  | _ => false
def bM (b : Bool) (ca cb : Md → Bool) (m : Md) : Bool := (match m with
  | .w op es => (isAnd op == b) && bwT op ca cb es
  | .we op es => (isAnd op == b) && bwE op ca cb es
  | _ => false) || md m (bE b ca cb) (bT b ca cb)
def boolF (b : Bool) (fa fb : Env → R D) : Env → R D := fun ρ => if b then (fa ρ).bind fun x => (blR x).bind fun k => if k then fb ρ else .ok (.bl false) else (fa ρ).bind fun x => (blR x).bind fun k => if k then .ok (.bl true) else fb ρ
theorem bwE_is {op : BoolOp} {ca cb : Md → Bool} (ha : PartOk X cl W ca fa) (hb : PartOk X cl W cb fb) {es : List Expr} (h : bwE op ca cb es = true) (pos : Pos) : DE X cl W (.BoolOp op es pos) (boolF (isAnd op) fa fb) := by
  unfold bwE at h
  split at h
  · rw [Bool.and_eq_true] at h
    cases op with
    | And => exact de_and (ha _ h.1) ((show ∀ pos, DE X cl W (.BoolOp .And _ pos) fb from hb _ h.2) pos)
    | Or => exact de_or (ha _ h.1) ((show ∀ pos, DE X cl W (.BoolOp .Or _ pos) fb from hb _ h.2) pos)
  · cases h
theorem bwT_is {op : BoolOp} {ca cb : Md → Bool} (ha : PartOk X cl W ca fa) (hb : PartOk X cl W cb fb) {es : List Expr} (h : bwT op ca cb es = true) (pos : Pos) : DW X cl W (.BoolOp op es pos) (boolF (isAnd op) fa fb) := by
  unfold bwT at h
  split at h
  · rw [Bool.and_eq_true] at h
    cases op with
    | And => exact dw_and (ha _ h.1) ((show ∀ pos, DW X cl W (.BoolOp .And _ pos) fb from hb _ h.2) pos)
    | Or => exact dw_or (ha _ h.1) ((show ∀ pos, DW X cl W (.BoolOp .Or _ pos) fb from hb _ h.2) pos)
  · cases h
theorem bM_is {b : Bool} {ca cb : Md → Bool} (ha : PartOk X cl W ca fa) (hb : PartOk X cl W cb fb) {m : Md} (h : bM b ca cb m = true) : Sd X cl W (boolF b fa fb) m := by
  unfold bM at h
  rw [Bool.or_eq_true] at h
  rcases h with h | h
  · split at h
    · rw [Bool.and_eq_true] at h
      have e := eq_of_beq h.1
      subst e
      exact fun pos => bwT_is ha hb h.2 pos
    · rw [Bool.and_eq_true] at h
      have e := eq_of_beq h.1
      subst e
      exact fun pos => bwE_is ha hb h.2 pos
    · cases h
  · refine md_ok (fun x hx => ?_) (fun x hx => ?_) h
    · unfold bE at hx
      split at hx
      · rw [Bool.and_eq_true] at hx
        have e := eq_of_beq hx.1
        subst e
        exact bwE_is ha hb hx.2 _
      · cases hx
    · unfold bT at hx
      split at hx
      · rw [Bool.and_eq_true] at hx
        have e := eq_of_beq hx.1
        subst e
        exact (bwT_is ha hb hx.2 _).dt
      · cases hx
def ifeE (cc ca cb : Md → Bool) : Expr → Bool
  | .IfExp c x y _ => cc (.t c) && ca (.e x) && cb (.e y)
  | _ => false
theorem ifeE_is {cc ca cb : Md → Bool} (hc : PartOk X cl W cc fc) (ha : PartOk X cl W ca fa) (hb : PartOk X cl W cb fb) {e : Expr} (h : ifeE cc ca cb e = true) : DE X cl W e fun ρ => (fc ρ).bind fun x => (blR x).bind fun k => if k then fa ρ else fb ρ := by
  unfold ifeE at h
  split at h
  · simp only [Bool.and_eq_true] at h
    exact de_ife (hc _ h.1.1) (ha _ h.1.2) (hb _ h.2)
  · cases h
/-! ### subscripts, slices -/
def ixE (ck : Ck) (ca cb : Md → Bool) : Expr → Bool
  | .Subscript x y _ => plainIxB y && ca (.b x) && cb (.e y)
  | _ => false
end
end Mi

set_option Elab.async false
set_option linter.all false
set_option maxRecDepth 100000
set_option maxHeartbeats 4000000
/-! Mi, the checker 3: subscripts, calls, what is walked -/
namespace Mi
open PySem L2 PySem.Spec PyProof.Rows
section
variable {ck : Ck} {k : Nat} {tb : Nat → Option FI} {X : Cx} {cl : Gx} {w : Cl} {W : WX} {f fa fb fc fd : Env → R D}
theorem ixE_is (E : EOk ck k tb X cl w W) {ca cb : Md → Bool} (ha : PartOk X cl W ca fa) (hb : PartOk X cl W cb fb) {e : Expr} (h : ixE ck ca cb e = true) : DE X cl W e fun ρ => (fa ρ).bind fun x => (fb ρ).bind fun y => ixR x y := by
  unfold ixE at h
  split at h
  · simp only [Bool.and_eq_true] at h
    obtain ⟨⟨h1, h2⟩, h3⟩ := h
    exact de_ixB ixR_norz (ixB E.un) (ha _ h2) (hb _ h3) (plainIxB_is h1)
  · cases h
def optE (b : Bool) (c : Md → Bool) : Option Expr → Bool
  | none => !b
  | some x => b && c (.e x)
theorem optE_is {b : Bool} {c : Md → Bool} (ha : PartOk X cl W c fa) {o : Option Expr} (h : optE b c o = true) : DO X cl W o fun ρ => partR b (fa ρ) := by
  unfold optE at h
  split at h
  · cases b <;> first | exact do_none | cases h
  · rw [Bool.and_eq_true] at h
    obtain ⟨rfl, h⟩ := h
    exact do_some (ha _ h)
def slE (ca : Md → Bool) (bl : Bool) (cl' : Md → Bool) (bh : Bool) (ch' : Md → Bool) : Expr → Bool
  | .Subscript x (.Slice l h none _) _ => ca (.e x) && optE bl cl' l && optE bh ch' h
  | _ => false
theorem slE_is {ca cb cc : Md → Bool} {bl bh : Bool} (ha : PartOk X cl W ca fa) (hb : PartOk X cl W cb fb) (hc : PartOk X cl W cc fc) {e : Expr} (h : slE ca bl cb bh cc e = true) :
    DE X cl W e fun ρ => (fa ρ).bind fun x => (partR bl (fb ρ)).bind fun l => (partR bh (fc ρ)).bind fun h => slR x l h := by
  unfold slE at h
  split at h
  · simp only [Bool.and_eq_true] at h
    exact de_sl (ha _ h.1.1) (optE_is hb h.1.2) (optE_is hc h.2)
  · cases h
/-! ### built-ins of one -/
def b1N : B1 → String × Bool
  | .len => ("len", true)
  | .list => ("list", false)
  | .tuple => ("tuple", false)
  | .sum => ("sum", true)
  | .min => ("min", true)
  | .max => ("max", true)
  | .all => ("all", true)
  | .any => ("any", true)
  | .sorted => ("sorted", true)
  | _ => ("", true)
def b1S : B1 → Bool
  | .len => true
  | .list => true
  | .tuple => true
  | .sum => true
  | .min => true
  | .max => true
  | .all => true
  | .any => true
  | .sorted => true
  | _ => false
theorem boot_any' : bootBuiltins "any" = some (.builtin "any") := by decide +kernel
theorem boot_max' : bootBuiltins "max" = some (.builtin "max") := by decide +kernel
theorem b1_call (E : EOk ck k tb X cl w W) (hc : ck.calm = true) {b : B1} (hb : b1S b = true) {x : Str} (hx : ck.bt (b1N b).1 x = true) {a : Expr} {p pos : Pos} (ha : DB X cl W a fa) (hpe : plainE a = true) : DE X cl W (.Call (.Name x p) [a] [] pos) fun ρ => (fa ρ).bind (b1R b) := by
  obtain ⟨ex, hg, hm, hn, hdb⟩ := E.bt hx
  subst ex
  have hk := E.calm hc
  have hu := E.un
  cases b <;> first | (cases hb; done) | skip
  · exact de_callB1 callD_len hg hm (by decide +kernel) ha hpe hn hdb
  · exact de_callT1 callD_list hg hm (by decide +kernel) ha hpe hn hdb
  · exact de_callT1 (callD_tuple hk) hg hm (by decide +kernel) ha hpe hn hdb
  · exact de_callB1 (callD_sum hk) hg hm (by decide +kernel) ha hpe hn hdb
  · exact de_callB1 (callD_min hk) hg hm (by decide +kernel) ha hpe hn hdb
  · exact de_callB1 (callD_max hk) hg hm (by decide +kernel) ha hpe hn hdb
  · exact de_callB1 (callD_all hk) hg hm (by decide +kernel) ha hpe hn hdb
  · exact de_callB1 (callD_any hk) hg hm (by decide +kernel) ha hpe hn hdb
  · exact de_callB1 (callD_sorted hu hk) hg hm (by decide +kernel) ha hpe hn hdb
def isTup : B1 → Bool
  | .tuple => true
  | _ => false
def b1E (ck : Ck) (b : B1) (ca : Md → Bool) : Expr → Bool
  | .Call (.Name x _) [y] [] _ => ck.calm && plainE y && ((b1S b && ck.bt (b1N b).1 x && ca (.b y)) || (isTup b && ck.bt "tuple" x && ca (.r y)))
  | _ => false
theorem b1E_is (E : EOk ck k tb X cl w W) {b : B1} {ca : Md → Bool} (ha : PartOk X cl W ca fa) {e : Expr} (h : b1E ck b ca e = true) : DE X cl W e fun ρ => (fa ρ).bind (b1R b) := by
  unfold b1E at h
  split at h
  · simp only [Bool.and_eq_true, Bool.or_eq_true] at h
    obtain ⟨⟨h0, h1⟩, h | h⟩ := h
    · exact b1_call E h0 h.1.1 h.1.2 (ha _ h.2) h1
    · obtain ⟨ex, hg, hm, hn, hdb⟩ := E.bt h.1.2
      subst ex
      have hb := h.1.1
      cases b <;> first | (cases hb; done) | skip
      exact de_tupRg (E.calm h0) hg hm (ha _ h.2) h1
  · cases h
def setN : B1 → String
  | .sset => "sorted"
  | .lset => "len"
  | _ => ""
def isSS : B1 → Bool
  | .sset => true
  | .lset => true
  | _ => false
def setE (ck : Ck) (b : B1) (ca : Md → Bool) : Expr → Bool
  | .Call (.Name x _) [.Call (.Name z _) [y] [] _] [] _ => ck.calm && plainE y && isSS b && ck.bt (setN b) x && ck.bt "set" z && ca (.b y)
  | _ => false
theorem setE_is (E : EOk ck k tb X cl w W) {b : B1} {ca : Md → Bool} (ha : PartOk X cl W ca fa) {e : Expr} (h : setE ck b ca e = true) : DE X cl W e fun ρ => (fa ρ).bind (b1R b) := by
  unfold setE at h
  split at h
  · simp only [Bool.and_eq_true] at h
    obtain ⟨⟨⟨⟨⟨h0, h1⟩, h2⟩, h3⟩, h4⟩, h5⟩ := h
    obtain ⟨ex, hg, hm, hn, hdb⟩ := E.bt h3
    obtain ⟨ex2, hg2, hm2, hn2, hdb2⟩ := E.bt h4
    subst ex ex2
    cases b <;> first | (cases h2; done) | skip
    · exact de_sset E.un (E.calm h0) hg hm (by decide +kernel) hn hdb hg2 hm2 (by decide +kernel) hn2 hdb2 (ha _ h5) h1
    · exact de_lset (E.calm h0) hg hm (by decide +kernel) hn hdb hg2 hm2 (by decide +kernel) hn2 hdb2 (ha _ h5) h1
  · cases h
def tyS : B1 → String
  | .isInt => "int"
  | .isBool => "bool"
  | .isStr => "str"
  | .isTuple => "tuple"
  | .isList => "list"
  | _ => ""
def isIs : B1 → Bool
  | .isInt => true
  | .isBool => true
  | .isStr => true
  | .isTuple => true
  | .isList => true
  | _ => false
def isE (ck : Ck) (b : B1) (ca : Md → Bool) : Expr → Bool
  | .Call (.Name x _) [y, .Name z _] [] _ => plainE y && isIs b && ck.bt "isinstance" x && ck.bt (tyS b) z && ca (.b y)
  | _ => false
theorem isE_is (E : EOk ck k tb X cl w W) {b : B1} {ca : Md → Bool} (ha : PartOk X cl W ca fa) {e : Expr} (h : isE ck b ca e = true) : DE X cl W e fun ρ => (fa ρ).bind (b1R b) := by
  unfold isE at h
  split at h
  · simp only [Bool.and_eq_true] at h
    obtain ⟨⟨⟨⟨h1, h2⟩, h3⟩, h4⟩, h5⟩ := h
    obtain ⟨ex, hg, hm, hn, hdb⟩ := E.bt h3
    obtain ⟨ex2, hg2, hm2, hn2, hdb2⟩ := E.bt h4
    subst ex ex2
    cases b <;> first | (cases h2; done) | skip
    · exact de_isT isTy_int hg hm boot_isinstance hn hdb hg2 hm2 (by decide +kernel) hn2 hdb2 (ha _ h5) h1
    · exact de_isT isTy_bool hg hm boot_isinstance hn hdb hg2 hm2 (by decide +kernel) hn2 hdb2 (ha _ h5) h1
    · exact de_isT isTy_str hg hm boot_isinstance hn hdb hg2 hm2 (by decide +kernel) hn2 hdb2 (ha _ h5) h1
    · exact de_isT isTy_tuple hg hm boot_isinstance hn hdb hg2 hm2 (by decide +kernel) hn2 hdb2 (ha _ h5) h1
    · exact de_isT isTy_list hg hm boot_isinstance hn hdb hg2 hm2 (by decide +kernel) hn2 hdb2 (ha _ h5) h1
  · cases h
/-! ### of two, of three -/
def b2N : B2 → String
  | .index => "index"
  | .find => "find"
  | .get => "get"
  | .join => "join"
  | .min => "min"
  | .max => "max"
  | _ => ""
def b2M : B2 → Bool
  | .index => true
  | .find => true
  | .get => true
  | .join => true
  | _ => false
def b2F : B2 → Bool
  | .min => true
  | .max => true
  | _ => false
def m2E (ck : Ck) (b : B2) (ca cb : Md → Bool) : Expr → Bool
  | .Call (.Attribute o nm ap) [y] [] cp => decide (nm = (b2N b : Str)) && b2M b && (ap.endLine == cp.line) && baseOk o && plainE y && ca (.b o) && cb (.b y)
  | _ => false
theorem m2E_is (E : EOk ck k tb X cl w W) {b : B2} {ca cb : Md → Bool} (ha : PartOk X cl W ca fa) (hb : PartOk X cl W cb fb) {e : Expr} (h : m2E ck b ca cb e = true) :
    DE X cl W e fun ρ => (fa ρ).bind fun x => if recv2 b x then (fb ρ).bind fun y => b2R b x y else .no := by
  unfold m2E at h
  split at h
  · simp only [Bool.and_eq_true, decide_eq_true_eq] at h
    obtain ⟨⟨⟨⟨⟨⟨h1, h2⟩, h3⟩, h4⟩, h5⟩, h6⟩, h7⟩ := h
    subst h1
    cases b <;> first | (cases h2; done) | skip
    · exact de_m1 (mtD_index E.un) (ha _ h6) (hb _ h7) h5 (baseOk_is h4 _ _) h3
    · exact de_m1 mtD_join (ha _ h6) (hb _ h7) h5 (baseOk_is h4 _ _) h3
    · exact de_m1 mtD_find (ha _ h6) (hb _ h7) h5 (baseOk_is h4 _ _) h3
    · exact de_m1 (mtD_get E.un1) (ha _ h6) (hb _ h7) h5 (baseOk_is h4 _ _) h3
  · cases h
def f2E (ck : Ck) (b : B2) (ca cb : Md → Bool) : Expr → Bool
  | .Call (.Name x _) [y, z] [] _ => ck.calm && b2F b && ck.bt (b2N b) x && plainE y && plainE z && ca (.b y) && cb (.b z)
  | _ => false
theorem f2E_is (E : EOk ck k tb X cl w W) {b : B2} {ca cb : Md → Bool} (ha : PartOk X cl W ca fa) (hb : PartOk X cl W cb fb) {e : Expr} (h : f2E ck b ca cb e = true) :
    DE X cl W e fun ρ => (fa ρ).bind fun x => if recv2 b x then (fb ρ).bind fun y => b2R b x y else .no := by
  unfold f2E at h
  split at h
  · simp only [Bool.and_eq_true, decide_eq_true_eq] at h
    obtain ⟨⟨⟨⟨⟨⟨h0, h1⟩, h2⟩, h3⟩, h4⟩, h5⟩, h6⟩ := h
    obtain ⟨ex, hg, hm, hn, hdb⟩ := E.bt h2
    subst ex
    cases b <;> first | (cases h1; done) | skip
    · exact de_callB2 (callD_min2 (E.calm h0)) hg hm (by decide +kernel) (ha _ h5) (hb _ h6) h3 h4 hn hdb
    · exact de_callB2 (callD_max2 (E.calm h0)) hg hm (by decide +kernel) (ha _ h5) (hb _ h6) h3 h4 hn hdb
  · cases h
def isGet3 : B3 → Bool
  | .get => true
  | _ => false
def m3E (ck : Ck) (b : B3) (ca cb cc : Md → Bool) : Expr → Bool
  | .Call (.Attribute o nm ap) [y, z] [] cp => decide (nm = ("get" : Str)) && isGet3 b && (ap.endLine == cp.line) && baseOk o && plainE y && plainE z && ca (.b o) && cb (.e y) && cc (.e z)
  | _ => false
theorem m3E_is (E : EOk ck k tb X cl w W) {b : B3} {ca cb cc : Md → Bool} (ha : PartOk X cl W ca fa) (hb : PartOk X cl W cb fb) (hc : PartOk X cl W cc fc) {e : Expr} (h : m3E ck b ca cb cc e = true) :
    DE X cl W e fun ρ => (fa ρ).bind fun x => if recv3 b x then (fb ρ).bind fun y => (fc ρ).bind fun z => b3R b x y z else .no := by
  unfold m3E at h
  split at h
  · simp only [Bool.and_eq_true, decide_eq_true_eq] at h
    obtain ⟨⟨⟨⟨⟨⟨⟨⟨h1, h2⟩, h3⟩, h4⟩, h5⟩, h5'⟩, h6⟩, h7⟩, h8⟩ := h
    subst h1
    cases b <;> first | (cases h2; done) | skip
    exact de_m2 (mtD_get2 E.un1) (ha _ h6) (hb _ h7) (hc _ h8) h5 h5' (baseOk_is h4 _ _) h3
  · cases h
/-! ### calls of defs -/
def isFn (ck : Ck) (n : Nat) (x : Str) : Bool := ck.glo x && (match ck.G.lookup x with
  | some (.fn m) => decide (m = n)
  | _ => false)
theorem isFn_is (E : EOk ck k tb X cl w W) {n : Nat} {x : Str} (h : isFn ck n x = true) : Gl X x ∧ (x == ("__debug__" : Str)) = false ∧ ∃ fi, tb n = some fi ∧ X.mg x = some (.ref fi.ad) := by
  unfold isFn at h
  rw [Bool.and_eq_true] at h
  refine ⟨(E.glo h.1).1, (E.glo h.1).2, ?_⟩
  have h2 := h.2
  split at h2
  · rename_i m hl
    have e : m = n := of_decide_eq_true h2
    subst e
    exact E.g _ _ hl
  · cases h2
def callE (ck : Ck) (n : Nat) (ca : Md → Bool) : Expr → Bool
  | .Call (.Name x _) (y :: ys) [] _ => ck.calm && isFn ck n x && (y :: ys).all plainE && ca (.a (y :: ys))
  | _ => false
theorem callE_is (E : EOk ck k tb X cl w W) {n : Nat} {ca : Md → Bool} (ha : PartOk X cl W ca fa) {e : Expr} (h : callE ck n ca e = true) : DE X cl W e fun ρ => (fa ρ).bind fun y => (lstR y).bind fun xs => w.f n xs := by
  unfold callE at h
  split at h
  · simp only [Bool.and_eq_true] at h
    obtain ⟨⟨⟨h0, h1⟩, h2⟩, h3⟩ := h
    obtain ⟨hg, hdb, fi, h4, h5⟩ := isFn_is E h1
    obtain ⟨cl', hcl, t⟩ := E.tok
    exact de_call hcl t h4 (E.room h0) hg h5 (E.tk h0) (ha _ h3) h2 hdb
  · cases h
def pickFs (ck : Ck) : List Nat → List Expr → Bool
  | [], [] => true
  | n :: ns, .Name x _ :: es => isFn ck n x && pickFs ck ns es
  | _, _ => false
theorem pickFs_is (E : EOk ck k tb X cl w W) : ∀ {ns : List Nat} {es : List Expr}, pickFs ck ns es = true → PySem.Paired (fun n e => ∃ fi, tb n = some fi ∧ PE X e (tC (.ref fi.ad)) ∧ plainE e = true) ns es
  | [], [], _ => .nil
  | [], _ :: _, h => by cases h
  | n :: ns, [], h => by cases h
  | n :: ns, e :: es, h => by
    cases e <;> first | (cases h; done) | skip
    unfold pickFs at h
    rw [Bool.and_eq_true] at h
    obtain ⟨hg, hdb, fi, h4, h5⟩ := isFn_is E h.1
    exact .cons ⟨fi, h4, pe_glob (v := .ref fi.ad) hg h5 rfl hdb, rfl⟩ (pickFs_is E h.2)
def pickE (ck : Ck) (ns : List Nat) (ci ca : Md → Bool) : Expr → Bool
  | .Call (.Subscript (.List ls _) ix _) (y :: ys) [] _ => ck.calm && pickFs ck ns ls && decide (ns.length ≤ 1000) && plainIxB ix && (y :: ys).all plainE && ci (.e ix) && ca (.a (y :: ys))
  | _ => false
theorem pickE_is (E : EOk ck k tb X cl w W) {ns : List Nat} {ci ca : Md → Bool} (hi : PartOk X cl W ci fb) (ha : PartOk X cl W ca fa) {e : Expr} (h : pickE ck ns ci ca e = true) :
    DE X cl W e fun ρ => (fb ρ).bind fun x => match x with
      | .int j => (match atI ns j with
        | some f => (fa ρ).bind fun y => (lstR y).bind fun xs => w.f f xs
        | none => .no)
      | _ => .no := by
  unfold pickE at h
  split at h
  · simp only [Bool.and_eq_true, decide_eq_true_eq] at h
    obtain ⟨⟨⟨⟨⟨⟨h0, h1⟩, h2⟩, h3⟩, h4⟩, h5⟩, h6⟩ := h
    obtain ⟨cl', hcl, t⟩ := E.tok
    exact de_pick hcl t (E.room h0) (E.tk h0) (pickFs_is E h1) (hi _ h5) (plainIxB_is h3) h2 (ha _ h6) h4 rfl
  · cases h
/-! ### within an except suite -/
def isxE (ck : Ck) (c : Nat) : Expr → Bool
  | .Call (.Name x _) [.Name y _, .Name z _] [] _ => ck.bt "isinstance" x && ck.glo z && (match ck.ex with
    | some i => ck.var i y
    | none => false) && (match ck.G.lookup z with
    | some (.cls d) => decide (d = c)
    | _ => false)
  | _ => false
theorem isxE_is (E : EOk ck k tb X cl w W) {c : Nat} {e : Expr} (h : isxE ck c e = true) : DE X cl W e fun _ => match w.x with
    | some x => .ok (.bl (isSub c x))
    | none => .no := by
  unfold isxE at h
  split at h
  · simp only [Bool.and_eq_true] at h
    obtain ⟨⟨⟨h0, h1⟩, h2⟩, h3⟩ := h
    split at h2
    · rename_i i he
      split at h3
      · rename_i d hl
        have e : d = c := of_decide_eq_true h3
        subst e
        obtain ⟨X0, a, oe, pn, xc, eX, hex, hxw, C, hz, hf, hk⟩ := (E.su i he).ex
        obtain ⟨ex, hg, hm, hn, hdb⟩ := E.bt h0
        obtain ⟨v1, v2, v3, v4⟩ := E.var h2
        obtain ⟨g1, g2⟩ := E.glo h1
        have gc := (E.g _ _ hl).1
        subst ex
        subst eX
        exact de_isx hex hxw C hz hf (hk _ d hl) hg hm boot_isinstance hn hdb v1 v2 v3 v4 g1 gc g2
      · cases h3
    · cases h2
  · cases h
/-! ### what is walked -/
def itM (ca : Md → Bool) : Md → Bool
  | .i _ x => ca (.e x)
  | _ => false
theorem itM_is {ca : Md → Bool} (ha : PartOk X cl W ca fa) {m : Md} (h : itM ca m = true) : Sd X cl W (fun ρ => (fa ρ).bind itC) m := by
  unfold itM at h
  split at h
  · exact di_it (ha _ h)
  · cases h
def rg1X (ck : Ck) (ca : Md → Bool) : Expr → Bool
  | .Call (.Name x _) [y] [] _ => ck.bt "range" x && plainE y && ca (.e y)
  | _ => false
def rg2X (ck : Ck) (ca cb : Md → Bool) : Expr → Bool
  | .Call (.Name x _) [y, z] [] _ => ck.bt "range" x && plainE y && plainE z && ca (.e y) && cb (.e z)
  | _ => false
theorem rg1X_i (E : EOk ck k tb X cl w W) {ca : Md → Bool} (ha : PartOk X cl W ca fa) {tg e : Expr} (h : rg1X ck ca e = true) : DI X cl W tg e (fun ρ => (fa ρ).bind fun x => (rngR (.int 0) x).bind fun xs => .ok (.lst xs)) ∧ DRg X cl W e (fun ρ => (fa ρ).bind fun x => (rngR (.int 0) x).bind fun xs => .ok (.lst xs)) := by
  unfold rg1X at h
  split at h
  · simp only [Bool.and_eq_true] at h
    obtain ⟨ex, hg, hm, hn, hdb⟩ := E.bt h.1.1
    subst ex
    exact ⟨di_range1 hg hm (ha _ h.2) h.1.2, drg_1 hg hm (ha _ h.2) h.1.2⟩
  · cases h
theorem rg2X_i (E : EOk ck k tb X cl w W) {ca cb : Md → Bool} (ha : PartOk X cl W ca fa) (hb : PartOk X cl W cb fb) {tg e : Expr} (h : rg2X ck ca cb e = true) :
    DI X cl W tg e (fun ρ => (fa ρ).bind fun x => (fb ρ).bind fun y => (rngR x y).bind fun xs => .ok (.lst xs)) ∧ DRg X cl W e (fun ρ => (fa ρ).bind fun x => (fb ρ).bind fun y => (rngR x y).bind fun xs => .ok (.lst xs)) := by
  unfold rg2X at h
  split at h
  · simp only [Bool.and_eq_true] at h
    obtain ⟨⟨⟨⟨h0, h1⟩, h2⟩, h3⟩, h4⟩ := h
    obtain ⟨ex, hg, hm, hn, hdb⟩ := E.bt h0
    subst ex
    exact ⟨di_range2 hg hm (ha _ h3) (hb _ h4) h1 h2, drg_2 hg hm (ha _ h3) (hb _ h4) h1 h2⟩
  · cases h
/-- modes of a range: X is its call -/
def rgM (ck : Ck) (X : Expr → Bool) (m : Md) : Bool := (match m with
  | .i _ x => X x
  | .r x => X x
  | _ => false) || md1 m fun x => match x with
    | .Call (.Name l _) [y] [] _ => ck.calm && ck.bt "list" l && plainE y && X y
    | _ => false
theorem rgM_is (E : EOk ck k tb X cl w W) {Y : Expr → Bool} (hi : ∀ tg e, Y e = true → DI X cl W tg e f ∧ DRg X cl W e f) {m : Md} (h : rgM ck Y m = true) : Sd X cl W f m := by
  unfold rgM at h
  rw [Bool.or_eq_true] at h
  rcases h with h | h
  · split at h
    · exact (hi _ _ h).1
    · rename_i x
      exact (hi x x h).2
    · cases h
  · refine md1_ok (fun x hx => ?_) h
    split at hx
    · simp only [Bool.and_eq_true] at hx
      obtain ⟨⟨⟨h0, h1⟩, h2⟩, h3⟩ := hx
      obtain ⟨ex, hg, hm, hn, hdb⟩ := E.bt h1
      subst ex
      exact de_listRg (E.calm h0) hg hm (hi (.List [] ⟨0, 0, 0, 0⟩) _ h3).2 h2
    · cases hx
def enumM (ck : Ck) (ca : Md → Bool) : Md → Bool
  | .i (.Tuple _ _ _) (.Call (.Name x _) [y] [] _) => ck.bt "enumerate" x && plainE y && ca (.e y)
  | _ => false
theorem enumM_is (E : EOk ck k tb X cl w W) {ca : Md → Bool} (ha : PartOk X cl W ca fa) {m : Md} (h : enumM ck ca m = true) : Sd X cl W (fun ρ => (fa ρ).bind enumC) m := by
  unfold enumM at h
  split at h
  · simp only [Bool.and_eq_true] at h
    obtain ⟨ex, hg, hm, hn, hdb⟩ := E.bt h.1.1
    subst ex
    exact di_enum hg hm (ha _ h.2) h.1.2
  · cases h
def zipM (ck : Ck) (ca cb : Md → Bool) : Md → Bool
  | .i (.Tuple _ _ _) (.Call (.Name x _) [y, z] [] _) => ck.bt "zip" x && plainE y && plainE z && ca (.e y) && cb (.e z)
  | _ => false
theorem zipM_is (E : EOk ck k tb X cl w W) {ca cb : Md → Bool} (ha : PartOk X cl W ca fa) (hb : PartOk X cl W cb fb) {m : Md} (h : zipM ck ca cb m = true) : Sd X cl W (fun ρ => (fa ρ).bind fun x => (fb ρ).bind fun y => zipC x y) m := by
  unfold zipM at h
  split at h
  · simp only [Bool.and_eq_true] at h
    obtain ⟨⟨⟨⟨h0, h1⟩, h2⟩, h3⟩, h4⟩ := h
    obtain ⟨ex, hg, hm, hn, hdb⟩ := E.bt h0
    subst ex
    exact di_zip hg hm (ha _ h3) (hb _ h4) h1 h2
  · cases h
def itemsM (ck : Ck) (ca : Md → Bool) : Md → Bool
  | .i (.Tuple _ _ _) (.Call (.Attribute o nm ap) [] [] cp) => decide (nm = ("items" : Str)) && (ap.endLine == cp.line) && baseOk o && ca (.e o)
  | _ => false
theorem itemsM_is {ca : Md → Bool} (ha : PartOk X cl W ca fa) {m : Md} (h : itemsM ck ca m = true) : Sd X cl W (fun ρ => (fa ρ).bind itemsC) m := by
  unfold itemsM at h
  split at h
  · simp only [Bool.and_eq_true, decide_eq_true_eq] at h
    obtain ⟨⟨⟨h0, h1⟩, h2⟩, h3⟩ := h
    subst h0
    exact di_items (ha _ h3) (baseOk_is h2 _ _) h1
  · cases h
end
end Mi

set_option Elab.async false
set_option linter.all false
set_option maxRecDepth 100000
set_option maxHeartbeats 4000000
/-! Mi, the checker 4: all expressions -/
namespace Mi
open PySem L2 PySem.Spec PyProof.Rows
def isTrueC : C → Bool
  | .k (.bl true) => true
  | _ => false
theorem isTrueC_is {c : C} (h : isTrueC c = true) (w : Cl) : ev w c = fun _ => .ok (.bl true) := by
  unfold isTrueC at h
  split at h
  · rfl
  · cases h
/-- a target; its names -/
def tgOk (ck : Ck) : Tg → Expr → Bool
  | .one i, .Name x _ => ck.loc i x
  | .two i j, .Tuple [.Name x _, .Name y _] _ _ => ck.calm && ck.loc i x && ck.loc j y
  | _, _ => false
def tgOwn : Tg → Expr → List (Str × Nat)
  | .one i, .Name x _ => [(x, i)]
  | .two i j, .Tuple [.Name x _, .Name y _] _ _ => [(x, i), (y, j)]
  | _, _ => []
section
variable {ck : Ck} {k : Nat} {tb : Nat → Option FI} {X : Cx} {cl : Gx} {w : Cl} {W : WX} {f fa fb fc fd : Env → R D}
theorem tgOk_is (E : EOk ck k tb X cl w W) {g : Tg} {e : Expr} (h : tgOk ck g e = true) : DG X e g := by
  unfold tgOk at h
  split at h
  · obtain ⟨h1, h2, h3⟩ := E.loc h
    exact dg_one E.nd h1 h2 h3
  · simp only [Bool.and_eq_true] at h
    obtain ⟨h1, h2, h3⟩ := E.loc h.1.2
    obtain ⟨g1, g2, g3⟩ := E.loc h.2
    exact dg_two (E.calm h.1.1) E.nd h1 h2 h3 g1 g2 g3
  · cases h
theorem tgOwn_ix {ck : Ck} {g : Tg} {e : Expr} (h : tgOk ck g e = true) : (tgOwn g e).map (·.2) = g.ix := by
  unfold tgOk at h
  split at h
  · rfl
  · rfl
  · cases h
/-- the parts of a comprehension: in its block -/
def ifsOk (tr : Bool) (cc : Md → Bool) : List Expr → Bool
  | [] => tr
  | [t] => cc (.t t)
  | _ => false
def lcE (ck : Ck) (g : Tg) (ci : Md → Bool) (tr : Bool) (cc ce : Md → Ck → Bool) : Expr → Bool
  | .ListComp elt [⟨tg, iter, ifs, a⟩] scope _ => decide (a = 0) && ck.calm && plainFs iter && ci (.i tg iter) && blkC ck.N ⟨.function, ck.nm, false, false, []⟩ scope (tgOwn g tg) && tgOk (ck.blk scope) g tg && ifsOk tr (fun m => cc m (ck.blk scope)) ifs && ce (.e elt) (ck.blk scope)
  | _ => false
/-- what is known of a part in every context -/
abbrev AllOk (k : Nat) (tb : Nat → Option FI) (w : Cl) (c : Md → Ck → Bool) (f : Env → R D) : Prop := ∀ (m : Md) (ck : Ck), c m ck = true → ∀ (X : Cx) (cl : Gx) (W : WX), EOk ck k tb X cl w W → Sd X cl W f m
def lcG (g : Tg) (fi fc fe : Env → R D) : Env → R D := fun ρ => (fi ρ).bind fun x => (lstR x).bind fun xs => ((lcR (lcF fc fe g ρ) xs).calm).bind fun ys => .ok (.lst ys)
/-- what a comprehension needs -/
structure LcOk (X : Cx) (cl : Gx) (W : WX) (g : Tg) (tg iter elt : Expr) (ifs : List Expr) (scope : Scope) (fi fc fe : Env → R D) : Prop where
  hx : cl.ex = none
  hc : X.calm = true
  hi : DI X cl W tg iter fi
  ok : BlkOk X.N X.env.scope scope (tgOwn g tg)
  how : (tgOwn g tg).map (·.2) = g.ix
  hg : ∀ (s : Shared) (H : Hp) (C : Addr) (cs : List (Str × Addr)) (fp : List Addr), DG (X.blk s H scope (compEnvC scope cs C X.env) fp) tg g
  ht : ∀ (s : Shared) (H : Hp) (C : Addr) (cs : List (Str × Addr)) (fp : List Addr), DTs (X.blk s H scope (compEnvC scope cs C X.env) fp) cl (fun _ _ _ _ => False) ifs fc
  he : ∀ (s : Shared) (H : Hp) (C : Addr) (cs : List (Str × Addr)) (fp : List Addr), DE (X.blk s H scope (compEnvC scope cs C X.env) fp) cl (fun _ _ _ _ => False) elt fe
  hs : ∀ x, foldedSetIterable iter X.env x = pure x
theorem lcE_inv (E : EOk ck k tb X cl w W) {g : Tg} {ci : Md → Bool} {tr : Bool} {cc ce : Md → Ck → Bool} (hi : PartOk X cl W ci fa) (ht : AllOk k tb w cc fb) (htr : tr = true → fb = fun _ => .ok (.bl true)) (he : AllOk k tb w ce fc) {e : Expr} (h : lcE ck g ci tr cc ce e = true) :
    ∃ elt tg iter ifs scope pos, e = .ListComp elt [⟨tg, iter, ifs, 0⟩] scope pos ∧ LcOk X cl W g tg iter elt ifs scope fa fb fc := by
  unfold lcE at h
  split at h
  · rename_i elt tg iter ifs a scope pos
    simp only [Bool.and_eq_true, decide_eq_true_eq] at h
    obtain ⟨⟨⟨⟨⟨⟨⟨rfl, h0⟩, h1⟩, h2⟩, h3⟩, h4⟩, h5⟩, h6⟩ := h
    refine ⟨elt, tg, iter, ifs, scope, pos, rfl, E.hx h0, E.calm h0, hi _ h2, E.blkOk h3, tgOwn_ix h4, fun s H C cs fp => tgOk_is (E.blk h0 scope s H C cs fp) h4, fun s H C cs fp => ?_, fun s H C cs fp => he _ _ h6 _ _ _ (E.blk h0 scope s H C cs fp), fun x => plainFs_is h1 _ x⟩
    unfold ifsOk at h5
    split at h5
    · rw [htr h5]; exact dts_nil
    · exact dts_one (ht _ _ h5 _ _ _ (E.blk h0 scope s H C cs fp))
    · cases h5
  · cases h
theorem LcOk.de (nd : X.N.Nodup) {g : Tg} {tg iter elt : Expr} {ifs : List Expr} {scope : Scope} {pos : Pos} (L : LcOk X cl W g tg iter elt ifs scope fa fb fc) : DE X cl W (.ListComp elt [⟨tg, iter, ifs, 0⟩] scope pos) (lcG g fa fb fc) :=
  de_lc L.hx L.hc nd L.hi L.ok L.how L.hg L.ht L.he L.hs
end
/-- does the code c do what the text says -/
def chk : C → Md → Ck → Bool
  | .k d, m, ck => md1 m (kOk ck d)
  | .v i, m, ck => md1 m (vOk ck i)
  | .o i, m, ck => (match m with
    | .b x => vOk ck i x
    | _ => false)
  | .nil, m, _ => nilM m
  | .cons a b, m, ck => consM (fun m => chk a m ck) (fun m => chk b m ck) m
  | .tup a, m, ck => md1 m (tupE fun m => chk a m ck)
  | .lst a, m, ck => md1 m (lstE fun m => chk a m ck)
  | .op o a b, m, ck => md1 m (binE o (fun m => chk a m ck) fun m => chk b m ck)
  | .neg a, m, ck => md1 m (negE fun m => chk a m ck)
  | .not a, m, ck => md m (notE fun m => chk a m ck) (notT fun m => chk a m ck)
  | .cm o a b, m, ck => md m (cmE ck o (fun m => chk a m ck) fun m => chk b m ck) (cmE ck o (fun m => chk a m ck) fun m => chk b m ck)
  | .ch o p a b c, m, ck => md m (chE ck o p (fun m => chk a m ck) (fun m => chk b m ck) fun m => chk c m ck) (chE ck o p (fun m => chk a m ck) (fun m => chk b m ck) fun m => chk c m ck)
  | .and a b, m, ck => bM true (fun m => chk a m ck) (fun m => chk b m ck) m
  | .or a b, m, ck => bM false (fun m => chk a m ck) (fun m => chk b m ck) m
  | .ife c a b, m, ck => md1 m (ifeE (fun m => chk c m ck) (fun m => chk a m ck) fun m => chk b m ck)
  | .ix a b, m, ck => md1 m (ixE ck (fun m => chk a m ck) fun m => chk b m ck)
  | .sl a bl l bh h, m, ck => md1 m (slE (fun m => chk a m ck) bl (fun m => chk l m ck) bh fun m => chk h m ck)
  | .b1 b a, m, ck => md1 m fun e => b1E ck b (fun m => chk a m ck) e || setE ck b (fun m => chk a m ck) e || isE ck b (fun m => chk a m ck) e
  | .b2 b a c, m, ck => md1 m fun e => m2E ck b (fun m => chk a m ck) (fun m => chk c m ck) e || f2E ck b (fun m => chk a m ck) (fun m => chk c m ck) e
  | .b3 b a c d, m, ck => md1 m (m3E ck b (fun m => chk a m ck) (fun m => chk c m ck) fun m => chk d m ck)
  | .call n a, m, ck => md1 m (callE ck n fun m => chk a m ck)
  | .pick ns i a, m, ck => md1 m (pickE ck ns (fun m => chk i m ck) fun m => chk a m ck)
  | .isx c, m, ck => md1 m (isxE ck c)
  | .it a, m, ck => itM (fun m => chk a m ck) m
  | .rg1 a, m, ck => rgM ck (rg1X ck fun m => chk a m ck) m
  | .rg2 a b, m, ck => rgM ck (rg2X ck (fun m => chk a m ck) fun m => chk b m ck) m
  | .enum a, m, ck => enumM ck (fun m => chk a m ck) m
  | .zip a b, m, ck => zipM ck (fun m => chk a m ck) (fun m => chk b m ck) m
  | .items a, m, ck => itemsM ck (fun m => chk a m ck) m
  | .lc g i c e, m, ck => md1 m (lcE ck g (fun m => chk i m ck) (isTrueC c) (chk c) (chk e))
  | _, _, _ => false
theorem chk_ok {k : Nat} {tb : Nat → Option FI} {w : Cl} : ∀ c : C, AllOk k tb w (chk c) (ev w c) := by
  intro c
  induction c with
  | k d => exact fun m ck h X cl W E => md1_ok (fun x hx => kOk_is E hx) h
  | v i => exact fun m ck h X cl W E => md1_ok (fun x hx => vOk_is E hx) h
  | o i =>
    intro m ck h X cl W E
    unfold chk at h
    split at h
    · exact vOk_own E h
    · cases h
  | nil => exact fun m ck h X cl W E => nilM_is h
  | cons a b ia ib => exact fun m ck h X cl W E => consM_is (fun m h => ia m ck h X cl W E) (fun m h => ib m ck h X cl W E) h
  | tup a ia => exact fun m ck h X cl W E => md1_ok (fun x hx => tupE_is (fun m h => ia m ck h X cl W E) hx) h
  | lst a ia => exact fun m ck h X cl W E => md1_ok (fun x hx => lstE_is (fun m h => ia m ck h X cl W E) hx) h
  | op o a b ia ib => exact fun m ck h X cl W E => md1_ok (fun x hx => binE_is (fun m h => ia m ck h X cl W E) (fun m h => ib m ck h X cl W E) hx) h
  | neg a ia => exact fun m ck h X cl W E => md1_ok (fun x hx => negE_is (fun m h => ia m ck h X cl W E) hx) h
  | not a ia => exact fun m ck h X cl W E => md_ok (fun x hx => notE_is (fun m h => ia m ck h X cl W E) hx) (fun x hx => notT_is (fun m h => ia m ck h X cl W E) hx) h
  | cm o a b ia ib => exact fun m ck h X cl W E => md_ok (fun x hx => (cmE_is E (fun m h => ia m ck h X cl W E) (fun m h => ib m ck h X cl W E) hx).1) (fun x hx => (cmE_is E (fun m h => ia m ck h X cl W E) (fun m h => ib m ck h X cl W E) hx).2) h
  | ch o p a b c ia ib ic => exact fun m ck h X cl W E => md_ok (fun x hx => (chE_is E (fun m h => ia m ck h X cl W E) (fun m h => ib m ck h X cl W E) (fun m h => ic m ck h X cl W E) hx).1) (fun x hx => (chE_is E (fun m h => ia m ck h X cl W E) (fun m h => ib m ck h X cl W E) (fun m h => ic m ck h X cl W E) hx).2) h
  | and a b ia ib => exact fun m ck h X cl W E => bM_is (b := true) (fun m h => ia m ck h X cl W E) (fun m h => ib m ck h X cl W E) h
  | or a b ia ib => exact fun m ck h X cl W E => bM_is (b := false) (fun m h => ia m ck h X cl W E) (fun m h => ib m ck h X cl W E) h
  | ife c a b ic ia ib => exact fun m ck h X cl W E => md1_ok (fun x hx => ifeE_is (fun m h => ic m ck h X cl W E) (fun m h => ia m ck h X cl W E) (fun m h => ib m ck h X cl W E) hx) h
  | ix a b ia ib => exact fun m ck h X cl W E => md1_ok (fun x hx => ixE_is E (fun m h => ia m ck h X cl W E) (fun m h => ib m ck h X cl W E) hx) h
  | sl a bl l bh hh ia il ih => exact fun m ck h X cl W E => md1_ok (fun x hx => slE_is (fun m h => ia m ck h X cl W E) (fun m h => il m ck h X cl W E) (fun m h => ih m ck h X cl W E) hx) h
  | b1 b a ia =>
    exact fun m ck h X cl W E => md1_ok (fun x hx => by
      simp only [Bool.or_eq_true] at hx
      rcases hx with (hx | hx) | hx
      · exact b1E_is E (fun m h => ia m ck h X cl W E) hx
      · exact setE_is E (fun m h => ia m ck h X cl W E) hx
      · exact isE_is E (fun m h => ia m ck h X cl W E) hx) h
  | b2 b a c ia ic =>
    exact fun m ck h X cl W E => md1_ok (fun x hx => by
      simp only [Bool.or_eq_true] at hx
      rcases hx with hx | hx
      · exact m2E_is E (fun m h => ia m ck h X cl W E) (fun m h => ic m ck h X cl W E) hx
      · exact f2E_is E (fun m h => ia m ck h X cl W E) (fun m h => ic m ck h X cl W E) hx) h
  | b3 b a c d ia ic id => exact fun m ck h X cl W E => md1_ok (fun x hx => m3E_is E (fun m h => ia m ck h X cl W E) (fun m h => ic m ck h X cl W E) (fun m h => id m ck h X cl W E) hx) h
  | call n a ia => exact fun m ck h X cl W E => md1_ok (fun x hx => callE_is E (fun m h => ia m ck h X cl W E) hx) h
  | pick ns i a ii ia => exact fun m ck h X cl W E => md1_ok (fun x hx => pickE_is E (fun m h => ii m ck h X cl W E) (fun m h => ia m ck h X cl W E) hx) h
  | isx c => exact fun m ck h X cl W E => md1_ok (fun x hx => isxE_is E hx) h
  | it a ia => exact fun m ck h X cl W E => itM_is (fun m h => ia m ck h X cl W E) h
  | rg1 a ia => exact fun m ck h X cl W E => rgM_is E (fun tg e he => rg1X_i E (fun m h => ia m ck h X cl W E) he) h
  | rg2 a b ia ib => exact fun m ck h X cl W E => rgM_is E (fun tg e he => rg2X_i E (fun m h => ia m ck h X cl W E) (fun m h => ib m ck h X cl W E) he) h
  | enum a ia => exact fun m ck h X cl W E => enumM_is E (fun m h => ia m ck h X cl W E) h
  | zip a b ia ib => exact fun m ck h X cl W E => zipM_is E (fun m h => ia m ck h X cl W E) (fun m h => ib m ck h X cl W E) h
  | items a ia => exact fun m ck h X cl W E => itemsM_is (fun m h => ia m ck h X cl W E) h
  | lc g i c e ii ic ie =>
    exact fun m ck h X cl W E => md1_ok (fun x hx => by
      obtain ⟨elt, tg, iter, ifs, scope, pos, rfl, L⟩ := lcE_inv E (fun m h => ii m ck h X cl W E) ic (fun h => isTrueC_is h w) ie hx
      exact L.de E.nd) h
  | _ => exact fun m ck h => by cases h
end Mi

set_option Elab.async false
set_option linter.all false
set_option maxRecDepth 100000
set_option maxHeartbeats 4000000
/-! Mi, the checker 5: statements -/
namespace Mi
open PySem L2 PySem.Spec PyProof.Rows
/-- the classes: each is an exception's; how they stand to each other; the one of number 0 is over all -/
structure ExcT (K : PySem.W.Frag) (cn : Nat → Addr) (G : List (Str × GV)) : Prop where
  c : ∀ n, ExcC K (cn n)
  kit : ∀ xc z c, G.lookup z = some (.cls c) → PySem.W.kitOne K (.ref (cn xc)) (.ref (cn c)) = some (isSub c xc)
  top : ∀ n, PySem.W.exmOne K (.ref (cn n)) (.ref (cn 0)) = some true
structure EOkS (ck : Ck) (k : Nat) (tb : Nat → Option FI) (X : Cx) (cl : Gx) (w : Cl) (W : WX) : Prop extends EOk ck k tb X cl w W where
  kind : X.env.scope.kind = .function
  own : ck.calm = true → PassesOwn (model X.prog X.w) X.A X.env X.xe
  stk : ck.calm = true → X.stack = X.env :: X.outer
  fr : X.env.frame = some X.env.locals
  exc : ExcT X.K cl.cl ck.G
abbrev Ms := Stmt ⊕ List Stmt
def SdS (X : Cx) (cl : Gx) (W : WX) (f : Env → Out) : Ms → Prop
  | .inl s => DS X cl W s f
  | .inr l => DSs X cl W l f
abbrev AllS (k : Nat) (tb : Nat → Option FI) (c : Ms → Ck → Bool) (f : Cw → Env → Out) : Prop := ∀ (m : Ms) (ck : Ck), c m ck = true → ∀ (w : Cw) (X : Cx) (cl : Gx) (W : WX), EOkS ck k tb X cl w.toCl W → SdS X cl W (f w) m
section
variable {ck : Ck} {k : Nat} {tb : Nat → Option FI} {X : Cx} {cl : Gx} {w : Cl} {W : WX} {f fa fb fc fd : Env → R D}
def Ck.suite (ck : Ck) (i : Nat) : Ck := { ck with calm := false, ex := some i }
theorem EOkS.tr (E : EOkS ck k tb X cl w W) {W' : WX} {pn : List (Addr × Obj)} {xe : Value → Shared → Prop} (tk : Takes (X.tr pn xe) W') (hp : PassesOwn (model X.prog X.w) X.A X.env xe) (hc : ck.calm = true) (he : ck.ex = none) : EOkS ck k tb (X.tr pn xe) cl w W' :=
  { N := E.N, nd := E.nd, nm := E.nm, g := E.g, cm := fun h => ⟨E.calm h, E.room h, E.hx h, tk⟩, tok := E.tok, su := fun i h => by rw [he] at h; cases h
    un := E.un, no := E.no, kind := E.kind, own := fun _ => hp, stk := E.stk, fr := E.fr, exc := E.exc }
theorem EOkS.suite {w : Cw} (E : EOkS ck k tb X cl w.toCl W) {i c : Nat} {a : Addr} {oe : Obj} {pn : List (Addr × Obj)} (hz : Zc (.ref (cl.cl c)) none oe) (hf : ∃ vs, oe.data = .fields vs) :
    EOkS (ck.suite i) k tb (X.suite a ((a, oe) :: pn)) ⟨cl.cl, some (i, a)⟩ ({ w with x := some c } : Cw).toCl (fun _ _ _ _ => False) :=
  { N := E.N, nd := E.nd, nm := E.nm, g := E.g, cm := fun h => by cases h
    tok := by
      obtain ⟨cl', h, t⟩ := E.tok
      exact ⟨cl', h, t.fn, t.kp, t.bd, t.ar⟩
    su := fun j h => by
      cases h
      exact ⟨X, a, oe, pn, c, rfl, rfl, rfl, E.exc.c c, hz, hf, fun z d hl => E.exc.kit c z d hl⟩
    un := E.un, no := fun j h b e => by
      cases e
      exact h rfl
    kind := E.kind, own := fun h => by cases h
    stk := fun h => by cases h
    fr := E.fr, exc := E.exc }
theorem sw_off {elt : Expr} {gs : List Comprehension} {scope : Scope} {pos py : Pos} {y : Str} {l : Nat} {env : PySem.Env} (h : (env.kindOf y == some .local && py.line == pos.line) = false) : swapsWith (.ListComp elt gs scope pos) (some (.Name y py)) l env = pure false := by
  unfold swapsWith
  show (pure (env.blockKind == .function && env.kindOf y == some .local && py.line == pos.line && !(scope.names.any fun (n, k) => n == y && (k == .local || k == .cell))) : Sem Bool) = pure false
  rw [Bool.and_assoc (env.blockKind == .function), h, Bool.and_false, Bool.false_and]
end
/-! ### the shapes -/
def passM : Ms → Bool
  | .inl (.Pass _) => true
  | .inl (.Expr (.Constant (.str _) _ _) _) => true
  | .inr [] => true
  | _ => false
def noEx (ck : Ck) (i : Nat) : Bool := match ck.ex with
  | some j => !(i == j)
  | none => true
def isNone' {α : Type} : Option α → Bool
  | none => true
  | some _ => false
def setM (ck : Ck) (i : Nat) (e : C) : Ms → Bool
  | .inl (.Assign [.Name x _] v _) => plainSw v && noEx ck i && ck.loc i x && chk e (.e v) ck
  | _ => false
def setLcM (ck : Ck) (i : Nat) (e : C) : Ms → Bool
  | .inl (.Assign [.Name x px] (.ListComp elt gs scope pos) _) => ck.loc i x && decide (ck.nm.lookup x = some .local) && (px.line == pos.line) && !(scope.names.any fun (n, k) => n == x && (k == .local || k == .cell)) && isNone' ck.ex &&
    (match e with
    | .lc g it c e => lcE ck g (fun m => chk it m ck) (isTrueC c) (chk c) (chk e) (.ListComp elt gs scope pos)
    | _ => false)
  | _ => false
/-- a comprehension at a name that is no slot of its line -/
def setCeM (ck : Ck) (i : Nat) (e : C) : Ms → Bool
  | .inl (.Assign [.Name x px] (.ListComp elt gs scope pos) _) => ck.loc i x && (decide (ck.nm.lookup x = some .cell) || !(px.line == pos.line)) && noEx ck i && chk e (.e (.ListComp elt gs scope pos)) ck
  | _ => false
def exM (ck : Ck) (e : C) : Ms → Bool
  | .inl (.Expr v _) => plainSw v && chk e (.e v) ck
  | _ => false
def isNon : C → Bool
  | .k .non => true
  | _ => false
def retM (ck : Ck) (e : C) : Ms → Bool
  | .inl (.Return (some v) _) => chk e (.e v) ck
  | .inl (.Return none _) => isNon e
  | _ => false
def brkM : Ms → Bool
  | .inl (.Break _) => true
  | _ => false
def rzM (ck : Ck) (c : Nat) : Ms → Bool
  | .inl (.Raise (some (.Call (.Name x _) [.Constant (.str _) _ _] [] _)) none _) => ck.calm && ck.glo x && (match ck.G.lookup x with
    | some (.cls d) => decide (d = c)
    | _ => false)
  | _ => false
def chkS : S → Ms → Ck → Bool
  | .pass, m, _ => passM m
  | .seq a b, m, ck => (match m with
    | .inr (s :: ss) => chkS a (.inl s) ck && chkS b (.inr ss) ck
    | _ => false)
  | .set i e, m, ck => setM ck i e m || setLcM ck i e m || setCeM ck i e m
  | .ex e, m, ck => exM ck e m
  | .ret e, m, ck => retM ck e m
  | .brk, m, _ => brkM m
  | .rz c, m, ck => rzM ck c m
  | .ife c a b, m, ck => (match m with
    | .inl (.If t x y _) => chk c (.t t) ck && chkS a (.inr x) ck && chkS b (.inr y) ck
    | _ => false)
  | .fr g it b, m, ck => (match m with
    | .inl (.For tg iter body [] _) => ck.calm && plainFs iter && chk it (.i tg iter) ck && tgOk ck g tg && chkS b (.inr body) ck
    | _ => false)
  | .wh c b, m, ck => (match m with
    | .inl (.While t body [] _) => ck.calm && chk c (.t t) ck && chkS b (.inr body) ck
    | _ => false)
  | .try_ i b h, m, ck => (match m with
    | .inl (.Try body [.ExceptHandler (some (.Name x _)) (some n) (s0 :: ss) _] [] [] _) => ck.calm && isNone' ck.ex && ck.glo x && (match ck.G.lookup x with
      | some (.cls 0) => true
      | _ => false) && decide (ck.N[i]? = some n) && decide (ck.nm.lookup n = some .local) && chkS b (.inr body) ck && chkS h (.inr (s0 :: ss)) (ck.suite i)
    | _ => false)
  | _, _, _ => false
end Mi

set_option Elab.async false
set_option linter.all false
set_option maxRecDepth 100000
set_option maxHeartbeats 4000000
/-! Mi, the checker 6: all statements -/
namespace Mi
open PySem L2 PySem.Spec PyProof.Rows
section
variable {ck : Ck} {k : Nat} {tb : Nat → Option FI} {X : Cx} {cl : Gx} {w : Cl} {W : WX} {f fa fb fc fd : Env → R D}
theorem noEx_is (E : EOk ck k tb X cl w W) {i : Nat} (h : noEx ck i = true) : cl.no i := by
  refine E.no i fun e => ?_
  unfold noEx at h
  rw [e] at h
  simp at h
theorem isNone'_is {α : Type} {o : Option α} (h : isNone' o = true) : o = none := by
  cases o <;> first | rfl | cases h
theorem passM_is {m : Ms} (h : passM m = true) : SdS X cl W (fun ρ => .nx ρ) m := by
  unfold passM at h
  split at h
  · exact ds_pass
  · exact ds_doc
  · exact dss_nil
  · cases h
theorem setM_is (E : EOkS ck k tb X cl w W) {i : Nat} {e : C} {m : Ms} (h : setM ck i e m = true) : SdS X cl W (fun ρ => (ev w e ρ).out ρ fun d => .nx (setS ρ i (.sh d))) m := by
  unfold setM at h
  split at h
  · simp only [Bool.and_eq_true] at h
    obtain ⟨⟨⟨h1, h2⟩, h3⟩, h4⟩ := h
    obtain ⟨l1, l2, l3⟩ := E.loc h3
    exact ds_set (noEx_is E.toEOk h2) E.nd l1 l2 l3 (chk_ok e _ _ h4 _ _ _ E.toEOk) (plainSw_is h1 _ _ _)
  · cases h
theorem setLcM_is (E : EOkS ck k tb X cl w W) {i : Nat} {e : C} {m : Ms} (h : setLcM ck i e m = true) : SdS X cl W (fun ρ => (ev w e ρ).out ρ fun d => .nx (setS ρ i (.sh d))) m := by
  unfold setLcM at h
  split at h
  · simp only [Bool.and_eq_true, decide_eq_true_eq, Bool.not_eq_true'] at h
    obtain ⟨⟨⟨⟨⟨h1, h2⟩, h3⟩, h4⟩, h5⟩, h6⟩ := h
    split at h6
    · rename_i g it c e
      obtain ⟨elt, tg, iter, ifs, scope, pos, ee, L⟩ := lcE_inv E.toEOk (fun m h => chk_ok it m _ h _ _ _ E.toEOk) (chk_ok c) (fun h => isTrueC_is h w) (chk_ok e) h6
      cases ee
      obtain ⟨l1, l2, l3⟩ := E.loc h1
      have hl := E.nm _ _ h2
      exact ds_setLc L.hx L.hc E.nd l1 hl (sw_true E.kind hl h3 h4) L.hi L.ok L.how L.hg L.ht L.he L.hs
    · cases h6
  · cases h
theorem setCeM_is (E : EOkS ck k tb X cl w W) {i : Nat} {e : C} {m : Ms} (h : setCeM ck i e m = true) : SdS X cl W (fun ρ => (ev w e ρ).out ρ fun d => .nx (setS ρ i (.sh d))) m := by
  unfold setCeM at h
  split at h
  · simp only [Bool.and_eq_true, Bool.or_eq_true, decide_eq_true_eq, Bool.not_eq_true'] at h
    obtain ⟨⟨⟨h1, h2⟩, h3⟩, h4⟩ := h
    obtain ⟨l1, l2, l3⟩ := E.loc h1
    refine ds_set (noEx_is E.toEOk h3) E.nd l1 l2 l3 (chk_ok e _ _ h4 _ _ _ E.toEOk) (sw_off ?_)
    rcases h2 with h2 | h2
    · have hl : X.env.kindOf _ = some NameKind.cell := (E.nm _ _ h2).1
      rw [hl]; rfl
    · rw [h2, Bool.and_false]
  · cases h
end
theorem chkS_ok {k : Nat} {tb : Nat → Option FI} : ∀ s : S, AllS k tb (chkS s) (fun w => exec w s) := by
  intro s
  induction s with
  | pass => exact fun m ck h w X cl W E => passM_is h
  | seq a b ia ib =>
    intro m ck h w X cl W E
    unfold chkS at h
    split at h
    · rw [Bool.and_eq_true] at h
      exact dss_cons (ia _ _ h.1 w X cl W E) (ib _ _ h.2 w X cl W E)
    · cases h
  | set i e =>
    intro m ck h w X cl W E
    unfold chkS at h
    simp only [Bool.or_eq_true] at h
    rcases h with (h | h) | h
    · exact setM_is E h
    · exact setLcM_is E h
    · exact setCeM_is E h
  | ex e =>
    intro m ck h w X cl W E
    unfold chkS exM at h
    split at h
    · rw [Bool.and_eq_true] at h
      exact ds_ex (chk_ok e _ _ h.2 _ _ _ E.toEOk) (plainSw_is h.1 _ _ _)
    · cases h
  | ret e =>
    intro m ck h w X cl W E
    unfold chkS retM at h
    split at h
    · exact ds_ret (chk_ok e _ _ h _ _ _ E.toEOk)
    · unfold isNon at h
      split at h
      · exact ds_retN
      · cases h
    · cases h
  | brk =>
    intro m ck h w X cl W E
    unfold chkS brkM at h
    split at h
    · exact ds_brk
    · cases h
  | rz c =>
    intro m ck h w X cl W E
    unfold chkS rzM at h
    split at h
    · simp only [Bool.and_eq_true] at h
      obtain ⟨⟨h1, h2⟩, h3⟩ := h
      split at h3
      · rename_i d hl
        have e : d = c := of_decide_eq_true h3
        subst e
        obtain ⟨gm, bmB, B, newId, initId, F, q, kC, r⟩ := E.g _ _ hl
        exact ds_raise rfl (E.calm h1) (E.tk h1) F q gm kC r (E.glo h2).1 (E.glo h2).2
      · cases h3
    · cases h
  | ife c a b ia ib =>
    intro m ck h w X cl W E
    unfold chkS at h
    split at h
    · simp only [Bool.and_eq_true] at h
      exact ds_if (chk_ok c _ _ h.1.1 _ _ _ E.toEOk) (ia _ _ h.1.2 w X cl W E) (ib _ _ h.2 w X cl W E)
    · cases h
  | fr g it b ib =>
    intro m ck h w X cl W E
    unfold chkS at h
    split at h
    · simp only [Bool.and_eq_true] at h
      obtain ⟨⟨⟨⟨h0, h1⟩, h2⟩, h3⟩, h4⟩ := h
      exact ds_for (E.hx h0) (E.own h0) (E.calm h0) (chk_ok it _ _ h2 _ _ _ E.toEOk) (tgOk_is E.toEOk h3) (ib _ _ h4 w X cl W E) (fun x => plainFs_is h1 _ x)
    · cases h
  | wh c b ib =>
    intro m ck h w X cl W E
    unfold chkS at h
    split at h
    · simp only [Bool.and_eq_true] at h
      exact ds_while (E.own h.1.1) (chk_ok c _ _ h.1.2 _ _ _ E.toEOk) (ib _ _ h.2 w X cl W E) TURNS
    · cases h
  | try_ i b hs ib ih =>
    intro m ck h w X cl W E
    unfold chkS at h
    split at h
    · simp only [Bool.and_eq_true, decide_eq_true_eq] at h
      obtain ⟨⟨⟨⟨⟨⟨⟨h0, h1⟩, h2⟩, h3⟩, h4⟩, h5⟩, h6⟩, h7⟩ := h
      split at h3
      · rename_i hl
        have gm := (E.g _ _ hl).1
        have hn := isNone'_is h1
        refine DS.congr (ds_try (fb := exec w b) (fh := fun c => exec { w with x := some c } hs) (C := .ref (cl.cl 0)) (E.hx h0) (E.stk h0) E.fr E.nd (by rw [E.N]; exact h4) (E.nm _ _ h5) ⟨(E.glo h2).1, (E.glo h2).2, .inl gm⟩ (E.tk h0) E.exc.top
          (fun W' pn xe tk hp => ib _ _ h6 w _ _ _ (E.tr tk hp h0 hn)) fun c a oe pn hz hf => ih _ _ h7 _ _ _ _ (E.suite hz hf)) fun ρ => rfl
      · cases h3
    · cases h
  | _ => exact fun m ck h => by cases h
end Mi

set_option Elab.async false
set_option linter.all false
set_option maxRecDepth 100000
set_option maxHeartbeats 4000000
/-! Mi, the checker 7: a def by its code -/
namespace Mi
open PySem L2 PySem.Spec PyProof.Rows
theorem room_un {k : Nat} {A : Around} (h : Room k A) : A.units + 65 < cLine := by
  have := h.un
  omega
theorem fnD_sound {cl : Gx} {P : Program} {w0 : World} {K : PySem.W.Frag} {mg : Str → Option Value} {base : Heap} {k : Nat} {f : Addr} {fd : FuncData} {x qual : Str} {params : Arguments} {body : List Stmt} {scope : Scope} {dvs : List V} {kws : List (Str × V)}
    {N ps : List Str} {G : List (Str × GV)} {w : Cw} {tb : Nat → Option FI} {code : S} {φ : List D → R D} (hx : cl.ex = none) (F : FunD K x qual params body scope dvs kws f fd) (S : FnScope N ps scope) (hps : ps.length ≤ N.length)
    (hφ : ∀ ds, ds.length = ps.length → φ ds = endR (exec w code (startE N.length (ds.map .sh))))
    (hg : ∀ x g, G.lookup x = some g → GVOk K mg cl.cl tb x g) (t : TOk P w0 K mg base k cl w.toCl tb) (hexc : ExcT K cl.cl G)
    (hchk : chkS code (.inr body) ⟨G, N, scope.names, true, none⟩ = true) :
    FnOk P w0 K mg base (L2.CX P w0) (k + 1) f fd ps (spD K cl ps.length φ) := by
  obtain ⟨oc, od, dV, kV, doc, pm, an, cdv, ct, osl, rfl, lk, hcd, _, _⟩ := F.ex
  refine fn_sound hx lk hcd S hφ hps fun A outer s H E hr => ?_
  refine chkS_ok code (.inr body) _ hchk w _ cl _ { N := rfl, nd := S.nd, nm := fun y kd h => ?_, g := hg, cm := fun _ => ⟨rfl, hr, hx, ?_⟩, tok := ⟨cl, rfl, t⟩, su := fun i h => by cases h
                                                    un := room_un hr, no := fun i _ => no_of hx, kind := S.kind, own := fun _ => L2.passes_of rfl, stk := fun _ => rfl, fr := rfl, exc := hexc }
  · cases kd with
    | «local» => exact h
    | cell => exact ⟨h, rfl⟩
    | free => exact absurd rfl (S.nofree _ (PySem.mem_of_lookup h))
    | globalExplicit => trivial
    | globalImplicit => exact h
  · exact L2.takes_of rfl rfl rfl rfl
end Mi

set_option Elab.async false
set_option linter.all false
set_option maxRecDepth 100000
set_option maxHeartbeats 4000000
/-! Mi, the checker 8: all defs, by the depth of calls -/
namespace Mi
open PySem L2 PySem.Spec PyProof.Rows
/-- a def of the text and its code -/
structure DfOk (K : PySem.W.Frag) (G : List (Str × GV)) (fi : FI) (fd : Fd) : Prop where
  ex : ∃ (x qual : Str) (params : Arguments) (body : List Stmt) (scope : Scope) (N : List Str), FunD K x qual params body scope [] [] fi.ad fi.fd ∧ FnScope N fi.ps scope ∧ fi.ps.length ≤ N.length ∧ fd.ps = fi.ps.length ∧ fd.ns = N.length ∧ fd.io = false ∧
    chkS fd.body (.inr body) ⟨G, N, scope.names, true, none⟩ = true
  kp : PySem.W.keepIn K (.ref fi.ad) = true
  bd : Binds K fi.fd fi.ps []
def cwAt (T : Nat → Option Fd) (n : Nat) : Cw := { f := run T n, x := none, io := runIo T n }
theorem run_step {T : Nat → Option Fd} {n i : Nat} {fd : Fd} (h : T i = some fd) (hio : fd.io = false) (ds : List D) : run T (n + 1) i ds = if ds.length = fd.ps then endR (exec (cwAt T n) fd.body (startE fd.ns (ds.map .sh))) else .no := by
  rw [run, h]
  simp only [hio]
  rfl
theorem tok_all {cl : Gx} {P : Program} {w0 : World} {K : PySem.W.Frag} {mg : Str → Option Value} {base : Heap} {G : List (Str × GV)} {tb : Nat → Option FI} {T : Nat → Option Fd} (hx : cl.ex = none) (hg : ∀ x g, G.lookup x = some g → GVOk K mg cl.cl tb x g) (hexc : ExcT K cl.cl G)
    (hd : ∀ i fi, tb i = some fi → ∃ fd, T i = some fd ∧ DfOk K G fi fd) : ∀ n, TOk P w0 K mg base n cl (cwAt T n).toCl tb := by
  intro n
  induction n with
  | zero =>
    refine ⟨fun i fi h => ?_, fun i fi h => ?_, fun i fi h => ?_, fun i fi ds h hn => ?_⟩
    · refine ⟨fun vs H Q E h => h.1, fun A outer s H args us vs Q E hr e b r h => ?_⟩
      obtain ⟨_, O, ds, _, _, q⟩ := h
      have e0 : (cwAt T 0).toCl.f i ds = .no := by show run T 0 i ds = .no; rw [run]
      rw [e0] at q
      exact q.elim
    · obtain ⟨fd, _, D⟩ := hd i fi h
      exact D.kp
    · obtain ⟨fd, _, D⟩ := hd i fi h
      exact D.bd
    · exact absurd (by show run T 0 i ds = .no; rw [run]) hn
  | succ n ih =>
    refine ⟨fun i fi h => ?_, fun i fi h => ?_, fun i fi h => ?_, fun i fi ds h hn => ?_⟩
    · obtain ⟨fd, hT, D⟩ := hd i fi h
      obtain ⟨x, qual, params, body, scope, N, F, S, h1, h2, h3, h4, h5⟩ := D.ex
      refine fnD_sound hx F S h1 (fun ds hl => ?_) hg ih hexc h5
      show run T (n + 1) i ds = _
      rw [run_step hT h4, if_pos (by rw [h2]; exact hl), h3]
    · obtain ⟨fd, _, D⟩ := hd i fi h
      exact D.kp
    · obtain ⟨fd, _, D⟩ := hd i fi h
      exact D.bd
    · obtain ⟨fd, hT, D⟩ := hd i fi h
      obtain ⟨x, qual, params, body, scope, N, F, S, h1, h2, h3, h4, h5⟩ := D.ex
      have hn : run T (n + 1) i ds ≠ .no := hn
      rw [run_step hT h4] at hn
      by_cases hl : ds.length = fd.ps
      · rw [hl, h2]
      · rw [if_neg hl] at hn
        exact absurd rfl hn
end Mi

set_option Elab.async false
set_option linter.all false
set_option maxRecDepth 100000
set_option maxHeartbeats 4000000
/-! Mi, the checker 9: a law's head -/
namespace Mi
open PySem L2 PySem.Spec PyProof.Rows
/-! ### what is asked of the heap behind the top -/
def excCB (K : PySem.W.Frag) (a : Addr) : Bool :=
  decide (PySem.W.findIn K (.ref a) "__getattribute__" = some (some (.builtin "BaseException.__getattribute__"))) && decide (PySem.W.findIn K (.ref a) "__getattr__" = some none) &&
  decide (PySem.W.subIn K (.ref a) (.type "BaseException") = some true) && PySem.W.hasDictIn K a && decide (PySem.W.findIn K (.ref a) "__class__" = some (some (.builtin "object.__class__"))) &&
  decide (PySem.W.specialIn K (.builtin "object.__class__") "__get__" = some (some (.builtin "getset_descriptor.__get__"))) && decide (PySem.W.takesIn K (.builtin "object.__class__") = some true) && decide (PySem.W.mroIn K a (.type "object") = some true)
theorem excCB_is {K : PySem.W.Frag} {a : Addr} (h : excCB K a = true) : ExcC K a := by
  unfold excCB at h
  simp only [Bool.and_eq_true, decide_eq_true_eq] at h
  obtain ⟨⟨⟨⟨⟨⟨⟨h1, h2⟩, h3⟩, h4⟩, h5⟩, h6⟩, h7⟩, h8⟩ := h
  exact ⟨h1, h2, h3, h4, h5, h6, h7, h8⟩
/-- a law's names: defs (number, name, statement, slots, parameters), classes, constants, built-ins -/
structure Dfn where
  num : Nat
  name : Str
  st : Stmt
  N : List Str
  ps : List Str
structure Nms where
  defs : List Dfn
  clss : List (Nat × Str)
  cons : List (Str × D)
  bts : List Str
def Nms.G (m : Nms) : List (Str × GV) := m.defs.map (fun d => (d.name, GV.fn d.num)) ++ (m.clss.map (fun c => (c.2, GV.cls c.1)) ++ (m.cons.map (fun c => (c.1, GV.con c.2)) ++ m.bts.map fun x => (x, GV.bt)))
def conFa : Str × D → List He.Fa
  | (x, .int i) => [.int x i]
  | (x, .str z) => [.str x (toS z)]
  | _ => []
def conOk : Str × D → Bool
  | (_, .int _) => true
  | (_, .str z) => okStr z
  | _ => false
def Nms.fa (m : Nms) : List He.Fa := m.defs.map (fun d => He.Fa.glo d.name) ++ (m.clss.flatMap (fun c => [He.Fa.glo c.2, He.Fa.exc c.2]) ++ (m.cons.flatMap conFa ++ m.bts.map He.Fa.free))
def Nms.dd (m : Nms) : List He.DefD := m.defs.map fun d => ⟨(d.name, none), d.name, d.name, defArgs d.st, defBody d.st, defScope d.st, [], []⟩
def Nms.cn (m : Nms) (K : PySem.W.Frag) (n : Nat) : Addr := match m.clss.lookup n with
  | some x => He.ga K x
  | none => He.ga K ((m.clss.lookup 0).getD "")
def Nms.ex (m : Nms) (K : PySem.W.Frag) : Bool := m.clss.all fun c => excCB K (He.ga K c.2) && decide (PySem.W.exmOne K (.ref (He.ga K c.2)) (.ref (m.cn K 0)) = some true) && m.clss.all fun d => decide (PySem.W.kitOne K (.ref (He.ga K c.2)) (.ref (He.ga K d.2)) = some (isSub d.1 c.1))
/-- the hook -/
abbrev AlM : Type := He.AlD × Bool
def obsM (n : Nat) (m : Nms) (g : Addr → Option Obj) : AlM := (He.obsDG n m.fa m.dd g, m.ex (He.frG g (He.asD g n)))
def hookM (n : Nat) (m : Nms) : PySem.W.Hook where
  α := AlM
  obs := fun s => obsM n m s.heap.get?
  val := fun _ => (He.valD m.dd, true)
  says := fun _ h => ∃ K : PySem.W.Frag, K.In h ∧ He.SaysD m.fa m.dd K ∧ m.ex K = true
  of := fun _ h e => ⟨_, He.frG_in, congrArg (fun z : AlM => z.1) e, congrArg (fun z : AlM => z.2) e⟩
  keeps := fun _ _ _ ⟨K, hK, c⟩ k => ⟨K, PySem.W.Frag.In.keeps hK k, c⟩
theorem obsM_eq {n : Nat} {m : Nms} {g : Addr → Option Obj} {s : Shared} (h : ∀ a, g a = s.heap.get? a) : obsM n m g = (hookM n m).obs s := by
  have e : g = s.heap.get? := funext h
  rw [e]
  rfl
/-! ### what follows of it -/
theorem look_in {α β : Type} [BEq α] [LawfulBEq α] : ∀ {l : List (α × β)} {a : α} {b : β}, l.lookup a = some b → (a, b) ∈ l
  | [], _, _, h => by simp at h
  | (c, d) :: r, a, b, h => by
    rw [List.lookup_cons] at h
    cases e : a == c with
    | true =>
      rw [e] at h
      cases h
      rw [eq_of_beq e]
      exact List.mem_cons_self
    | false =>
      rw [e] at h
      exact List.mem_cons_of_mem _ (look_in h)
theorem say_fact {fa : List He.Fa} {fn : List He.DefD} {K : PySem.W.Frag} (c : He.SaysD fa fn K) {f : He.Fa} (h : f ∈ fa) : f.ok K = true := by
  obtain ⟨i, hi⟩ := List.mem_iff_getElem?.mp h
  exact c.fact i hi
theorem say_def {fa : List He.Fa} {fn : List He.DefD} {K : PySem.W.Frag} (c : He.SaysD fa fn K) {d : He.DefD} (h : d ∈ fn) : ∃ fd, FunD K d.name d.qual d.params d.body d.scope (d.dvs K) (d.kws K) (He.fAd K d.at_) fd := by
  obtain ⟨i, hi⟩ := List.mem_iff_getElem?.mp h
  exact c.def_ i hi
section
variable {K : PySem.W.Frag} {m : Nms}
/-- the classes' numbers are of one kind -/
def Nms.clsB (m : Nms) : Bool := (m.clss.lookup 0).isSome && m.clss.all fun c => decide (m.clss.lookup c.1 = some c.2)
theorem Nms.mem_cls {x : Str} {c : Nat} (h : m.G.lookup x = some (.cls c)) : (c, x) ∈ m.clss := by
  have h2 := look_in h
  unfold Nms.G at h2
  rcases List.mem_append.mp h2 with h2 | h2
  · obtain ⟨d, _, e⟩ := List.mem_map.mp h2
    cases e
  · rcases List.mem_append.mp h2 with h2 | h2
    · obtain ⟨d, hd, e⟩ := List.mem_map.mp h2
      cases e
      exact hd
    · rcases List.mem_append.mp h2 with h2 | h2
      · obtain ⟨d, _, e⟩ := List.mem_map.mp h2
        cases e
      · obtain ⟨d, _, e⟩ := List.mem_map.mp h2
        cases e
theorem Nms.exc (q : m.ex K = true) (hb : m.clsB = true) : ExcT K (m.cn K) m.G := by
  unfold Nms.ex at q
  unfold Nms.clsB at hb
  rw [Bool.and_eq_true] at hb
  obtain ⟨h0, hb⟩ := hb
  simp only [List.all_eq_true, Bool.and_eq_true, decide_eq_true_eq] at q hb
  obtain ⟨x0, hx0⟩ := Option.isSome_iff_exists.mp h0
  have all : ∀ n, ∃ j x, (j, x) ∈ m.clss ∧ m.cn K n = He.ga K x ∧ (j = n ∨ (m.clss.lookup n = none ∧ j = 0)) := fun n => by
    unfold Nms.cn
    cases h : m.clss.lookup n with
    | some x => exact ⟨n, x, look_in h, rfl, .inl rfl⟩
    | none => exact ⟨0, x0, look_in hx0, by rw [hx0]; rfl, .inr ⟨rfl, rfl⟩⟩
  refine ⟨fun n => ?_, fun xc z k hz => ?_, fun n => ?_⟩
  · obtain ⟨j, x, h1, h2, _⟩ := all n
    rw [h2]
    exact excCB_is (q _ h1).1.1
  · obtain ⟨j, x, h1, h2, h3⟩ := all xc
    have h4 := Nms.mem_cls hz
    have h5 := hb _ h4
    have e : m.cn K k = He.ga K z := by unfold Nms.cn; rw [h5]
    rw [h2, e, (q _ h1).2 _ h4]
    rcases h3 with rfl | ⟨h3, rfl⟩
    · rfl
    · have : (k == xc) = false := by
        rw [beq_eq_false_iff_ne]
        intro e2
        rw [e2] at h5
        rw [h3] at h5
        cases h5
      show some ((k == 0) || (k == 0)) = some ((k == xc) || (k == 0))
      rw [this, Bool.or_self, Bool.false_or]
  · obtain ⟨j, x, h1, h2, _⟩ := all n
    rw [h2]
    exact (q _ h1).1.2
/-- a def of the text with its code -/
def DfnOk (T : Nat → Option Fd) (m : Nms) (d : Dfn) : Prop := ∃ fd, T d.num = some fd ∧ ∀ (K : PySem.W.Frag) (f : Addr) (fu : FuncData), FunD K d.name d.name (defArgs d.st) (defBody d.st) (defScope d.st) [] [] f fu → DfOk K m.G ⟨f, fu, d.ps⟩ fd
theorem dfnOk {T : Nat → Option Fd} {m : Nms} {d : Dfn} {fd : Fd} (hT : T d.num = some fd) (hS : FnScope d.N d.ps (defScope d.st)) (hl : d.ps.length ≤ d.N.length) (h1 : fd.ps = d.ps.length) (h2 : fd.ns = d.N.length) (h3 : fd.io = false)
    (hc : chkS fd.body (.inr (defBody d.st)) ⟨m.G, d.N, (defScope d.st).names, true, none⟩ = true)
    (hb : ∀ (kV doc pm : Value) (an : Option Addr) (cdv ct : Value) (us : List Value), us.length = d.ps.length → bindArgs (PySem.W.fnOf d.name d.name (defArgs d.st) (defBody d.st) (defScope d.st) .none kV doc pm an cdv ct) ⟨us, []⟩ = pure (d.ps.zip us)) : DfnOk T m d :=
  ⟨fd, hT, fun K f fu F => ⟨⟨_, _, _, _, _, d.N, F, hS, hl, h1, h2, h3, hc⟩, F.kp, F.bindsN hb⟩⟩
open Classical in
/-- the defs as they lie -/
noncomputable def Nms.tb (m : Nms) (K : PySem.W.Frag) (n : Nat) : Option FI := match m.defs.find? fun d => d.num == n with
  | some d => if h : ∃ fu, FunD K d.name d.name (defArgs d.st) (defBody d.st) (defScope d.st) [] [] (He.ga K d.name) fu then some ⟨He.ga K d.name, h.choose, d.ps⟩ else none
  | none => none
/-- the defs' numbers differ -/
def Nms.defB (m : Nms) : Bool := m.defs.all fun d => match m.defs.find? (fun e => e.num == d.num) with
  | some e => decide (e.name = d.name) && decide (e.ps = d.ps)
  | none => false
theorem Nms.tb_inv {n : Nat} {fi : FI} (h : m.tb K n = some fi) : ∃ d ∈ m.defs, d.num = n ∧ fi.ad = He.ga K d.name ∧ fi.ps = d.ps ∧ FunD K d.name d.name (defArgs d.st) (defBody d.st) (defScope d.st) [] [] fi.ad fi.fd := by
  unfold Nms.tb at h
  split at h
  · rename_i d hd
    split at h
    · rename_i hx
      cases h
      exact ⟨d, List.mem_of_find?_eq_some hd, by have := List.find?_some hd; simpa using this, rfl, rfl, hx.choose_spec⟩
    · cases h
  · cases h
theorem Nms.tb_some (c : He.SaysD m.fa m.dd K) (hb : m.defB = true) {d : Dfn} (hd : d ∈ m.defs) : ∃ fi, m.tb K d.num = some fi ∧ fi.ad = He.ga K d.name ∧ fi.ps = d.ps := by
  unfold Nms.defB at hb
  have h1 := List.all_eq_true.mp hb d hd
  split at h1
  · rename_i e he
    simp only [Bool.and_eq_true, decide_eq_true_eq] at h1
    have hm := List.mem_of_find?_eq_some he
    have hx : ∃ fu, FunD K e.name e.name (defArgs e.st) (defBody e.st) (defScope e.st) [] [] (He.ga K e.name) fu := say_def c (d := ⟨(e.name, none), e.name, e.name, defArgs e.st, defBody e.st, defScope e.st, [], []⟩) (List.mem_map.mpr ⟨e, hm, rfl⟩)
    refine ⟨⟨He.ga K e.name, hx.choose, e.ps⟩, ?_, congrArg (He.ga K) h1.1, h1.2⟩
    unfold Nms.tb
    rw [he]
    exact dif_pos hx
  · cases h1
theorem Nms.gv {h : Heap} {mg : Str → Option Value} (X : K.In h) (Gm : h.Ns mainGlobals mg) (c : He.SaysD m.fa m.dd K) (hdb : m.defB = true) (hcb : m.clsB = true) (hcon : m.cons.all conOk = true) {x : Str} {g : GV} (hx : m.G.lookup x = some g) : GVOk K mg (m.cn K) (m.tb K) x g := by
  have fa : ∀ f, f ∈ m.fa → f.ok K = true := fun f hf => say_fact c hf
  have h2 := look_in hx
  unfold Nms.G at h2
  unfold Nms.fa at fa
  simp only [List.mem_append] at h2 fa
  rcases h2 with h2 | h2 | h2 | h2
  · obtain ⟨d, hd, e⟩ := List.mem_map.mp h2
    cases e
    obtain ⟨fi, h3, h4, _⟩ := Nms.tb_some c hdb hd
    refine ⟨fi, h3, ?_⟩
    rw [h4]
    exact He.glo_ok X Gm (fa (.glo d.name) (.inl (List.mem_map.mpr ⟨d, hd, rfl⟩)))
  · obtain ⟨d, hd, e⟩ := List.mem_map.mp h2
    cases e
    have f1 := fa (.glo d.2) (.inr (.inl (List.mem_flatMap.mpr ⟨d, hd, by simp⟩)))
    have f2 := fa (.exc d.2) (.inr (.inl (List.mem_flatMap.mpr ⟨d, hd, by simp⟩)))
    have e : m.cn K d.1 = He.ga K d.2 := by
      unfold Nms.clsB at hcb
      rw [Bool.and_eq_true] at hcb
      have := of_decide_eq_true (List.all_eq_true.mp hcb.2 d hd)
      unfold Nms.cn
      rw [this]
    obtain ⟨g1, g2, g3, g4⟩ := He.exc_ok f2
    show mg d.2 = some (.ref (m.cn K d.1)) ∧ ClsOk K (m.cn K d.1)
    rw [e]
    exact ⟨He.glo_ok X Gm f1, _, _, _, _, PySem.F.excBase_ValueError, g1, g2, fun M h hK => ⟨PySem.W.looks_subIn hK g3, PySem.W.looks_typeIn hK g4⟩⟩
  · obtain ⟨d, hd, e⟩ := List.mem_map.mp h2
    cases e
    have ho := List.all_eq_true.mp hcon d hd
    obtain ⟨y, v⟩ := d
    cases v <;> first | (cases ho; done) | skip
    · rename_i i
      obtain ⟨t, ht⟩ := He.int_ok X Gm (fa (.int y i) (.inr (.inr (.inl (List.mem_flatMap.mpr ⟨_, hd, by simp [conFa]⟩)))))
      exact ⟨_, .int i, ht, ⟨t, rfl⟩, fun O H => .int i⟩
    · rename_i z
      obtain ⟨t, ht⟩ := He.str_ok X Gm (fa (.str y (toS z)) (.inr (.inr (.inl (List.mem_flatMap.mpr ⟨_, hd, by simp [conFa]⟩)))))
      exact ⟨_, .str (toS z), ht, ⟨t, rfl⟩, fun O H => .str z (okStr_is ho)⟩
  · obtain ⟨y, hy, e⟩ := List.mem_map.mp h2
    cases e
    exact He.free_ok X Gm (fa (.free x) (.inr (.inr (.inr (List.mem_map.mpr ⟨x, hy, rfl⟩)))))
/-- the law's own def, by its number -/
theorem Nms.law {T : Nat → Option Fd} {P : Program} {w : World} {h : Heap} {mg : Str → Option Value} (X : K.In h) (Gm : h.Ns mainGlobals mg) (c : He.SaysD m.fa m.dd K) (q : m.ex K = true) (hdb : m.defB = true) (hcb : m.clsB = true) (hcon : m.cons.all conOk = true)
    (hd : ∀ d ∈ m.defs, DfnOk T m d) {dl : Dfn} (hl : dl ∈ m.defs) (n : Nat) : ∃ fd, FunD K dl.name dl.name (defArgs dl.st) (defBody dl.st) (defScope dl.st) [] [] (He.ga K dl.name) fd ∧ mg dl.name = some (.ref (He.ga K dl.name)) ∧
      ∀ base : Heap, K.In base → base.Ns mainGlobals mg → FnOk P w K mg base (L2.CX P w) n (He.ga K dl.name) fd dl.ps (spD K ⟨m.cn K, none⟩ dl.ps.length (run T n dl.num)) := by
  obtain ⟨fi, h1, h2, h3⟩ := Nms.tb_some c hdb hl
  have gl := He.glo_ok X Gm (say_fact c (f := .glo dl.name) (by unfold Nms.fa; exact List.mem_append_left _ (List.mem_map.mpr ⟨dl, hl, rfl⟩)))
  obtain ⟨d', k1, k2, k3, k4, k5⟩ := Nms.tb_inv h1
  have hfu := say_def c (d := ⟨(dl.name, none), dl.name, dl.name, defArgs dl.st, defBody dl.st, defScope dl.st, [], []⟩) (List.mem_map.mpr ⟨dl, hl, rfl⟩)
  obtain ⟨fu, hfu⟩ := hfu
  have hfu : FunD K dl.name dl.name (defArgs dl.st) (defBody dl.st) (defScope dl.st) [] [] (He.ga K dl.name) fu := hfu
  have same : fi.fd = fu := by
    obtain ⟨_, _, _, _, _, _, _, _, _, _, e1, lk1, _⟩ := k5.ex
    obtain ⟨_, _, _, _, _, _, _, _, _, _, e2, lk2, _⟩ := hfu.ex
    rw [h2] at lk1
    have z := congrArg (fun o : Option Obj => match o with | some ⟨_, _, .func fd, _⟩ => some fd | _ => none) (lk1.symm.trans lk2)
    first | exact Option.some.inj z | exact e1.trans (Option.some.inj z)
  refine ⟨fu, hfu, gl, fun base hK hN => ?_⟩
  have tok := tok_all (P := P) (w0 := w) (K := K) (mg := mg) (base := base) (cl := ⟨m.cn K, none⟩) (G := m.G) (tb := m.tb K) (T := T) rfl (fun x g hx => Nms.gv X Gm c hdb hcb hcon hx) (Nms.exc q hcb) (fun i fi hi => by
    obtain ⟨d, z1, z2, z3, z4, z5⟩ := Nms.tb_inv hi
    obtain ⟨fd, w1, w2⟩ := hd d z1
    refine ⟨fd, by rw [← z2]; exact w1, ?_⟩
    have := w2 K fi.ad fi.fd z5
    rw [← z4] at this
    exact this) n
  have r := tok.fn dl.num fi h1
  rw [h2, h3, same] at r
  exact r
end
/-- the end: a law over the head, an exception's context told by the world -/
theorem walk_law {l : PySem.W.OpenLaw} {n k : Nat} {q : Program} {loose : List Str} {XP : (Str → Option Value) → Heap → Prop} {YP : World → Heap → Prop} {d : DefRec} {x : Str}
    (hn : l.most = some n) (hz : n ≤ sizeLine) (hdf : d.params.defaults = []) (hr : Room k callerA)
    (F : ∀ (w : World) (mg : Str → Option Value) (fa : Addr) (h : Heap), YP w h → h.Ns mainGlobals mg → mg d.name = some (.ref fa) → ∃ (K : PySem.W.Frag) (fd : FuncData) (cl : Gx) (φ : List D → R D), K.In h ∧ (∀ (s : Shared) (u : Value), BindsTo s fd ⟨[u], []⟩ [(x, u)]) ∧
        (∀ ns : List Int, ns.length ≤ n → φ [.scr ns] = .ok (.bl true)) ∧ (∀ base : Heap, K.In base → base.Ns mainGlobals mg → FnOk l.prog w K mg base (L2.CX l.prog w) k fa fd [x] (spD K cl 1 φ))) :
    PySem.W.WalkO q loose XP YP l.row.toRowW d [] (fun f vs => PySem.call f vs) := by
  refine Att.attach_call hn hdf fun w s0 s1 mg mb fa _ _ _ _ a vs ns gr Y _ _ _ hm hob hin hle hge => ?_
  obtain ⟨K, fd, cl, φ, KX, hb, hφ, hF⟩ := F w mg fa _ Y gr.T.g hm
  refine law_call KX gr.T.g gr.T.b gr.T.builtins gr.T.nolimit hge hob hin (by omega) hr hF hb (fun H _ hS => ?_) fun H e s' z => ?_
  · refine ⟨rfl, fun _ => False, [.scr ns], fun _ z => z.elim, .cons (.scr ?_) .nil, ?_⟩
    · rcases hS with h | h
      · exact .inl ⟨id, h⟩
      · exact .inr h
    · rw [hφ ns hle]
      exact fun v H' _ r => r.inv_bl
  · obtain ⟨_, _, _, _, _, _, _, _, _, _, _, _, z⟩ := z
    exact z
end Mi

set_option linter.all false
/-! printed by gen2.py -/
namespace Mip
open Mi
/-- is_letter: 0:value -/
def c0 : S := .seq (.ret (.and (.b1 .isStr (.v 0)) (.and (.cm .eq (.b1 .len (.v 0)) (.k (.int 1))) (.cm .inn (.v 0) (.k (.str [97, 98, 99, 100, 101, 102, 103, 104, 105, 106, 107, 108, 109, 110, 111, 112, 113, 114, 115, 116, 117, 118, 119, 120, 121, 122])))))) (.pass)
def fd0 : Fd := ⟨1, 1, false, c0⟩
/-- is_name: 0:value 1:sign -/
def c1 : S := .seq (.ret (.and (.b1 .isStr (.v 0)) (.and (.ch .le .le (.k (.int 1)) (.b1 .len (.v 0)) (.k (.int 8))) (.b1 .all (.lc (.one 1) (.it (.v 0)) (.k (.bl true)) (.cm .inn (.v 1) (.k (.str [97, 98, 99, 100, 101, 102, 103, 104, 105, 106, 107, 108, 109, 110, 111, 112, 113, 114, 115, 116, 117, 118, 119, 120, 121, 122])))))))) (.pass)
def fd1 : Fd := ⟨1, 2, false, c1⟩
/-- is_menu: 0:candidate 1:name -/
def c2 : S := .seq (.ife (.or (.not (.b1 .isTuple (.v 0))) (.cm .gt (.b1 .len (.v 0)) (.k (.int 8)))) (.seq (.ret (.k (.bl false))) (.pass)) (.pass)) (.seq (.ife (.not (.b1 .all (.lc (.one 1) (.it (.v 0)) (.k (.bl true)) (.call 1 (.cons (.v 1) (.nil)))))) (.seq (.ret (.k (.bl false))) (.pass)) (.pass)) (.seq (.ret (.cm .eq (.b1 .lset (.v 0)) (.b1 .len (.v 0)))) (.pass)))
def fd2 : Fd := ⟨1, 2, false, c2⟩
/-- fits: 0:name 1:letter -/
def c3 : S := .seq (.ret (.or (.cm .is (.v 1) (.k (.non))) (.and (.call 0 (.cons (.v 1) (.nil))) (.cm .inn (.v 1) (.v 0))))) (.pass)
def fd3 : Fd := ⟨2, 2, false, c3⟩
/-- has_assignment: 0:menu 1:candidate 2:used 3:letter 4:name -/
def c4 : S := .seq (.ife (.or (.not (.b1 .isTuple (.v 1))) (.cm .ne (.b1 .len (.v 1)) (.b1 .len (.v 0)))) (.seq (.ret (.k (.bl false))) (.pass)) (.pass)) (.seq (.ife (.not (.b1 .all (.lc (.two 4 3) (.zip (.v 0) (.v 1)) (.k (.bl true)) (.call 3 (.cons (.v 4) (.cons (.v 3) (.nil))))))) (.seq (.ret (.k (.bl false))) (.pass)) (.pass)) (.seq (.set 2 (.lc (.one 3) (.it (.v 1)) (.cm .nis (.v 3) (.k (.non))) (.v 3))) (.seq (.ret (.cm .eq (.b1 .lset (.v 2)) (.b1 .len (.v 2)))) (.pass))))
def fd4 : Fd := ⟨2, 5, false, c4⟩
/-- check_menu: 0:value -/
def c5 : S := .seq (.ife (.not (.call 2 (.cons (.v 0) (.nil)))) (.seq (.rz 1) (.pass)) (.pass)) (.pass)
def fd5 : Fd := ⟨1, 1, false, c5⟩
/-- check_name: 0:value -/
def c6 : S := .seq (.ife (.not (.call 1 (.cons (.v 0) (.nil)))) (.seq (.rz 3) (.pass)) (.pass)) (.pass)
def fd6 : Fd := ⟨1, 1, false, c6⟩
/-- check_assignment: 0:menu 1:value -/
def c7 : S := .seq (.ife (.not (.call 4 (.cons (.v 0) (.cons (.v 1) (.nil))))) (.seq (.rz 2) (.pass)) (.pass)) (.pass)
def fd7 : Fd := ⟨2, 2, false, c7⟩
/-- is_assignment: 0:menu 1:candidate -/
def c8 : S := .seq (.ex (.call 5 (.cons (.v 0) (.nil)))) (.seq (.ret (.call 4 (.cons (.v 0) (.cons (.v 1) (.nil))))) (.pass))
def fd8 : Fd := ⟨2, 2, false, c8⟩
/-- letters_of: 0:name -/
def c9 : S := .seq (.ret (.b1 .sset (.v 0))) (.pass)
def fd9 : Fd := ⟨1, 1, false, c9⟩
/-- letters: 0:name -/
def c10 : S := .seq (.ex (.call 6 (.cons (.v 0) (.nil)))) (.seq (.ret (.call 9 (.cons (.v 0) (.nil)))) (.pass))
def fd10 : Fd := ⟨1, 1, false, c10⟩
/-- place: 0:name 1:letter -/
def c11 : S := .seq (.ex (.call 6 (.cons (.v 0) (.nil)))) (.seq (.ife (.not (.call 0 (.cons (.v 1) (.nil)))) (.seq (.rz 4) (.pass)) (.pass)) (.seq (.ret (.ife (.cm .inn (.v 1) (.v 0)) (.b2 .index (.v 0) (.v 1)) (.k (.non)))) (.pass)))
def fd11 : Fd := ⟨2, 2, false, c11⟩
/-- cost_of: 0:menu 1:assignment 2:name 3:letter -/
def c12 : S := .seq (.ret (.b1 .sum (.lc (.two 2 3) (.zip (.v 0) (.v 1)) (.cm .nis (.v 3) (.k (.non))) (.b2 .index (.v 2) (.v 3))))) (.pass)
def fd12 : Fd := ⟨2, 4, false, c12⟩
/-- size: 0:menu 1:assignment 2:letter -/
def c13 : S := .seq (.ex (.call 5 (.cons (.v 0) (.nil)))) (.seq (.ex (.call 7 (.cons (.v 0) (.cons (.v 1) (.nil))))) (.seq (.ret (.b1 .len (.lc (.one 2) (.it (.v 1)) (.cm .nis (.v 2) (.k (.non))) (.v 2)))) (.pass)))
def fd13 : Fd := ⟨2, 3, false, c13⟩
/-- cost: 0:menu 1:assignment -/
def c14 : S := .seq (.ex (.call 5 (.cons (.v 0) (.nil)))) (.seq (.ex (.call 7 (.cons (.v 0) (.cons (.v 1) (.nil))))) (.seq (.ret (.call 12 (.cons (.v 0) (.cons (.v 1) (.nil))))) (.pass)))
def fd14 : Fd := ⟨2, 2, false, c14⟩
/-- greedy: 0:menu 1:found 2:name 3:left 4:letter -/
def b15_1 : S := .seq (.set 3 (.lc (.one 4) (.it (.v 2)) (.cm .nin (.v 4) (.v 1)) (.v 4))) (.seq (.set 1 (.op .add (.v 1) (.tup (.cons (.ife (.cm .ne (.v 3) (.lst (.nil))) (.ix (.v 3) (.k (.int 0))) (.k (.non))) (.nil))))) (.pass))
def c15 : S := .seq (.ex (.call 5 (.cons (.v 0) (.nil)))) (.seq (.set 1 (.tup (.nil))) (.seq (.fr (.one 2) (.it (.v 0)) (b15_1)) (.seq (.ret (.v 1)) (.pass))))
def fd15 : Fd := ⟨1, 5, false, c15⟩
/-- _law_drawn: 0:_law_script 1:_law_k 2:_law_many 3:_law_cell 4:_law_turn 5:_law_rest -/
def b16_1 : S := .seq (.set 5 (.op .div (.v 5) (.k (.int 1000000)))) (.seq (.set 4 (.op .sub (.v 4) (.k (.int 1)))) (.pass))
def c16 : S := .seq (.set 3 (.op .mul (.k (.int 7)) (.v 1))) (.seq (.ife (.cm .ne (.v 0) (.lst (.nil))) (.seq (.set 3 (.ix (.v 0) (.op .mod (.v 1) (.b1 .len (.v 0))))) (.seq (.set 4 (.op .div (.v 1) (.b1 .len (.v 0)))) (.seq (.ife (.and (.cm .ge (.v 3) (.op .pow (.k (.int 10)) (.k (.int 18)))) (.cm .lt (.v 4) (.k (.int 60)))) (.seq (.set 5 (.op .div (.v 3) (.op .pow (.k (.int 10)) (.k (.int 18))))) (.seq (.wh (.and (.cm .gt (.v 5) (.k (.int 0))) (.cm .gt (.v 4) (.k (.int 0)))) (b16_1)) (.seq (.ife (.cm .gt (.v 5) (.k (.int 0))) (.seq (.ret (.op .mod (.op .mod (.v 5) (.k (.int 1000000))) (.v 2))) (.pass)) (.pass)) (.pass)))) (.pass)) (.seq (.set 3 (.op .add (.v 3) (.op .mul (.k (.int 6553)) (.op .div (.v 1) (.b1 .len (.v 0)))))) (.pass))))) (.pass)) (.seq (.set 3 (.op .mod (.op .add (.op .mul (.op .mod (.v 3) (.k (.int 2147483563))) (.k (.int 69069))) (.op .mul (.k (.int 104723)) (.op .add (.v 1) (.k (.int 1))))) (.k (.int 2147483563)))) (.seq (.set 3 (.op .mod (.op .add (.op .mul (.v 3) (.v 3)) (.op .div (.v 3) (.k (.int 3)))) (.k (.int 2147483399)))) (.seq (.ret (.op .mod (.op .div (.op .mod (.op .add (.op .mul (.v 3) (.v 3)) (.op .div (.v 3) (.k (.int 7)))) (.k (.int 2147483647))) (.k (.int 11))) (.v 2))) (.pass)))))
def fd16 : Fd := ⟨3, 6, false, c16⟩
/-- _law_menu_k01: 0:_law_script 1:_law_at 2:_law_most 3:_law_kinds 4:_law_found 5:_law_k 6:_law_name 7:_law_n -/
def b17_1 : S := .seq (.set 6 (.op .add (.v 6) (.ix (.k (.str [97, 98, 99, 100, 101, 102, 103, 104])) (.call 16 (.cons (.v 0) (.cons (.op .add (.op .add (.op .add (.v 1) (.k (.int 2))) (.op .mul (.k (.int 6)) (.v 5))) (.v 7)) (.cons (.v 3) (.nil)))))))) (.pass)
def b17_2 : S := .seq (.set 6 (.k (.str []))) (.seq (.fr (.one 7) (.rg1 (.op .add (.k (.int 1)) (.call 16 (.cons (.v 0) (.cons (.op .add (.op .add (.v 1) (.k (.int 1))) (.op .mul (.k (.int 6)) (.v 5))) (.cons (.k (.int 3)) (.nil))))))) (b17_1)) (.seq (.set 4 (.op .add (.v 4) (.ife (.cm .nin (.v 6) (.v 4)) (.lst (.cons (.v 6) (.nil))) (.lst (.nil))))) (.pass)))
def c17 : S := .seq (.set 4 (.lst (.nil))) (.seq (.fr (.one 5) (.rg1 (.call 16 (.cons (.v 0) (.cons (.v 1) (.cons (.op .add (.v 2) (.k (.int 1))) (.nil)))))) (b17_2)) (.seq (.ret (.b1 .tuple (.v 4))) (.pass)))
def fd17 : Fd := ⟨4, 8, false, c17⟩
/-- _law_cost_k01: 0:_law_menu_here 1:_law_assignment 2:_law_found 3:_law_name 4:_law_letter -/
def b18_1 : S := .seq (.set 2 (.op .add (.v 2) (.ife (.cm .nis (.v 4) (.k (.non))) (.b2 .index (.v 3) (.v 4)) (.k (.int 0))))) (.pass)
def c18 : S := .seq (.set 2 (.k (.int 0))) (.seq (.fr (.two 3 4) (.zip (.v 0) (.v 1)) (b18_1)) (.seq (.ret (.v 2)) (.pass)))
def fd18 : Fd := ⟨2, 5, false, c18⟩
/-- _law_partial: 0:_law_menu_here 1:_law_found 2:_law_name 3:_law_longer 4:_law_some 5:_law_letter -/
def b19_1 : S := .seq (.set 3 (.op .add (.v 3) (.lc (.one 5) (.it (.b1 .sset (.v 2))) (.cm .nin (.v 5) (.v 4)) (.op .add (.v 4) (.tup (.cons (.v 5) (.nil))))))) (.pass)
def b19_2 : S := .seq (.set 3 (.lc (.one 4) (.it (.v 1)) (.k (.bl true)) (.op .add (.v 4) (.tup (.cons (.k (.non)) (.nil)))))) (.seq (.fr (.one 4) (.it (.v 1)) (b19_1)) (.seq (.set 1 (.v 3)) (.pass)))
def c19 : S := .seq (.set 1 (.lst (.cons (.tup (.nil)) (.nil)))) (.seq (.fr (.one 2) (.it (.v 0)) (b19_2)) (.seq (.ret (.v 1)) (.pass)))
def fd19 : Fd := ⟨1, 6, false, c19⟩
/-- _law_badmenu: 0:_law_script 1:_law_at 2:_law_bad -/
def c20 : S := .seq (.set 2 (.lst (.cons (.k (.non)) (.cons (.lst (.nil)) (.cons (.lst (.cons (.k (.str [97])) (.nil))) (.cons (.tup (.cons (.k (.str [97])) (.cons (.k (.str [97])) (.nil)))) (.cons (.tup (.cons (.k (.str [])) (.nil))) (.cons (.tup (.cons (.k (.str [65])) (.nil))) (.cons (.tup (.cons (.k (.str [97, 98, 99, 100, 101, 102, 103, 104, 105])) (.nil))) (.cons (.tup (.cons (.k (.str [97])) (.cons (.k (.int 7)) (.nil)))) (.cons (.k (.str [97, 98])) (.nil)))))))))))) (.seq (.set 2 (.op .add (.v 2) (.lst (.cons (.b1 .tuple (.k (.str [97, 98, 99, 100, 101, 102, 103, 104, 105]))) (.cons (.tup (.cons (.tup (.cons (.k (.str [97])) (.nil))) (.nil))) (.nil)))))) (.seq (.ret (.ix (.v 2) (.call 16 (.cons (.v 0) (.cons (.v 1) (.cons (.k (.int 11)) (.nil))))))) (.pass)))
def fd20 : Fd := ⟨2, 3, false, c20⟩
/-- _law_error_k01: 0:_law_way 1:_law_one 2:_law_two 3:e 4:_law_flags -/
def b21_1 : S := .seq (.ife (.cm .lt (.v 0) (.k (.int 4))) (.seq (.ex (.pick [8, 13, 14, 11] (.v 0) (.cons (.v 1) (.cons (.v 2) (.nil))))) (.pass)) (.seq (.ex (.pick [15, 10] (.op .sub (.v 0) (.k (.int 4))) (.cons (.v 1) (.nil)))) (.pass))) (.pass)
def b21_2 : S := .seq (.set 4 (.lst (.cons (.isx 1) (.cons (.isx 2) (.nil))))) (.seq (.set 4 (.op .add (.v 4) (.lst (.cons (.isx 3) (.nil))))) (.seq (.ret (.b2 .index (.op .add (.v 4) (.lst (.cons (.isx 4) (.nil)))) (.k (.bl true)))) (.pass)))
def c21 : S := .seq (.try_ 3 (b21_1) (b21_2)) (.seq (.ret (.k (.non))) (.pass))
def fd21 : Fd := ⟨3, 5, false, c21⟩
/-- law_k01: 0:_law_script 1:_law_menu_here 2:_law_rows 3:_law_row 4:_law_drawn_here 5:_law_found 6:_law_name 7:_law_odd 8:_law_bad 9:_law_letter 10:_law_told 11:_law_left 12:_law_way 13:_law_k -/
def b22_1 : S := .seq (.set 11 (.lc (.one 9) (.it (.v 6)) (.cm .nin (.v 9) (.v 5)) (.v 9))) (.seq (.set 5 (.op .add (.v 5) (.tup (.cons (.ix (.op .add (.v 11) (.lst (.cons (.k (.non)) (.nil)))) (.k (.int 0))) (.nil))))) (.seq (.ife (.cm .ne (.call 10 (.cons (.v 6) (.nil))) (.b1 .sset (.v 6))) (.seq (.ret (.k (.bl false))) (.pass)) (.pass)) (.seq (.ife (.cm .ne (.call 11 (.cons (.v 6) (.cons (.ix (.v 6) (.neg (.k (.int 1)))) (.nil)))) (.b2 .index (.v 6) (.ix (.v 6) (.neg (.k (.int 1)))))) (.seq (.ret (.k (.bl false))) (.pass)) (.pass)) (.seq (.ife (.cm .nis (.call 11 (.cons (.v 6) (.cons (.k (.str [122])) (.nil)))) (.k (.non))) (.seq (.ret (.k (.bl false))) (.pass)) (.pass)) (.pass)))))
def c22 : S := .seq (.set 1 (.call 17 (.cons (.v 0) (.cons (.k (.int 10)) (.cons (.k (.int 5)) (.cons (.k (.int 5)) (.nil))))))) (.seq (.set 2 (.call 19 (.cons (.v 1) (.nil)))) (.seq (.set 3 (.ix (.v 2) (.call 16 (.cons (.v 0) (.cons (.k (.int 1)) (.cons (.b1 .len (.v 2)) (.nil))))))) (.seq (.ife (.or (.cm .nis (.call 2 (.cons (.v 1) (.nil))) (.k (.bl true))) (.cm .nis (.call 8 (.cons (.v 1) (.cons (.v 3) (.nil)))) (.k (.bl true)))) (.seq (.ret (.k (.bl false))) (.pass)) (.pass)) (.seq (.ife (.cm .ne (.call 14 (.cons (.v 1) (.cons (.v 3) (.nil)))) (.call 18 (.cons (.v 1) (.cons (.v 3) (.nil))))) (.seq (.ret (.k (.bl false))) (.pass)) (.pass)) (.seq (.ife (.cm .ne (.call 13 (.cons (.v 1) (.cons (.v 3) (.nil)))) (.b1 .len (.lc (.one 9) (.it (.v 3)) (.cm .nis (.v 9) (.k (.non))) (.v 9)))) (.seq (.ret (.k (.bl false))) (.pass)) (.pass)) (.seq (.set 4 (.b1 .tuple (.lc (.one 13) (.rg1 (.b1 .len (.v 1))) (.k (.bl true)) (.ix (.lst (.cons (.k (.non)) (.cons (.k (.str [97])) (.cons (.k (.str [98])) (.cons (.k (.str [99])) (.cons (.k (.str [122])) (.cons (.k (.str [97, 98])) (.cons (.k (.int 7)) (.nil))))))))) (.call 16 (.cons (.v 0) (.cons (.op .add (.k (.int 60)) (.v 13)) (.cons (.k (.int 7)) (.nil))))))))) (.seq (.ife (.or (.cm .ne (.call 8 (.cons (.v 1) (.cons (.v 4) (.nil)))) (.cm .inn (.v 4) (.v 2))) (.call 8 (.cons (.v 1) (.cons (.b1 .list (.v 3)) (.nil))))) (.seq (.ret (.k (.bl false))) (.pass)) (.pass)) (.seq (.ife (.call 8 (.cons (.v 1) (.cons (.op .add (.v 3) (.tup (.cons (.k (.non)) (.nil)))) (.nil)))) (.seq (.ret (.k (.bl false))) (.pass)) (.pass)) (.seq (.set 5 (.tup (.nil))) (.seq (.fr (.one 6) (.it (.v 1)) (b22_1)) (.seq (.ife (.or (.cm .ne (.call 15 (.cons (.v 1) (.nil))) (.v 5)) (.or (.not (.call 2 (.cons (.b1 .tuple (.k (.str [97, 98, 99, 100, 101, 102, 103, 104]))) (.nil)))) (.not (.call 2 (.cons (.tup (.cons (.k (.str [97, 98, 99, 100, 101, 102, 103, 104])) (.nil))) (.nil)))))) (.seq (.ret (.k (.bl false))) (.pass)) (.pass)) (.seq (.set 7 (.call 20 (.cons (.v 0) (.cons (.k (.int 2)) (.nil))))) (.seq (.set 8 (.ix (.lst (.cons (.k (.non)) (.cons (.tup (.nil)) (.cons (.lst (.cons (.k (.non)) (.nil))) (.cons (.tup (.cons (.k (.str [122, 122])) (.nil))) (.cons (.op .mul (.tup (.cons (.k (.str [122])) (.nil))) (.k (.int 9))) (.nil))))))) (.call 16 (.cons (.v 0) (.cons (.k (.int 3)) (.cons (.k (.int 5)) (.nil))))))) (.seq (.set 6 (.ix (.lst (.cons (.k (.non)) (.cons (.k (.str [])) (.cons (.k (.str [65])) (.cons (.k (.str [97, 98, 99, 100, 101, 102, 103, 104, 105])) (.cons (.k (.int 7)) (.cons (.tup (.cons (.k (.str [97])) (.nil))) (.nil)))))))) (.call 16 (.cons (.v 0) (.cons (.k (.int 4)) (.cons (.k (.int 6)) (.nil))))))) (.seq (.set 9 (.ix (.lst (.cons (.k (.non)) (.cons (.k (.str [])) (.cons (.k (.str [97, 98])) (.cons (.k (.str [65])) (.cons (.k (.int 7)) (.cons (.k (.str [46])) (.nil)))))))) (.call 16 (.cons (.v 0) (.cons (.k (.int 5)) (.cons (.k (.int 6)) (.nil))))))) (.seq (.set 10 (.lc (.one 12) (.it (.tup (.cons (.k (.int 0)) (.cons (.k (.int 1)) (.cons (.k (.int 2)) (.cons (.k (.int 4)) (.nil))))))) (.k (.bl true)) (.call 21 (.cons (.v 12) (.cons (.v 7) (.cons (.v 8) (.nil))))))) (.seq (.set 10 (.op .add (.v 10) (.lc (.one 12) (.it (.tup (.cons (.k (.int 1)) (.cons (.k (.int 2)) (.nil))))) (.k (.bl true)) (.call 21 (.cons (.v 12) (.cons (.tup (.cons (.k (.str [97])) (.cons (.k (.str [98])) (.cons (.k (.str [99])) (.nil))))) (.cons (.v 8) (.nil)))))))) (.seq (.set 10 (.op .add (.v 10) (.lst (.cons (.call 21 (.cons (.k (.int 3)) (.cons (.v 6) (.cons (.v 9) (.nil))))) (.cons (.call 21 (.cons (.k (.int 5)) (.cons (.v 6) (.cons (.k (.int 0)) (.nil))))) (.cons (.call 21 (.cons (.k (.int 3)) (.cons (.k (.str [97, 98])) (.cons (.v 9) (.nil))))) (.nil))))))) (.seq (.ret (.and (.cm .eq (.v 10) (.op .add (.op .mul (.lst (.cons (.k (.int 0)) (.nil))) (.k (.int 4))) (.lst (.cons (.k (.int 1)) (.cons (.k (.int 1)) (.cons (.k (.int 2)) (.cons (.k (.int 2)) (.cons (.k (.int 3)) (.nil))))))))) (.cm .is (.call 2 (.cons (.v 7) (.nil))) (.k (.bl false))))) (.pass))))))))))))))))))))
def fd22 : Fd := ⟨1, 14, false, c22⟩
/-- is_int: 0:value 1:least 2:most -/
def c23 : S := .seq (.ret (.and (.b1 .isInt (.v 0)) (.and (.not (.b1 .isBool (.v 0))) (.ch .le .le (.v 1) (.v 0) (.v 2))))) (.pass)
def fd23 : Fd := ⟨3, 3, false, c23⟩
/-- check_number: 0:value 1:least 2:most -/
def c24 : S := .seq (.ife (.not (.call 23 (.cons (.v 0) (.cons (.v 1) (.cons (.v 2) (.nil)))))) (.seq (.rz 6) (.pass)) (.pass)) (.pass)
def fd24 : Fd := ⟨3, 3, false, c24⟩
/-- choices_of: 0:menu 1:name -/
def c25 : S := .seq (.ret (.lc (.one 1) (.it (.v 0)) (.k (.bl true)) (.call 9 (.cons (.v 1) (.nil))))) (.pass)
def fd25 : Fd := ⟨1, 2, false, c25⟩
/-- is_complete: 0:choices -/
def c29 : S := .seq (.ret (.cm .eq (.b1 .len (.call 27 (.cons (.v 0) (.nil)))) (.b1 .len (.v 0)))) (.pass)
def fd29 : Fd := ⟨1, 1, false, c29⟩
/-- greatest_size: 0:menu -/
def c30 : S := .seq (.ex (.call 5 (.cons (.v 0) (.nil)))) (.seq (.ret (.b1 .len (.call 27 (.cons (.call 25 (.cons (.v 0) (.nil))) (.nil))))) (.pass))
def fd30 : Fd := ⟨1, 1, false, c30⟩
/-- is_full: 0:menu -/
def c31 : S := .seq (.ex (.call 5 (.cons (.v 0) (.nil)))) (.seq (.ret (.call 29 (.cons (.call 25 (.cons (.v 0) (.nil))) (.nil)))) (.pass))
def fd31 : Fd := ⟨1, 1, false, c31⟩
/-- largest: 0:menu -/
def c32 : S := .seq (.ex (.call 5 (.cons (.v 0) (.nil)))) (.seq (.ret (.call 28 (.cons (.call 25 (.cons (.v 0) (.nil))) (.nil)))) (.pass))
def fd32 : Fd := ⟨1, 1, false, c32⟩
/-- lack: 0:menu 1:group 2:entry 3:one 4:other -/
def c35 : S := .seq (.ex (.call 5 (.cons (.v 0) (.nil)))) (.seq (.ife (.or (.not (.b1 .isTuple (.v 1))) (.or (.cm .eq (.v 1) (.tup (.nil))) (.not (.b1 .all (.lc (.one 2) (.it (.v 1)) (.k (.bl true)) (.call 23 (.cons (.v 2) (.cons (.k (.int 0)) (.cons (.op .sub (.b1 .len (.v 0)) (.k (.int 1))) (.nil)))))))))) (.seq (.rz 5) (.pass)) (.pass)) (.seq (.ife (.not (.b1 .all (.lc (.two 3 4) (.zip (.v 1) (.sl (.v 1) true (.k (.int 1)) false (.nil))) (.k (.bl true)) (.cm .lt (.v 3) (.v 4))))) (.seq (.rz 5) (.pass)) (.pass)) (.seq (.ret (.call 33 (.cons (.call 25 (.cons (.v 0) (.nil))) (.cons (.v 1) (.nil))))) (.pass))))
def fd35 : Fd := ⟨2, 5, false, c35⟩
/-- find_lacking: 0:choices 1:many 2:group -/
def b36_1 : S := .seq (.ife (.cm .eq (.call 33 (.cons (.v 0) (.cons (.v 2) (.nil)))) (.v 1)) (.seq (.ret (.v 2)) (.pass)) (.pass)) (.pass)
def c36 : S := .seq (.set 1 (.op .sub (.b1 .len (.v 0)) (.b1 .len (.call 27 (.cons (.v 0) (.nil)))))) (.seq (.fr (.one 2) (.it (.ife (.cm .gt (.v 1) (.k (.int 0))) (.call 34 (.cons (.b1 .len (.v 0)) (.nil))) (.lst (.nil)))) (b36_1)) (.seq (.ret (.k (.non))) (.pass)))
def fd36 : Fd := ⟨1, 3, false, c36⟩
/-- greatest_lack: 0:menu 1:choices -/
def c37 : S := .seq (.ex (.call 5 (.cons (.v 0) (.nil)))) (.seq (.set 1 (.call 25 (.cons (.v 0) (.nil)))) (.seq (.ret (.op .sub (.b1 .len (.v 1)) (.b1 .len (.call 27 (.cons (.v 1) (.nil)))))) (.pass)))
def fd37 : Fd := ⟨1, 2, false, c37⟩
/-- lacking_group: 0:menu -/
def c38 : S := .seq (.ex (.call 5 (.cons (.v 0) (.nil)))) (.seq (.ret (.call 36 (.cons (.call 25 (.cons (.v 0) (.nil))) (.nil)))) (.pass))
def fd38 : Fd := ⟨1, 1, false, c38⟩
/-- rest_of: 0:choices 1:letter 2:row 3:one -/
def c40 : S := .seq (.ret (.lc (.one 2) (.it (.sl (.v 0) true (.k (.int 1)) false (.nil))) (.k (.bl true)) (.lc (.one 3) (.it (.v 2)) (.cm .ne (.v 3) (.v 1)) (.v 3)))) (.pass)
def fd40 : Fd := ⟨2, 4, false, c40⟩
/-- count_full: 0:menu -/
def c41 : S := .seq (.ex (.call 5 (.cons (.v 0) (.nil)))) (.seq (.ret (.call 39 (.cons (.call 25 (.cons (.v 0) (.nil))) (.nil)))) (.pass))
def fd41 : Fd := ⟨1, 1, false, c41⟩
/-- _law_all_k03: 0:_law_menu_here 1:_law_found 2:_law_name 3:_law_longer 4:_law_some 5:_law_letter -/
def b43_1 : S := .seq (.set 3 (.op .add (.v 3) (.lc (.one 5) (.it (.b1 .sset (.v 2))) (.cm .nin (.v 5) (.v 4)) (.op .add (.v 4) (.tup (.cons (.v 5) (.nil))))))) (.pass)
def b43_2 : S := .seq (.set 3 (.lst (.nil))) (.seq (.fr (.one 4) (.it (.v 1)) (b43_1)) (.seq (.set 1 (.v 3)) (.pass)))
def c43 : S := .seq (.set 1 (.lst (.cons (.tup (.nil)) (.nil)))) (.seq (.fr (.one 2) (.it (.v 0)) (b43_2)) (.seq (.ret (.v 1)) (.pass)))
def fd43 : Fd := ⟨1, 6, false, c43⟩
/-- _law_lack_k03: 0:_law_menu_here 1:_law_group 2:_law_known 3:_law_entry -/
def b45_1 : S := .seq (.set 2 (.op .add (.v 2) (.ix (.v 0) (.v 3)))) (.pass)
def c45 : S := .seq (.set 2 (.k (.str []))) (.seq (.fr (.one 3) (.it (.v 1)) (b45_1)) (.seq (.ret (.op .sub (.b1 .len (.v 1)) (.b1 .lset (.v 2)))) (.pass)))
def fd45 : Fd := ⟨2, 4, false, c45⟩
/-- _law_error_k03: 0:_law_way 1:_law_one 2:_law_two 3:e -/
def b46_1 : S := .seq (.ife (.cm .lt (.v 0) (.k (.int 2))) (.seq (.ex (.pick [35, 42] (.v 0) (.cons (.v 1) (.cons (.v 2) (.nil))))) (.pass)) (.seq (.ex (.pick [30, 31, 32, 37, 38, 41] (.op .sub (.v 0) (.k (.int 2))) (.cons (.v 1) (.nil)))) (.pass))) (.pass)
def b46_2 : S := .seq (.ret (.b2 .index (.lst (.cons (.isx 1) (.cons (.isx 5) (.cons (.isx 6) (.nil))))) (.k (.bl true)))) (.pass)
def c46 : S := .seq (.try_ 3 (b46_1) (b46_2)) (.seq (.ret (.k (.non))) (.pass))
def fd46 : Fd := ⟨3, 4, false, c46⟩
/-- _law_more: 0:_law_script 1:_law_menu_here 2:_law_many 3:_law_easy 4:_law_count 5:_law_turned 6:_law_rank 7:_law_row 8:_law_entry 9:_law_fewer -/
def c48 : S := .seq (.set 3 (.call 15 (.cons (.v 1) (.nil)))) (.seq (.ife (.or (.cm .nis (.call 8 (.cons (.v 1) (.cons (.v 3) (.nil)))) (.k (.bl true))) (.cm .gt (.call 13 (.cons (.v 1) (.cons (.v 3) (.nil)))) (.v 2))) (.seq (.ret (.k (.bl false))) (.pass)) (.pass)) (.seq (.ife (.and (.cm .nin (.k (.non)) (.v 3)) (.not (.call 31 (.cons (.v 1) (.nil))))) (.seq (.ret (.k (.bl false))) (.pass)) (.pass)) (.seq (.set 4 (.call 41 (.cons (.v 1) (.nil)))) (.seq (.ife (.cm .ne (.cm .gt (.v 4) (.k (.int 0))) (.call 31 (.cons (.v 1) (.nil)))) (.seq (.ret (.k (.bl false))) (.pass)) (.pass)) (.seq (.ife (.cm .gt (.v 4) (.k (.int 0))) (.seq (.set 6 (.call 16 (.cons (.v 0) (.cons (.k (.int 2)) (.cons (.v 4) (.nil)))))) (.seq (.set 7 (.call 42 (.cons (.v 1) (.cons (.v 6) (.nil))))) (.seq (.ife (.or (.not (.call 8 (.cons (.v 1) (.cons (.v 7) (.nil))))) (.cm .inn (.k (.non)) (.v 7))) (.seq (.ret (.k (.bl false))) (.pass)) (.pass)) (.seq (.ife (.and (.cm .gt (.v 6) (.k (.int 0))) (.cm .ge (.call 42 (.cons (.v 1) (.cons (.op .sub (.v 6) (.k (.int 1))) (.nil)))) (.v 7))) (.seq (.ret (.k (.bl false))) (.pass)) (.pass)) (.pass))))) (.pass)) (.seq (.ife (.cm .ne (.v 1) (.tup (.nil))) (.seq (.set 8 (.call 16 (.cons (.v 0) (.cons (.k (.int 3)) (.cons (.b1 .len (.v 1)) (.nil)))))) (.seq (.set 9 (.op .add (.sl (.v 1) false (.nil) true (.v 8)) (.sl (.v 1) true (.op .add (.v 8) (.k (.int 1))) false (.nil)))) (.seq (.ife (.cm .gt (.call 37 (.cons (.v 9) (.nil))) (.call 37 (.cons (.v 1) (.nil)))) (.seq (.ret (.k (.bl false))) (.pass)) (.pass)) (.seq (.ife (.not (.ch .le .le (.op .sub (.v 2) (.k (.int 1))) (.call 30 (.cons (.v 9) (.nil))) (.v 2))) (.seq (.ret (.k (.bl false))) (.pass)) (.pass)) (.pass))))) (.pass)) (.seq (.set 5 (.rev (.v 1))) (.seq (.ret (.and (.cm .eq (.call 30 (.cons (.v 5) (.nil))) (.v 2)) (.cm .eq (.call 41 (.cons (.v 5) (.nil))) (.v 4)))) (.pass)))))))))
def fd48 : Fd := ⟨3, 10, false, c48⟩
/-- need_choices: 0:menu 1:choices -/
def c50 : S := .seq (.ex (.call 5 (.cons (.v 0) (.nil)))) (.seq (.set 1 (.call 25 (.cons (.v 0) (.nil)))) (.seq (.ife (.not (.call 29 (.cons (.v 1) (.nil)))) (.seq (.rz 7) (.pass)) (.pass)) (.seq (.ret (.v 1)) (.pass))))
def fd50 : Fd := ⟨1, 2, false, c50⟩
/-- with_letter: 0:choices 1:entry 2:letter -/
def c51 : S := .seq (.ret (.op .add (.op .add (.sl (.v 0) false (.nil) true (.v 1)) (.lst (.cons (.lst (.cons (.v 2) (.nil))) (.nil)))) (.sl (.v 0) true (.op .add (.v 1) (.k (.int 1))) false (.nil)))) (.pass)
def fd51 : Fd := ⟨3, 3, false, c51⟩
/-- possible_letters: 0:menu -/
def c53 : S := .seq (.ret (.call 52 (.cons (.call 50 (.cons (.v 0) (.nil))) (.nil)))) (.pass)
def fd53 : Fd := ⟨1, 1, false, c53⟩
/-- sure_letters: 0:menu 1:row -/
def c54 : S := .seq (.ret (.lc (.one 1) (.it (.call 52 (.cons (.call 50 (.cons (.v 0) (.nil))) (.nil)))) (.k (.bl true)) (.ife (.cm .eq (.b1 .len (.v 1)) (.k (.int 1))) (.v 1) (.k (.non))))) (.pass)
def fd54 : Fd := ⟨1, 2, false, c54⟩
/-- find_needed: 0:choices 1:found 2:letter 3:row 4:one -/
def b55_1 : S := .seq (.ife (.not (.call 29 (.cons (.lc (.one 3) (.it (.v 0)) (.k (.bl true)) (.lc (.one 4) (.it (.v 3)) (.cm .ne (.v 4) (.v 2)) (.v 4))) (.nil)))) (.seq (.set 1 (.op .add (.v 1) (.v 2))) (.pass)) (.pass)) (.pass)
def c55 : S := .seq (.set 1 (.k (.str []))) (.seq (.fr (.one 2) (.it (.k (.str [97, 98, 99, 100, 101, 102, 103, 104, 105, 106, 107, 108, 109, 110, 111, 112, 113, 114, 115, 116, 117, 118, 119, 120, 121, 122]))) (b55_1)) (.seq (.ret (.v 1)) (.pass)))
def fd55 : Fd := ⟨1, 5, false, c55⟩
/-- needed_letters: 0:menu -/
def c56 : S := .seq (.ret (.call 55 (.cons (.call 50 (.cons (.v 0) (.nil))) (.nil)))) (.pass)
def fd56 : Fd := ⟨1, 1, false, c56⟩
/-- free_letters: 0:menu 1:found 2:letter -/
def c57 : S := .seq (.set 1 (.b2 .join (.k (.str [])) (.call 52 (.cons (.call 50 (.cons (.v 0) (.nil))) (.nil))))) (.seq (.ret (.b2 .join (.k (.str [])) (.lc (.one 2) (.it (.k (.str [97, 98, 99, 100, 101, 102, 103, 104, 105, 106, 107, 108, 109, 110, 111, 112, 113, 114, 115, 116, 117, 118, 119, 120, 121, 122]))) (.cm .nin (.v 2) (.v 1)) (.v 2)))) (.pass))
def fd57 : Fd := ⟨1, 3, false, c57⟩
/-- tight_groups: 0:menu 1:choices 2:group -/
def c58 : S := .seq (.set 1 (.call 50 (.cons (.v 0) (.nil)))) (.seq (.ret (.b1 .sorted (.lc (.one 2) (.it (.call 34 (.cons (.b1 .len (.v 0)) (.nil)))) (.cm .eq (.call 33 (.cons (.v 1) (.cons (.v 2) (.nil)))) (.k (.int 0))) (.v 2)))) (.pass))
def fd58 : Fd := ⟨1, 3, false, c58⟩
/-- _law_error_k08: 0:_law_way 1:_law_menu_here 2:e -/
def b59_1 : S := .seq (.ex (.pick [57, 56, 53, 54, 58] (.v 0) (.cons (.v 1) (.nil)))) (.pass)
def b59_2 : S := .seq (.ret (.b2 .index (.lst (.cons (.isx 1) (.cons (.isx 7) (.nil)))) (.k (.bl true)))) (.pass)
def c59 : S := .seq (.try_ 2 (b59_1) (b59_2)) (.seq (.ret (.k (.non))) (.pass))
def fd59 : Fd := ⟨2, 3, false, c59⟩
/-- better: 0:one 1:other -/
def c63 : S := .seq (.ife (.or (.cm .is (.v 0) (.k (.non))) (.cm .lt (.ix (.v 1) (.k (.int 0))) (.ix (.v 0) (.k (.int 0))))) (.seq (.ret (.v 1)) (.pass)) (.pass)) (.seq (.ret (.ife (.cm .eq (.ix (.v 0) (.k (.int 0))) (.ix (.v 1) (.k (.int 0)))) (.tup (.cons (.ix (.v 0) (.k (.int 0))) (.cons (.op .add (.ix (.v 0) (.k (.int 1))) (.ix (.v 1) (.k (.int 1)))) (.nil)))) (.v 0))) (.pass))
def fd63 : Fd := ⟨2, 2, false, c63⟩
/-- find_least: 0:places -/
def c65 : S := .seq (.ret (.b2 .get (.call 64 (.cons (.v 0) (.nil))) (.b1 .tuple (.rg1 (.b1 .len (.v 0)))))) (.pass)
def fd65 : Fd := ⟨1, 1, false, c65⟩
/-- least_cost: 0:menu -/
def c66 : S := .seq (.ex (.call 50 (.cons (.v 0) (.nil)))) (.seq (.ret (.ix (.call 65 (.cons (.call 62 (.cons (.v 0) (.nil))) (.nil))) (.k (.int 0)))) (.pass))
def fd66 : Fd := ⟨1, 1, false, c66⟩
/-- count_best: 0:menu -/
def c67 : S := .seq (.ex (.call 50 (.cons (.v 0) (.nil)))) (.seq (.ret (.ix (.call 65 (.cons (.call 62 (.cons (.v 0) (.nil))) (.nil))) (.k (.int 1)))) (.pass))
def fd67 : Fd := ⟨1, 1, false, c67⟩
/-- best: 0:menu -/
def c70 : S := .seq (.ex (.call 50 (.cons (.v 0) (.nil)))) (.seq (.ret (.call 69 (.cons (.call 62 (.cons (.v 0) (.nil))) (.nil)))) (.pass))
def fd70 : Fd := ⟨1, 1, false, c70⟩
/-- are_low: 0:name 1:price 2:signs 3:letter -/
def c72 : S := .seq (.ret (.b1 .all (.lc (.one 3) (.it (.v 0)) (.k (.bl true)) (.cm .le (.op .add (.v 1) (.ix (.v 2) (.b2 .index (.k (.str [97, 98, 99, 100, 101, 102, 103, 104, 105, 106, 107, 108, 109, 110, 111, 112, 113, 114, 115, 116, 117, 118, 119, 120, 121, 122])) (.v 3)))) (.b2 .index (.v 0) (.v 3)))))) (.pass)
def fd72 : Fd := ⟨3, 4, false, c72⟩
/-- are_prices: 0:menu 1:candidate -/
def c73 : S := .seq (.ex (.call 5 (.cons (.v 0) (.nil)))) (.seq (.ret (.call 71 (.cons (.v 0) (.cons (.v 1) (.nil))))) (.pass))
def fd73 : Fd := ⟨2, 2, false, c73⟩
/-- bound: 0:menu 1:prices -/
def c74 : S := .seq (.ex (.call 5 (.cons (.v 0) (.nil)))) (.seq (.ife (.not (.call 71 (.cons (.v 0) (.cons (.v 1) (.nil))))) (.seq (.rz 8) (.pass)) (.pass)) (.seq (.ret (.op .add (.b1 .sum (.ix (.v 1) (.k (.int 0)))) (.b1 .sum (.ix (.v 1) (.k (.int 1)))))) (.pass)))
def fd74 : Fd := ⟨2, 2, false, c74⟩
/-- _law_error_k13: 0:_law_way 1:_law_one 2:_law_two 3:e -/
def b77_1 : S := .seq (.ife (.cm .lt (.v 0) (.k (.int 4))) (.seq (.ex (.pick [66, 70, 67, 75] (.v 0) (.cons (.v 1) (.nil)))) (.pass)) (.seq (.ife (.cm .eq (.v 0) (.k (.int 4))) (.seq (.ex (.call 76 (.cons (.v 1) (.nil)))) (.pass)) (.seq (.ex (.pick [73, 74] (.op .sub (.v 0) (.k (.int 5))) (.cons (.v 1) (.cons (.v 2) (.nil))))) (.pass))) (.pass))) (.pass)
def b77_2 : S := .seq (.ret (.b2 .index (.lst (.cons (.isx 1) (.cons (.isx 7) (.cons (.isx 8) (.nil))))) (.k (.bl true)))) (.pass)
def c77 : S := .seq (.try_ 3 (b77_1) (b77_2)) (.seq (.ret (.k (.non))) (.pass))
def fd77 : Fd := ⟨3, 4, false, c77⟩
/-- _law_are: 0:_law_menu_here 1:_law_entries 2:_law_signs 3:_law_known 4:_law_name 5:_law_price 6:_law_letter -/
def b78_1 : S := .seq (.ife (.cm .ne (.lc (.one 6) (.it (.v 4)) (.cm .gt (.op .add (.v 5) (.ix (.v 2) (.b2 .index (.v 3) (.v 6)))) (.b2 .index (.v 4) (.v 6))) (.v 6)) (.lst (.nil))) (.seq (.ret (.k (.bl false))) (.pass)) (.pass)) (.pass)
def c78 : S := .seq (.set 3 (.k (.str [97, 98, 99, 100, 101, 102, 103, 104, 105, 106, 107, 108, 109, 110, 111, 112, 113, 114, 115, 116, 117, 118, 119, 120, 121, 122]))) (.seq (.ife (.cm .ne (.lc (.one 5) (.it (.v 2)) (.not (.ch .le .le (.neg (.k (.int 100))) (.v 5) (.k (.int 0)))) (.v 5)) (.lst (.nil))) (.seq (.ret (.k (.bl false))) (.pass)) (.pass)) (.seq (.ife (.cm .ne (.lc (.one 5) (.it (.v 1)) (.not (.ch .le .le (.neg (.k (.int 100))) (.v 5) (.k (.int 100)))) (.v 5)) (.lst (.nil))) (.seq (.ret (.k (.bl false))) (.pass)) (.pass)) (.seq (.fr (.two 4 5) (.zip (.v 0) (.v 1)) (b78_1)) (.seq (.ret (.k (.bl true))) (.pass)))))
def fd78 : Fd := ⟨3, 7, false, c78⟩
/-- has_full: 0:menu 1:candidate -/
def c82 : S := .seq (.ret (.and (.call 4 (.cons (.v 0) (.cons (.v 1) (.nil)))) (.cm .nin (.k (.non)) (.v 1)))) (.pass)
def fd82 : Fd := ⟨2, 2, false, c82⟩
/-- check_new: 0:menu 1:name -/
def c83 : S := .seq (.ex (.call 6 (.cons (.v 1) (.nil)))) (.seq (.ife (.cm .inn (.v 1) (.v 0)) (.seq (.rz 9) (.pass)) (.pass)) (.seq (.ife (.cm .ge (.b1 .len (.v 0)) (.k (.int 8))) (.seq (.rz 10) (.pass)) (.pass)) (.pass)))
def fd83 : Fd := ⟨2, 2, false, c83⟩
/-- can_add: 0:menu 1:name -/
def c84 : S := .seq (.ex (.call 5 (.cons (.v 0) (.nil)))) (.seq (.ex (.call 83 (.cons (.v 0) (.cons (.v 1) (.nil))))) (.seq (.ret (.call 29 (.cons (.call 25 (.cons (.op .add (.v 0) (.tup (.cons (.v 1) (.nil)))) (.nil))) (.nil)))) (.pass)))
def fd84 : Fd := ⟨2, 2, false, c84⟩
/-- check_three: 0:menu 1:assignment 2:name -/
def c85 : S := .seq (.ex (.call 5 (.cons (.v 0) (.nil)))) (.seq (.ife (.not (.call 82 (.cons (.v 0) (.cons (.v 1) (.nil))))) (.seq (.rz 2) (.pass)) (.pass)) (.seq (.ex (.call 83 (.cons (.v 0) (.cons (.v 2) (.nil))))) (.pass)))
def fd85 : Fd := ⟨3, 3, false, c85⟩
/-- fewest_changes: 0:menu 1:assignment 2:name 3:found -/
def c88 : S := .seq (.ex (.call 85 (.cons (.v 0) (.cons (.v 1) (.cons (.v 2) (.nil)))))) (.seq (.set 3 (.call 86 (.cons (.v 0) (.cons (.v 1) (.cons (.v 2) (.nil)))))) (.seq (.ret (.ife (.cm .is (.v 3) (.k (.non))) (.k (.non)) (.op .sub (.b1 .len (.v 3)) (.k (.int 1))))) (.pass)))
def fd88 : Fd := ⟨3, 4, false, c88⟩
/-- extended: 0:menu 1:assignment 2:name 3:found -/
def c89 : S := .seq (.ex (.call 85 (.cons (.v 0) (.cons (.v 1) (.cons (.v 2) (.nil)))))) (.seq (.set 3 (.call 86 (.cons (.v 0) (.cons (.v 1) (.cons (.v 2) (.nil)))))) (.seq (.ret (.ife (.cm .is (.v 3) (.k (.non))) (.k (.non)) (.call 87 (.cons (.v 1) (.cons (.v 3) (.nil)))))) (.pass)))
def fd89 : Fd := ⟨3, 4, false, c89⟩
/-- is_extension: 0:menu 1:assignment 2:name 3:candidate -/
def c90 : S := .seq (.ex (.call 85 (.cons (.v 0) (.cons (.v 1) (.cons (.v 2) (.nil)))))) (.seq (.ret (.call 82 (.cons (.op .add (.v 0) (.tup (.cons (.v 2) (.nil)))) (.cons (.v 3) (.nil))))) (.pass))
def fd90 : Fd := ⟨4, 4, false, c90⟩
/-- chain: 0:menu 1:assignment 2:name -/
def c91 : S := .seq (.ex (.call 85 (.cons (.v 0) (.cons (.v 1) (.cons (.v 2) (.nil)))))) (.seq (.ret (.call 86 (.cons (.v 0) (.cons (.v 1) (.cons (.v 2) (.nil)))))) (.pass))
def fd91 : Fd := ⟨3, 3, false, c91⟩
/-- is_link: 0:menu 1:value -/
def c92 : S := .seq (.ife (.or (.not (.b1 .isTuple (.v 1))) (.or (.cm .ne (.b1 .len (.v 1)) (.k (.int 2))) (.not (.call 0 (.cons (.ix (.v 1) (.k (.int 0))) (.nil)))))) (.seq (.ret (.k (.bl false))) (.pass)) (.pass)) (.seq (.ret (.or (.cm .is (.ix (.v 1) (.k (.int 1))) (.k (.non))) (.call 23 (.cons (.ix (.v 1) (.k (.int 1))) (.cons (.k (.int 0)) (.cons (.op .sub (.b1 .len (.v 0)) (.k (.int 1))) (.nil))))))) (.pass))
def fd92 : Fd := ⟨2, 2, false, c92⟩
/-- is_chain: 0:menu 1:assignment 2:name 3:candidate 4:entries 5:words 6:letter 7:entry 8:link 9:word -/
def c93 : S := .seq (.ex (.call 85 (.cons (.v 0) (.cons (.v 1) (.cons (.v 2) (.nil)))))) (.seq (.ife (.or (.not (.b1 .isList (.v 3))) (.or (.cm .eq (.v 3) (.lst (.nil))) (.not (.b1 .all (.lc (.one 8) (.it (.v 3)) (.k (.bl true)) (.call 92 (.cons (.v 0) (.cons (.v 8) (.nil))))))))) (.seq (.ret (.k (.bl false))) (.pass)) (.pass)) (.seq (.set 4 (.lc (.two 6 7) (.it (.v 3)) (.k (.bl true)) (.v 7))) (.seq (.ife (.or (.cm .nis (.ix (.v 4) (.neg (.k (.int 1)))) (.k (.non))) (.or (.cm .inn (.k (.non)) (.sl (.v 4) false (.nil) true (.neg (.k (.int 1))))) (.cm .ne (.b1 .lset (.v 4)) (.b1 .len (.v 4))))) (.seq (.ret (.k (.bl false))) (.pass)) (.pass)) (.seq (.set 5 (.op .add (.lst (.cons (.v 2) (.nil))) (.lc (.one 7) (.it (.sl (.v 4) false (.nil) true (.neg (.k (.int 1))))) (.k (.bl true)) (.ix (.v 0) (.v 7))))) (.seq (.ife (.or (.not (.b1 .all (.lc (.two 8 9) (.zip (.v 3) (.v 5)) (.k (.bl true)) (.cm .inn (.ix (.v 8) (.k (.int 0))) (.v 9))))) (.cm .inn (.ix (.ix (.v 3) (.neg (.k (.int 1)))) (.k (.int 0))) (.v 1))) (.seq (.ret (.k (.bl false))) (.pass)) (.pass)) (.seq (.ret (.b1 .all (.lc (.two 6 7) (.it (.sl (.v 3) false (.nil) true (.neg (.k (.int 1))))) (.k (.bl true)) (.cm .eq (.ix (.v 1) (.v 7)) (.v 6))))) (.pass)))))))
def fd93 : Fd := ⟨4, 10, false, c93⟩
/-- _law_error_k18: 0:_law_way 1:_law_menu_here 2:_law_assignment 3:_law_name 4:e 5:_law_flags -/
def b94_1 : S := .seq (.ife (.cm .eq (.v 0) (.k (.int 0))) (.seq (.ex (.call 84 (.cons (.v 1) (.cons (.v 3) (.nil))))) (.pass)) (.seq (.ife (.cm .lt (.v 0) (.k (.int 4))) (.seq (.ex (.pick [88, 89, 91] (.op .sub (.v 0) (.k (.int 1))) (.cons (.v 1) (.cons (.v 2) (.cons (.v 3) (.nil)))))) (.pass)) (.seq (.ex (.pick [90, 93] (.op .sub (.v 0) (.k (.int 4))) (.cons (.v 1) (.cons (.v 2) (.cons (.v 3) (.cons (.k (.non)) (.nil))))))) (.pass))) (.pass))) (.pass)
def b94_2 : S := .seq (.set 5 (.lst (.cons (.isx 1) (.cons (.isx 2) (.nil))))) (.seq (.set 5 (.op .add (.v 5) (.lst (.cons (.isx 3) (.nil))))) (.seq (.ret (.b2 .index (.op .add (.v 5) (.lst (.cons (.isx 9) (.cons (.isx 10) (.nil))))) (.k (.bl true)))) (.pass)))
def c94 : S := .seq (.try_ 4 (b94_1) (b94_2)) (.seq (.ret (.k (.non))) (.pass))
def fd94 : Fd := ⟨4, 6, false, c94⟩
/-- _law_rejected_k18: 0:_law_script 1:_law_menu_here 2:_law_assignment 3:_law_odd 4:_law_bad 5:_law_word 6:_law_told 7:_law_eight 8:_law_way -/
def c97 : S := .seq (.set 3 (.call 20 (.cons (.v 0) (.cons (.k (.int 5)) (.nil))))) (.seq (.set 4 (.ix (.lst (.cons (.k (.non)) (.cons (.b1 .list (.v 2)) (.cons (.op .add (.v 2) (.tup (.cons (.k (.non)) (.nil)))) (.cons (.op .add (.v 2) (.tup (.cons (.k (.str [97])) (.nil)))) (.nil)))))) (.call 16 (.cons (.v 0) (.cons (.k (.int 6)) (.cons (.k (.int 4)) (.nil))))))) (.seq (.set 5 (.ix (.lst (.cons (.k (.non)) (.cons (.k (.str [])) (.cons (.k (.str [65])) (.cons (.k (.str [97, 98, 99, 100, 101, 102, 103, 104, 105])) (.cons (.k (.int 7)) (.cons (.tup (.cons (.k (.str [97])) (.nil))) (.nil)))))))) (.call 16 (.cons (.v 0) (.cons (.k (.int 7)) (.cons (.k (.int 6)) (.nil))))))) (.seq (.set 6 (.lc (.one 8) (.rg1 (.k (.int 6))) (.k (.bl true)) (.call 94 (.cons (.v 8) (.cons (.v 3) (.cons (.v 4) (.cons (.v 5) (.nil)))))))) (.seq (.set 6 (.op .add (.v 6) (.lc (.one 8) (.rg2 (.k (.int 1)) (.k (.int 6))) (.k (.bl true)) (.call 94 (.cons (.v 8) (.cons (.v 1) (.cons (.v 4) (.cons (.v 5) (.nil))))))))) (.seq (.set 6 (.op .add (.v 6) (.lc (.one 8) (.rg1 (.k (.int 6))) (.k (.bl true)) (.call 94 (.cons (.v 8) (.cons (.v 1) (.cons (.v 2) (.cons (.v 5) (.nil))))))))) (.seq (.set 7 (.b1 .tuple (.k (.str [97, 98, 99, 100, 101, 102, 103, 104])))) (.seq (.set 6 (.op .add (.v 6) (.lc (.one 8) (.rg1 (.k (.int 6))) (.k (.bl true)) (.call 94 (.cons (.v 8) (.cons (.v 7) (.cons (.v 7) (.cons (.k (.str [97])) (.nil))))))))) (.seq (.set 6 (.op .add (.v 6) (.lc (.one 8) (.rg1 (.k (.int 6))) (.k (.bl true)) (.call 94 (.cons (.v 8) (.cons (.v 7) (.cons (.v 7) (.cons (.k (.str [122])) (.nil))))))))) (.seq (.ret (.cm .eq (.op .add (.v 6) (.lst (.cons (.call 94 (.cons (.k (.int 1)) (.cons (.tup (.cons (.k (.str [97, 98])) (.nil))) (.cons (.tup (.cons (.k (.non)) (.nil))) (.cons (.k (.str [97])) (.nil)))))) (.nil)))) (.op .add (.op .add (.op .add (.op .add (.op .add (.op .mul (.lst (.cons (.k (.int 0)) (.nil))) (.k (.int 6))) (.op .mul (.lst (.cons (.k (.int 1)) (.nil))) (.k (.int 5)))) (.op .mul (.lst (.cons (.k (.int 2)) (.nil))) (.k (.int 6)))) (.op .mul (.lst (.cons (.k (.int 3)) (.nil))) (.k (.int 6)))) (.op .mul (.lst (.cons (.k (.int 4)) (.nil))) (.k (.int 6)))) (.lst (.cons (.k (.int 1)) (.nil)))))) (.pass))))))))))
def fd97 : Fd := ⟨3, 9, false, c97⟩
/-- are_versions: 0:candidate 1:menu -/
def c101 : S := .seq (.ife (.or (.not (.b1 .isList (.v 0))) (.not (.ch .le .le (.k (.int 1)) (.b1 .len (.v 0)) (.k (.int 4))))) (.seq (.ret (.k (.bl false))) (.pass)) (.pass)) (.seq (.ife (.not (.b1 .all (.lc (.one 1) (.it (.v 0)) (.k (.bl true)) (.call 2 (.cons (.v 1) (.nil)))))) (.seq (.ret (.k (.bl false))) (.pass)) (.pass)) (.seq (.ret (.cm .eq (.b1 .lset (.lc (.one 1) (.it (.v 0)) (.k (.bl true)) (.b1 .len (.v 1)))) (.k (.int 1)))) (.pass)))
def fd101 : Fd := ⟨1, 2, false, c101⟩
/-- check_versions: 0:value -/
def c102 : S := .seq (.ife (.not (.call 101 (.cons (.v 0) (.nil)))) (.seq (.rz 11) (.pass)) (.pass)) (.pass)
def fd102 : Fd := ⟨1, 1, false, c102⟩
/-- is_common: 0:versions 1:candidate 2:menu -/
def c103 : S := .seq (.ex (.call 102 (.cons (.v 0) (.nil)))) (.seq (.ret (.b1 .all (.lc (.one 2) (.it (.v 0)) (.k (.bl true)) (.call 82 (.cons (.v 2) (.cons (.v 1) (.nil))))))) (.pass))
def fd103 : Fd := ⟨2, 3, false, c103⟩
/-- common_letters: 0:versions 1:row -/
def c105 : S := .seq (.ex (.call 102 (.cons (.v 0) (.nil)))) (.seq (.ret (.lc (.one 1) (.it (.call 104 (.cons (.v 0) (.nil)))) (.k (.bl true)) (.b2 .join (.k (.str [])) (.v 1)))) (.pass))
def fd105 : Fd := ⟨1, 2, false, c105⟩
/-- has_common: 0:versions -/
def c106 : S := .seq (.ex (.call 102 (.cons (.v 0) (.nil)))) (.seq (.ret (.call 29 (.cons (.call 104 (.cons (.v 0) (.nil))) (.nil)))) (.pass))
def fd106 : Fd := ⟨1, 1, false, c106⟩
/-- count_common: 0:versions -/
def c107 : S := .seq (.ex (.call 102 (.cons (.v 0) (.nil)))) (.seq (.ret (.call 39 (.cons (.call 104 (.cons (.v 0) (.nil))) (.nil)))) (.pass))
def fd107 : Fd := ⟨1, 1, false, c107⟩
/-- least_common_cost: 0:versions 1:found -/
def c109 : S := .seq (.ex (.call 102 (.cons (.v 0) (.nil)))) (.seq (.set 1 (.call 65 (.cons (.call 108 (.cons (.v 0) (.nil))) (.nil)))) (.seq (.ret (.ife (.cm .is (.v 1) (.k (.non))) (.k (.non)) (.ix (.v 1) (.k (.int 0))))) (.pass)))
def fd109 : Fd := ⟨1, 2, false, c109⟩
/-- best_common: 0:versions -/
def c110 : S := .seq (.ex (.call 102 (.cons (.v 0) (.nil)))) (.seq (.ret (.ife (.call 29 (.cons (.call 104 (.cons (.v 0) (.nil))) (.nil))) (.call 69 (.cons (.call 108 (.cons (.v 0) (.nil))) (.nil))) (.k (.non)))) (.pass))
def fd110 : Fd := ⟨1, 1, false, c110⟩
/-- lacking_common: 0:versions 1:choices 2:group -/
def b111_1 : S := .seq (.ife (.cm .gt (.call 33 (.cons (.v 1) (.cons (.v 2) (.nil)))) (.k (.int 0))) (.seq (.ret (.v 2)) (.pass)) (.pass)) (.pass)
def c111 : S := .seq (.ex (.call 102 (.cons (.v 0) (.nil)))) (.seq (.set 1 (.call 104 (.cons (.v 0) (.nil)))) (.seq (.fr (.one 2) (.it (.call 34 (.cons (.b1 .len (.v 1)) (.nil)))) (b111_1)) (.seq (.ret (.k (.non))) (.pass))))
def fd111 : Fd := ⟨1, 3, false, c111⟩
/-- _law_all_k22: 0:_law_menu 1:_law_found 2:_law_name 3:_law_longer 4:_law_some 5:_law_letter -/
def b112_1 : S := .seq (.set 3 (.op .add (.v 3) (.lc (.one 5) (.it (.b1 .sset (.v 2))) (.cm .nin (.v 5) (.v 4)) (.op .add (.v 4) (.tup (.cons (.v 5) (.nil))))))) (.pass)
def b112_2 : S := .seq (.set 3 (.lst (.nil))) (.seq (.fr (.one 4) (.it (.v 1)) (b112_1)) (.seq (.set 1 (.v 3)) (.pass)))
def c112 : S := .seq (.set 1 (.lst (.cons (.tup (.nil)) (.nil)))) (.seq (.fr (.one 2) (.it (.v 0)) (b112_2)) (.seq (.ret (.v 1)) (.pass)))
def fd112 : Fd := ⟨1, 6, false, c112⟩
/-- _law_cost_k22: 0:_law_menu 1:_law_assignment 2:_law_found 3:_law_name 4:_law_letter -/
def b113_1 : S := .seq (.set 2 (.op .add (.v 2) (.ife (.cm .nis (.v 4) (.k (.non))) (.b2 .index (.v 3) (.v 4)) (.k (.int 0))))) (.pass)
def c113 : S := .seq (.set 2 (.k (.int 0))) (.seq (.fr (.two 3 4) (.zip (.v 0) (.v 1)) (b113_1)) (.seq (.ret (.v 2)) (.pass)))
def fd113 : Fd := ⟨2, 5, false, c113⟩
/-- _law_lack_k22: 0:_law_menu 1:_law_group 2:_law_known 3:_law_entry -/
def b114_1 : S := .seq (.set 2 (.op .add (.v 2) (.ix (.v 0) (.v 3)))) (.pass)
def c114 : S := .seq (.set 2 (.k (.str []))) (.seq (.fr (.one 3) (.it (.v 1)) (b114_1)) (.seq (.ret (.op .sub (.b1 .len (.v 1)) (.b1 .lset (.v 2)))) (.pass)))
def fd114 : Fd := ⟨2, 4, false, c114⟩
/-- _law_error_k22: 0:_law_way 1:_law_one 2:e -/
def b115_1 : S := .seq (.ife (.cm .lt (.v 0) (.k (.int 6))) (.seq (.ex (.pick [110, 105, 107, 106, 111, 109] (.v 0) (.cons (.v 1) (.nil)))) (.pass)) (.seq (.ex (.call 103 (.cons (.v 1) (.cons (.tup (.nil)) (.nil))))) (.pass))) (.pass)
def b115_2 : S := .seq (.ret (.ife (.isx 11) (.k (.int 0)) (.k (.int 1)))) (.pass)
def c115 : S := .seq (.try_ 2 (b115_1) (b115_2)) (.seq (.ret (.k (.non))) (.pass))
def fd115 : Fd := ⟨2, 3, false, c115⟩
/-- _law_word: 0:_law_script 1:_law_at 2:_law_n -/
def c116 : S := .seq (.ret (.b2 .join (.k (.str [])) (.lc (.one 2) (.rg1 (.op .add (.k (.int 1)) (.call 16 (.cons (.v 0) (.cons (.v 1) (.cons (.k (.int 4)) (.nil))))))) (.k (.bl true)) (.ix (.k (.str [97, 98, 99, 100, 101])) (.call 16 (.cons (.v 0) (.cons (.op .add (.op .add (.v 1) (.k (.int 1))) (.v 2)) (.cons (.k (.int 5)) (.nil))))))))) (.pass)
def fd116 : Fd := ⟨2, 3, false, c116⟩
/-- _law_rejected_k22: 0:_law_script 1:_law_versions 2:_law_odd 3:_law_bad 4:_law_way -/
def c117 : S := .seq (.set 2 (.call 20 (.cons (.v 0) (.cons (.k (.int 3)) (.nil))))) (.seq (.set 3 (.ix (.lst (.cons (.k (.non)) (.cons (.lst (.nil)) (.cons (.tup (.cons (.tup (.cons (.k (.str [97])) (.nil))) (.nil))) (.cons (.lst (.cons (.v 2) (.nil))) (.cons (.op .add (.v 1) (.lst (.cons (.v 2) (.nil)))) (.cons (.lst (.cons (.tup (.cons (.k (.str [97])) (.nil))) (.cons (.tup (.cons (.k (.str [97])) (.cons (.k (.str [98])) (.nil)))) (.nil)))) (.cons (.op .mul (.lst (.cons (.tup (.cons (.k (.str [97])) (.nil))) (.nil))) (.k (.int 5))) (.nil))))))))) (.call 16 (.cons (.v 0) (.cons (.k (.int 4)) (.cons (.k (.int 7)) (.nil))))))) (.seq (.ret (.and (.cm .eq (.lc (.one 4) (.rg1 (.k (.int 7))) (.k (.bl true)) (.call 115 (.cons (.v 4) (.cons (.v 3) (.nil))))) (.op .mul (.lst (.cons (.k (.int 0)) (.nil))) (.k (.int 7)))) (.not (.call 101 (.cons (.v 3) (.nil)))))) (.pass)))
def fd117 : Fd := ⟨2, 5, false, c117⟩
/-- law_k24: 0:_law_script 1:_law_menu_here 2:_law_alone 3:_law_name -/
def c120 : S := .seq (.set 1 (.call 17 (.cons (.v 0) (.cons (.k (.int 10)) (.cons (.k (.int 5)) (.cons (.k (.int 6)) (.nil))))))) (.seq (.set 2 (.lst (.cons (.v 1) (.nil)))) (.seq (.ife (.or (.cm .ne (.call 107 (.cons (.v 2) (.nil))) (.call 41 (.cons (.v 1) (.nil)))) (.cm .ne (.call 106 (.cons (.v 2) (.nil))) (.call 31 (.cons (.v 1) (.nil))))) (.seq (.ret (.k (.bl false))) (.pass)) (.pass)) (.seq (.ife (.cm .ne (.call 105 (.cons (.v 2) (.nil))) (.lc (.one 3) (.it (.v 1)) (.k (.bl true)) (.b2 .join (.k (.str [])) (.call 10 (.cons (.v 3) (.nil)))))) (.seq (.ret (.k (.bl false))) (.pass)) (.pass)) (.seq (.ife (.and (.call 31 (.cons (.v 1) (.nil))) (.cm .ne (.call 110 (.cons (.v 2) (.nil))) (.call 70 (.cons (.v 1) (.nil))))) (.seq (.ret (.k (.bl false))) (.pass)) (.pass)) (.seq (.ife (.and (.call 31 (.cons (.v 1) (.nil))) (.cm .ne (.call 109 (.cons (.v 2) (.nil))) (.call 66 (.cons (.v 1) (.nil))))) (.seq (.ret (.k (.bl false))) (.pass)) (.pass)) (.seq (.ife (.cm .ne (.cm .is (.call 111 (.cons (.v 2) (.nil))) (.k (.non))) (.cm .is (.call 38 (.cons (.v 1) (.nil))) (.k (.non)))) (.seq (.ret (.k (.bl false))) (.pass)) (.pass)) (.seq (.ret (.call 119 (.cons (.v 0) (.cons (.v 1) (.nil))))) (.pass))))))))
def fd120 : Fd := ⟨1, 4, false, c120⟩
/-- has_group: 0:menu 1:value 2:entry 3:one 4:other -/
def c121 : S := .seq (.ife (.or (.not (.b1 .isTuple (.v 1))) (.cm .eq (.v 1) (.tup (.nil)))) (.seq (.ret (.k (.bl false))) (.pass)) (.pass)) (.seq (.ife (.not (.b1 .all (.lc (.one 2) (.it (.v 1)) (.k (.bl true)) (.call 23 (.cons (.v 2) (.cons (.k (.int 0)) (.cons (.op .sub (.b1 .len (.v 0)) (.k (.int 1))) (.nil)))))))) (.seq (.ret (.k (.bl false))) (.pass)) (.pass)) (.seq (.ret (.b1 .all (.lc (.two 3 4) (.zip (.v 1) (.sl (.v 1) true (.k (.int 1)) false (.nil))) (.k (.bl true)) (.cm .lt (.v 3) (.v 4))))) (.pass)))
def fd121 : Fd := ⟨2, 5, false, c121⟩
/-- check_group: 0:menu 1:value -/
def c122 : S := .seq (.ife (.not (.call 121 (.cons (.v 0) (.cons (.v 1) (.nil))))) (.seq (.rz 5) (.pass)) (.pass)) (.pass)
def fd122 : Fd := ⟨2, 2, false, c122⟩
/-- crowd: 0:menu 1:group -/
def c125 : S := .seq (.ex (.call 5 (.cons (.v 0) (.nil)))) (.seq (.ex (.call 122 (.cons (.v 0) (.cons (.v 1) (.nil))))) (.seq (.ret (.call 124 (.cons (.call 25 (.cons (.v 0) (.nil))) (.cons (.v 1) (.nil))))) (.pass)))
def fd125 : Fd := ⟨2, 2, false, c125⟩
/-- find_crowd: 0:choices 1:group -/
def c126 : S := .seq (.ret (.b1 .max (.op .add (.lst (.cons (.k (.int 0)) (.nil))) (.lc (.one 1) (.it (.call 34 (.cons (.b1 .len (.v 0)) (.nil)))) (.k (.bl true)) (.call 124 (.cons (.v 0) (.cons (.v 1) (.nil)))))))) (.pass)
def fd126 : Fd := ⟨1, 2, false, c126⟩
/-- greatest_crowd: 0:menu -/
def c127 : S := .seq (.ex (.call 5 (.cons (.v 0) (.nil)))) (.seq (.ret (.call 126 (.cons (.call 25 (.cons (.v 0) (.nil))) (.nil)))) (.pass))
def fd127 : Fd := ⟨1, 1, false, c127⟩
/-- crowded_group: 0:menu 1:choices 2:most 3:group -/
def b128_1 : S := .seq (.ife (.cm .eq (.call 124 (.cons (.v 1) (.cons (.v 3) (.nil)))) (.v 2)) (.seq (.ret (.v 3)) (.pass)) (.pass)) (.pass)
def c128 : S := .seq (.ex (.call 5 (.cons (.v 0) (.nil)))) (.seq (.set 1 (.call 25 (.cons (.v 0) (.nil)))) (.seq (.set 2 (.call 126 (.cons (.v 1) (.nil)))) (.seq (.fr (.one 3) (.it (.call 34 (.cons (.b1 .len (.v 1)) (.nil)))) (b128_1)) (.seq (.ret (.k (.non))) (.pass)))))
def fd128 : Fd := ⟨1, 4, false, c128⟩
/-- find_split: 0:choices 1:many 2:held 3:found 4:number 5:group 6:place -/
def b130_1 : S := .seq (.set 1 (.op .add (.v 1) (.k (.int 1)))) (.pass)
def c130 : S := .seq (.set 1 (.k (.int 0))) (.seq (.wh (.cm .lt (.b1 .len (.call 27 (.cons (.call 129 (.cons (.v 0) (.cons (.v 1) (.nil)))) (.nil)))) (.b1 .len (.v 0))) (b130_1)) (.seq (.set 2 (.call 27 (.cons (.call 129 (.cons (.v 0) (.cons (.v 1) (.nil)))) (.nil)))) (.seq (.set 3 (.lc (.one 4) (.rg1 (.v 1)) (.k (.bl true)) (.b1 .tuple (.b1 .sorted (.lc (.one 6) (.it (.v 2)) (.cm .eq (.ix (.v 6) (.k (.int 1))) (.v 4)) (.ix (.v 2) (.v 6))))))) (.seq (.ret (.b1 .sorted (.lc (.one 5) (.it (.v 3)) (.cm .ne (.v 5) (.tup (.nil))) (.v 5)))) (.pass)))))
def fd130 : Fd := ⟨1, 7, false, c130⟩
/-- fewest_groups: 0:menu -/
def c131 : S := .seq (.ex (.call 5 (.cons (.v 0) (.nil)))) (.seq (.ret (.b1 .len (.call 130 (.cons (.call 25 (.cons (.v 0) (.nil))) (.nil))))) (.pass))
def fd131 : Fd := ⟨1, 1, false, c131⟩
/-- smallest_split: 0:menu -/
def c132 : S := .seq (.ex (.call 5 (.cons (.v 0) (.nil)))) (.seq (.ret (.call 130 (.cons (.call 25 (.cons (.v 0) (.nil))) (.nil)))) (.pass))
def fd132 : Fd := ⟨1, 1, false, c132⟩
/-- _law_groups_k50: 0:_law_many 1:_law_found 2:_law_entry 3:_law_few 4:_law_group -/
def b136_1 : S := .seq (.set 1 (.op .add (.v 1) (.lc (.one 4) (.it (.v 1)) (.k (.bl true)) (.op .add (.v 4) (.tup (.cons (.v 2) (.nil))))))) (.pass)
def c136 : S := .seq (.set 1 (.lst (.cons (.tup (.nil)) (.nil)))) (.seq (.fr (.one 2) (.rg1 (.v 0)) (b136_1)) (.seq (.ret (.lc (.two 3 4) (.it (.b1 .sorted (.lc (.one 4) (.it (.v 1)) (.k (.bl true)) (.tup (.cons (.b1 .len (.v 4)) (.cons (.v 4) (.nil))))))) (.cm .gt (.v 3) (.k (.int 0))) (.v 4))) (.pass)))
def fd136 : Fd := ⟨1, 5, false, c136⟩
/-- find_fewest: 0:choices -/
def c141 : S := .seq (.ret (.op .sub (.b1 .len (.v 0)) (.b1 .len (.call 27 (.cons (.v 0) (.nil)))))) (.pass)
def fd141 : Fd := ⟨1, 1, false, c141⟩
/-- fewest_renamed: 0:menu -/
def c142 : S := .seq (.ex (.call 5 (.cons (.v 0) (.nil)))) (.seq (.ret (.call 141 (.cons (.call 25 (.cons (.v 0) (.nil))) (.nil)))) (.pass))
def fd142 : Fd := ⟨1, 1, false, c142⟩
/-- renaming_groups: 0:menu -/
def c144 : S := .seq (.ex (.call 5 (.cons (.v 0) (.nil)))) (.seq (.ret (.call 143 (.cons (.call 25 (.cons (.v 0) (.nil))) (.nil)))) (.pass))
def fd144 : Fd := ⟨1, 1, false, c144⟩
/-- may_rename: 0:menu 1:found 2:entry 3:group -/
def c145 : S := .seq (.ex (.call 5 (.cons (.v 0) (.nil)))) (.seq (.set 1 (.call 143 (.cons (.call 25 (.cons (.v 0) (.nil))) (.nil)))) (.seq (.ret (.lc (.one 2) (.rg1 (.b1 .len (.v 0))) (.b1 .any (.lc (.one 3) (.it (.v 1)) (.k (.bl true)) (.cm .inn (.v 2) (.v 3)))) (.v 2))) (.pass)))
def fd145 : Fd := ⟨1, 4, false, c145⟩
/-- new_names: 0:menu 1:group 2:known 3:fresh 4:letter 5:entry 6:name -/
def c146 : S := .seq (.ex (.call 5 (.cons (.v 0) (.nil)))) (.seq (.ife (.cm .ne (.v 1) (.tup (.nil))) (.seq (.ex (.call 122 (.cons (.v 0) (.cons (.v 1) (.nil))))) (.pass)) (.pass)) (.seq (.set 2 (.b2 .join (.k (.str [])) (.lc (.two 5 6) (.enum (.v 0)) (.cm .nin (.v 5) (.v 1)) (.v 6)))) (.seq (.set 3 (.lc (.one 4) (.it (.k (.str [97, 98, 99, 100, 101, 102, 103, 104, 105, 106, 107, 108, 109, 110, 111, 112, 113, 114, 115, 116, 117, 118, 119, 120, 121, 122]))) (.cm .nin (.v 4) (.v 2)) (.v 4))) (.seq (.ife (.cm .lt (.b1 .len (.v 3)) (.b1 .len (.v 1))) (.seq (.rz 10) (.pass)) (.pass)) (.seq (.ret (.sl (.v 3) false (.nil) true (.b1 .len (.v 1)))) (.pass))))))
def fd146 : Fd := ⟨2, 7, false, c146⟩
/-- check_kept: 0:menu 1:kept 2:sign 3:one 4:other -/
def c148 : S := .seq (.ex (.call 5 (.cons (.v 0) (.nil)))) (.seq (.ife (.or (.not (.b1 .isStr (.v 1))) (.not (.b1 .all (.lc (.one 2) (.it (.v 1)) (.k (.bl true)) (.cm .inn (.v 2) (.k (.str [97, 98, 99, 100, 101, 102, 103, 104, 105, 106, 107, 108, 109, 110, 111, 112, 113, 114, 115, 116, 117, 118, 119, 120, 121, 122]))))))) (.seq (.rz 4) (.pass)) (.pass)) (.seq (.ife (.not (.b1 .all (.lc (.two 3 4) (.zip (.v 1) (.sl (.v 1) true (.k (.int 1)) false (.nil))) (.k (.bl true)) (.cm .lt (.v 3) (.v 4))))) (.seq (.rz 4) (.pass)) (.pass)) (.pass)))
def fd148 : Fd := ⟨2, 5, false, c148⟩
/-- choices_without: 0:menu 1:kept 2:row 3:letter -/
def c149 : S := .seq (.ret (.lc (.one 2) (.it (.call 25 (.cons (.v 0) (.nil)))) (.k (.bl true)) (.lc (.one 3) (.it (.v 2)) (.cm .nin (.v 3) (.v 1)) (.v 3)))) (.pass)
def fd149 : Fd := ⟨2, 4, false, c149⟩
/-- size_without: 0:menu 1:kept -/
def c150 : S := .seq (.ex (.call 148 (.cons (.v 0) (.cons (.v 1) (.nil))))) (.seq (.ret (.b1 .len (.call 27 (.cons (.call 149 (.cons (.v 0) (.cons (.v 1) (.nil)))) (.nil))))) (.pass))
def fd150 : Fd := ⟨2, 2, false, c150⟩
/-- is_full_without: 0:menu 1:kept -/
def c151 : S := .seq (.ex (.call 148 (.cons (.v 0) (.cons (.v 1) (.nil))))) (.seq (.ret (.call 29 (.cons (.call 149 (.cons (.v 0) (.cons (.v 1) (.nil)))) (.nil)))) (.pass))
def fd151 : Fd := ⟨2, 2, false, c151⟩
/-- blocked_group: 0:menu 1:kept 2:choices 3:group -/
def b152_1 : S := .seq (.ife (.cm .gt (.call 33 (.cons (.v 2) (.cons (.v 3) (.nil)))) (.k (.int 0))) (.seq (.ret (.v 3)) (.pass)) (.pass)) (.pass)
def c152 : S := .seq (.ex (.call 148 (.cons (.v 0) (.cons (.v 1) (.nil))))) (.seq (.set 2 (.call 149 (.cons (.v 0) (.cons (.v 1) (.nil))))) (.seq (.fr (.one 3) (.it (.call 34 (.cons (.b1 .len (.v 2)) (.nil)))) (b152_1)) (.seq (.ret (.k (.non))) (.pass))))
def fd152 : Fd := ⟨2, 4, false, c152⟩
/-- _law_left: 0:_law_menu_here 1:_law_kept 2:_law_name 3:_law_sign -/
def c153 : S := .seq (.ret (.lc (.one 2) (.it (.v 0)) (.k (.bl true)) (.b2 .join (.k (.str [])) (.lc (.one 3) (.it (.v 2)) (.cm .nin (.v 3) (.v 1)) (.v 3))))) (.pass)
def fd153 : Fd := ⟨2, 4, false, c153⟩
/-- law_k60: 0:_law_script 1:_law_i 2:_law_menu_here 3:_law_kept 4:_law_rows 5:_law_most_here 6:_law_found 7:_law_group 8:_law_sign 9:_law_entry -/
def b154_1 : S := .seq (.ife (.cm .gt (.b1 .len (.v 7)) (.b1 .lset (.b2 .join (.k (.str [])) (.lc (.one 9) (.it (.v 7)) (.k (.bl true)) (.ix (.v 4) (.v 9)))))) (.seq (.set 6 (.v 7)) (.pass)) (.pass)) (.pass)
def b154_2 : S := .seq (.set 2 (.call 134 (.cons (.v 0) (.cons (.op .mul (.k (.int 70)) (.v 1)) (.cons (.k (.int 7)) (.nil)))))) (.seq (.set 3 (.b2 .join (.k (.str [])) (.lc (.one 8) (.it (.k (.str [97, 98, 99, 100, 101, 102, 103, 122]))) (.cm .eq (.call 133 (.cons (.v 0) (.cons (.op .add (.op .add (.op .mul (.k (.int 70)) (.v 1)) (.k (.int 50))) (.b2 .index (.k (.str [97, 98, 99, 100, 101, 102, 103, 122])) (.v 8))) (.cons (.k (.int 4)) (.nil))))) (.k (.int 0))) (.v 8)))) (.seq (.set 4 (.call 153 (.cons (.v 2) (.cons (.v 3) (.nil))))) (.seq (.set 5 (.call 135 (.cons (.v 4) (.nil)))) (.seq (.ife (.or (.cm .ne (.call 150 (.cons (.v 2) (.cons (.v 3) (.nil)))) (.v 5)) (.cm .ne (.call 151 (.cons (.v 2) (.cons (.v 3) (.nil)))) (.cm .eq (.v 5) (.b1 .len (.v 2))))) (.seq (.ret (.k (.bl false))) (.pass)) (.pass)) (.seq (.set 6 (.k (.non))) (.seq (.fr (.one 7) (.it (.rev (.call 136 (.cons (.b1 .len (.v 2)) (.nil))))) (b154_1)) (.seq (.ife (.or (.cm .ne (.call 152 (.cons (.v 2) (.cons (.v 3) (.nil)))) (.v 6)) (.cm .ne (.cm .is (.v 6) (.k (.non))) (.cm .eq (.v 5) (.b1 .len (.v 2))))) (.seq (.ret (.k (.bl false))) (.pass)) (.pass)) (.seq (.ife (.cm .ne (.call 150 (.cons (.v 2) (.cons (.k (.str [])) (.nil)))) (.call 30 (.cons (.v 2) (.nil)))) (.seq (.ret (.k (.bl false))) (.pass)) (.pass)) (.pass)))))))))
def c154 : S := .seq (.fr (.one 1) (.rg1 (.k (.int 4))) (b154_2)) (.seq (.ret (.and (.cm .eq (.call 150 (.cons (.tup (.cons (.k (.str [111, 112, 101, 110])) (.cons (.k (.str [115, 97, 118, 101])) (.cons (.k (.str [99, 108, 111, 115, 101])) (.cons (.k (.str [101, 120, 105, 116])) (.nil)))))) (.cons (.k (.str [101, 111, 115])) (.nil)))) (.k (.int 4))) (.cm .eq (.call 152 (.cons (.tup (.cons (.k (.str [97, 98])) (.cons (.k (.str [97])) (.nil)))) (.cons (.k (.str [98])) (.nil)))) (.tup (.cons (.k (.int 0)) (.cons (.k (.int 1)) (.nil))))))) (.pass))
def fd154 : Fd := ⟨1, 10, false, c154⟩
/-- can_keep: 0:menu 1:needed 2:letter -/
def c155 : S := .seq (.set 1 (.call 55 (.cons (.call 50 (.cons (.v 0) (.nil))) (.nil)))) (.seq (.ret (.b2 .join (.k (.str [])) (.lc (.one 2) (.it (.k (.str [97, 98, 99, 100, 101, 102, 103, 104, 105, 106, 107, 108, 109, 110, 111, 112, 113, 114, 115, 116, 117, 118, 119, 120, 121, 122]))) (.cm .nin (.v 2) (.v 1)) (.v 2)))) (.pass))
def fd155 : Fd := ⟨1, 3, false, c155⟩
/-- names_letters: 0:choices 1:letter 2:row -/
def c156 : S := .seq (.ret (.lc (.one 1) (.it (.k (.str [97, 98, 99, 100, 101, 102, 103, 104, 105, 106, 107, 108, 109, 110, 111, 112, 113, 114, 115, 116, 117, 118, 119, 120, 121, 122]))) (.b1 .any (.lc (.one 2) (.it (.v 0)) (.k (.bl true)) (.cm .inn (.v 1) (.v 2)))) (.v 1))) (.pass)
def fd156 : Fd := ⟨1, 3, false, c156⟩
/-- most_kept: 0:menu 1:choices -/
def c157 : S := .seq (.set 1 (.call 50 (.cons (.v 0) (.nil)))) (.seq (.ret (.op .sub (.b1 .len (.call 156 (.cons (.v 1) (.nil)))) (.b1 .len (.v 1)))) (.pass))
def fd157 : Fd := ⟨1, 2, false, c157⟩
/-- kept_with: 0:menu 1:choices 2:kept 3:letter 4:rest 5:row 6:one -/
def b158_1 : S := .seq (.set 4 (.lc (.one 5) (.it (.v 1)) (.k (.bl true)) (.lc (.one 6) (.it (.v 5)) (.cm .nin (.v 6) (.op .add (.v 2) (.v 3))) (.v 6)))) (.seq (.ife (.call 29 (.cons (.v 4) (.nil))) (.seq (.set 2 (.op .add (.v 2) (.v 3))) (.pass)) (.pass)) (.pass))
def c158 : S := .seq (.set 1 (.call 50 (.cons (.v 0) (.nil)))) (.seq (.set 2 (.k (.str []))) (.seq (.fr (.one 3) (.it (.call 156 (.cons (.v 1) (.nil)))) (b158_1)) (.seq (.ret (.v 2)) (.pass))))
def fd158 : Fd := ⟨1, 7, false, c158⟩
/-- _law_all_k63: 0:_law_calls 1:_law_name 2:_law_call -/
def c161 : S := .seq (.ret (.b1 .all (.lc (.one 2) (.it (.v 0)) (.k (.bl true)) (.cm .eq (.call 160 (.cons (.v 2) (.nil))) (.tup (.cons (.k (.str [101, 114, 114, 111, 114])) (.cons (.v 1) (.nil)))))))) (.pass)
def fd161 : Fd := ⟨2, 3, false, c161⟩
/-- marked: 0:name 1:letter 2:place -/
def c168 : S := .seq (.ife (.cm .is (.v 1) (.k (.non))) (.seq (.ret (.v 0)) (.pass)) (.pass)) (.seq (.set 2 (.b2 .index (.v 0) (.v 1))) (.seq (.ret (.op .add (.op .add (.sl (.v 0) false (.nil) true (.v 2)) (.k (.str [95]))) (.sl (.v 0) true (.v 2) false (.nil)))) (.pass)))
def fd168 : Fd := ⟨2, 3, false, c168⟩
/-- menu_text: 0:menu 1:assignment 2:name 3:letter -/
def c169 : S := .seq (.ret (.b2 .join (.k (.str [44, 32])) (.lc (.two 2 3) (.zip (.v 0) (.v 1)) (.k (.bl true)) (.call 168 (.cons (.v 2) (.cons (.v 3) (.nil))))))) (.pass)
def fd169 : Fd := ⟨2, 4, false, c169⟩
/-- format_menu: 0:menu 1:assignment -/
def c170 : S := .seq (.ex (.call 5 (.cons (.v 0) (.nil)))) (.seq (.ex (.call 7 (.cons (.v 0) (.cons (.v 1) (.nil))))) (.seq (.ret (.call 169 (.cons (.v 0) (.cons (.v 1) (.nil))))) (.pass)))
def fd170 : Fd := ⟨2, 2, false, c170⟩
/-- letter_in: 0:word 1:place -/
def c171 : S := .seq (.set 1 (.b2 .find (.v 0) (.k (.str [95])))) (.seq (.ret (.ife (.cm .ge (.v 1) (.k (.int 0))) (.sl (.v 0) true (.op .add (.v 1) (.k (.int 1))) true (.op .add (.v 1) (.k (.int 2)))) (.k (.non)))) (.pass))
def fd171 : Fd := ⟨1, 2, false, c171⟩
/-- parse_menu: 0:text 1:found 2:menu 3:assignment 4:word -/
def c172 : S := .seq (.ife (.not (.b1 .isStr (.v 0))) (.seq (.rz 14) (.pass)) (.pass)) (.seq (.set 1 (.ife (.cm .ne (.v 0) (.k (.str []))) (.b2 .split (.v 0) (.k (.str [44, 32]))) (.lst (.nil)))) (.seq (.set 2 (.b1 .tuple (.lc (.one 4) (.it (.v 1)) (.k (.bl true)) (.b3 .replace (.v 4) (.k (.str [95])) (.k (.str [])))))) (.seq (.set 3 (.b1 .tuple (.lc (.one 4) (.it (.v 1)) (.k (.bl true)) (.call 171 (.cons (.v 4) (.nil)))))) (.seq (.ife (.or (.not (.call 2 (.cons (.v 2) (.nil)))) (.or (.not (.call 4 (.cons (.v 2) (.cons (.v 3) (.nil))))) (.cm .ne (.call 169 (.cons (.v 2) (.cons (.v 3) (.nil)))) (.v 0)))) (.seq (.rz 14) (.pass)) (.pass)) (.seq (.ret (.tup (.cons (.v 2) (.cons (.v 3) (.nil))))) (.pass))))))
def fd172 : Fd := ⟨1, 5, false, c172⟩
/-- check_few: 0:menu 1:most -/
def c175 : S := .seq (.ex (.call 5 (.cons (.v 0) (.nil)))) (.seq (.ife (.cm .gt (.b1 .len (.v 0)) (.v 1)) (.seq (.rz 10) (.pass)) (.pass)) (.pass))
def fd175 : Fd := ⟨2, 2, false, c175⟩
/-- naive_count_full: 0:menu -/
def c177 : S := .seq (.ex (.call 175 (.cons (.v 0) (.cons (.k (.int 5)) (.nil))))) (.seq (.ret (.b1 .len (.call 176 (.cons (.v 0) (.nil))))) (.pass))
def fd177 : Fd := ⟨1, 1, false, c177⟩
/-- naive_least_cost: 0:menu 1:costs 2:way 3:name 4:letter -/
def c178 : S := .seq (.ex (.call 175 (.cons (.v 0) (.cons (.k (.int 5)) (.nil))))) (.seq (.set 1 (.lc (.one 2) (.it (.call 176 (.cons (.v 0) (.nil)))) (.k (.bl true)) (.b1 .sum (.lc (.two 3 4) (.zip (.v 0) (.v 2)) (.k (.bl true)) (.b2 .find (.v 3) (.v 4)))))) (.seq (.ret (.ife (.cm .ne (.v 1) (.lst (.nil))) (.b1 .min (.v 1)) (.k (.non)))) (.pass)))
def fd178 : Fd := ⟨1, 5, false, c178⟩
/-- law_k72: 0:_law_script 1:_law_i 2:_law_menu_here 3:_law_ways_here 4:_law_costs 5:_law_way 6:_law_name 7:_law_letter -/
def b181_1 : S := .seq (.set 2 (.call 173 (.cons (.v 0) (.cons (.op .mul (.k (.int 50)) (.v 1)) (.cons (.k (.int 5)) (.nil)))))) (.seq (.set 3 (.call 163 (.cons (.v 2) (.nil)))) (.seq (.ife (.or (.cm .ne (.call 177 (.cons (.v 2) (.nil))) (.b1 .len (.v 3))) (.cm .ne (.call 41 (.cons (.v 2) (.nil))) (.b1 .len (.v 3)))) (.seq (.ret (.k (.bl false))) (.pass)) (.pass)) (.seq (.set 4 (.lc (.one 5) (.it (.v 3)) (.k (.bl true)) (.b1 .sum (.lc (.two 6 7) (.zip (.v 2) (.v 5)) (.k (.bl true)) (.b2 .index (.v 6) (.v 7)))))) (.seq (.ife (.cm .ne (.call 178 (.cons (.v 2) (.nil))) (.ife (.cm .ne (.v 4) (.lst (.nil))) (.b1 .min (.v 4)) (.k (.non)))) (.seq (.ret (.k (.bl false))) (.pass)) (.pass)) (.seq (.ife (.and (.cm .ne (.v 4) (.lst (.nil))) (.cm .ne (.call 66 (.cons (.v 2) (.nil))) (.b1 .min (.v 4)))) (.seq (.ret (.k (.bl false))) (.pass)) (.pass)) (.seq (.ife (.and (.cm .ne (.v 2) (.tup (.nil))) (.cm .ne (.call 180 (.cons (.v 2) (.nil))) (.call 131 (.cons (.v 2) (.nil))))) (.seq (.ret (.k (.bl false))) (.pass)) (.pass)) (.pass)))))))
def c181 : S := .seq (.fr (.one 1) (.rg1 (.k (.int 4))) (b181_1)) (.seq (.ret (.and (.cm .eq (.call 177 (.cons (.tup (.cons (.k (.str [97, 98])) (.cons (.k (.str [98, 99])) (.nil)))) (.nil))) (.k (.int 3))) (.and (.cm .eq (.call 180 (.cons (.tup (.nil)) (.nil))) (.k (.int 0))) (.cm .eq (.call 178 (.cons (.tup (.cons (.k (.str [97])) (.cons (.k (.str [98])) (.nil)))) (.nil))) (.k (.int 0)))))) (.pass))
def fd181 : Fd := ⟨1, 8, false, c181⟩
/-- _wall: 0:k -/
def b182_1 : S := .seq (.pass) (.pass)
def c182 : S := .seq (.wh (.k (.bl true)) (b182_1)) (.pass)
def fd182 : Fd := ⟨1, 1, false, c182⟩
def TT : Nat → Option Fd
  | 0 => some fd0
  | 1 => some fd1
  | 2 => some fd2
  | 3 => some fd3
  | 4 => some fd4
  | 5 => some fd5
  | 6 => some fd6
  | 7 => some fd7
  | 8 => some fd8
  | 9 => some fd9
  | 10 => some fd10
  | 11 => some fd11
  | 12 => some fd12
  | 13 => some fd13
  | 14 => some fd14
  | 15 => some fd15
  | 16 => some fd16
  | 17 => some fd17
  | 18 => some fd18
  | 19 => some fd19
  | 20 => some fd20
  | 21 => some fd21
  | 22 => some fd22
  | 23 => some fd23
  | 24 => some fd24
  | 25 => some fd25
  | 29 => some fd29
  | 30 => some fd30
  | 31 => some fd31
  | 32 => some fd32
  | 35 => some fd35
  | 36 => some fd36
  | 37 => some fd37
  | 38 => some fd38
  | 40 => some fd40
  | 41 => some fd41
  | 43 => some fd43
  | 45 => some fd45
  | 46 => some fd46
  | 48 => some fd48
  | 50 => some fd50
  | 51 => some fd51
  | 53 => some fd53
  | 54 => some fd54
  | 55 => some fd55
  | 56 => some fd56
  | 57 => some fd57
  | 58 => some fd58
  | 59 => some fd59
  | 63 => some fd63
  | 65 => some fd65
  | 66 => some fd66
  | 67 => some fd67
  | 70 => some fd70
  | 72 => some fd72
  | 73 => some fd73
  | 74 => some fd74
  | 77 => some fd77
  | 78 => some fd78
  | 82 => some fd82
  | 83 => some fd83
  | 84 => some fd84
  | 85 => some fd85
  | 88 => some fd88
  | 89 => some fd89
  | 90 => some fd90
  | 91 => some fd91
  | 92 => some fd92
  | 93 => some fd93
  | 94 => some fd94
  | 97 => some fd97
  | 101 => some fd101
  | 102 => some fd102
  | 103 => some fd103
  | 105 => some fd105
  | 106 => some fd106
  | 107 => some fd107
  | 109 => some fd109
  | 110 => some fd110
  | 111 => some fd111
  | 112 => some fd112
  | 113 => some fd113
  | 114 => some fd114
  | 115 => some fd115
  | 116 => some fd116
  | 117 => some fd117
  | 120 => some fd120
  | 121 => some fd121
  | 122 => some fd122
  | 125 => some fd125
  | 126 => some fd126
  | 127 => some fd127
  | 128 => some fd128
  | 130 => some fd130
  | 131 => some fd131
  | 132 => some fd132
  | 136 => some fd136
  | 141 => some fd141
  | 142 => some fd142
  | 144 => some fd144
  | 145 => some fd145
  | 146 => some fd146
  | 148 => some fd148
  | 149 => some fd149
  | 150 => some fd150
  | 151 => some fd151
  | 152 => some fd152
  | 153 => some fd153
  | 154 => some fd154
  | 155 => some fd155
  | 156 => some fd156
  | 157 => some fd157
  | 158 => some fd158
  | 161 => some fd161
  | 168 => some fd168
  | 169 => some fd169
  | 170 => some fd170
  | 171 => some fd171
  | 172 => some fd172
  | 175 => some fd175
  | 177 => some fd177
  | 178 => some fd178
  | 181 => some fd181
  | 182 => some fd182
  | _ => none
end Mip

set_option linter.all false
set_option maxRecDepth 100000
/-! plain 1: steps of the interpreter -/
namespace Mip
open Mi
theorem opq {α : Sort _} {a b : α} (h : a = b) : a = b := h
abbrev wT (n : Nat) : Cw := { f := run TT n, x := none, io := runIo TT n }
theorem runT {n i : Nat} {fd : Fd} {ds : List D} {ρ : Env} (h : TT i = some fd) (hio : fd.io = false) (hl : ds.length = fd.ps) (e : startE fd.ns (ds.map .sh) = ρ) : run TT (n + 1) i ds = endR (exec (wT n) fd.body ρ) := by
  rw [run, h]
  simp only [hio, hl, if_true, e]
  subst e
  rfl
theorem out_ok {α : Type} (a : α) (ρ : Env) (f : α → Out) : (R.ok a).out ρ f = f a := opq rfl
theorem out_rz {α : Type} (c : Nat) (ρ : Env) (f : α → Out) : (R.rz c : R α).out ρ f = .rz c ρ := opq rfl
section
variable (w : Cl) (ρ : Env)
theorem e_k (d : D) : ev w (.k d) ρ = (.ok d) := opq rfl
theorem e_v (i : Nat) : ev w (.v i) ρ = (slD (getS ρ i)) := opq rfl
theorem e_o (i : Nat) : ev w (.o i) ρ = (slO (getS ρ i)) := opq rfl
theorem e_nil  : ev w (.nil) ρ = (.ok (.lst [])) := opq rfl
theorem e_cons (a b : C) : ev w (.cons a b) ρ = ((ev w a ρ).bind fun x => (ev w b ρ).bind fun y => (lstR y).bind fun ys => .ok (.lst (x :: ys))) := opq rfl
theorem e_tup (as : C) : ev w (.tup as) ρ = ((ev w as ρ).bind fun x => (lstR x).bind fun xs => mkT xs) := opq rfl
theorem e_lst (as : C) : ev w (.lst as) ρ = ((ev w as ρ).bind fun x => (lstR x).bind fun xs => mkL xs) := opq rfl
theorem e_dct (b : Bool) (ks vs : C) : ev w (.dct b ks vs) ρ = ((ev w ks ρ).bind fun x => (ev w vs ρ).bind fun y => (lstR x).bind fun xs => (lstR y).bind fun ys => match pairKV xs ys with
    | some kvs => if oneKind b kvs then .ok (.dic b (merge [] kvs)) else .no
    | none => .no) := opq rfl
theorem e_op (o : Op) (a b : C) : ev w (.op o a b) ρ = ((ev w a ρ).bind fun x => (ev w b ρ).bind fun y => opR o x y) := opq rfl
theorem e_neg (a : C) : ev w (.neg a) ρ = ((ev w a ρ).bind fun x => match x with
    | .int i => .ok (.int (-i))
    | _ => .no) := opq rfl
theorem e_not (a : C) : ev w (.not a) ρ = ((ev w a ρ).bind fun x => (blR x).bind fun b => .ok (.bl (!b))) := opq rfl
theorem e_cm (c : Cm) (a b : C) : ev w (.cm c a b) ρ = ((ev w a ρ).bind fun x => (ev w b ρ).bind fun y => (cmR c x y).bind fun b => .ok (.bl b)) := opq rfl
theorem e_ch (c d : Cm) (a b e : C) : ev w (.ch c d a b e) ρ = ((ev w a ρ).bind fun x => (ev w b ρ).bind fun y => (cmR c x y).bind fun k => if k then (ev w e ρ).bind fun z => (cmR d y z).bind fun q => .ok (.bl q) else .ok (.bl false)) := opq rfl
theorem e_and (a b : C) : ev w (.and a b) ρ = ((ev w a ρ).bind fun x => (blR x).bind fun k => if k then ev w b ρ else .ok (.bl false)) := opq rfl
theorem e_or (a b : C) : ev w (.or a b) ρ = ((ev w a ρ).bind fun x => (blR x).bind fun k => if k then .ok (.bl true) else ev w b ρ) := opq rfl
theorem e_ife (c a b : C) : ev w (.ife c a b) ρ = ((ev w c ρ).bind fun x => (blR x).bind fun k => if k then ev w a ρ else ev w b ρ) := opq rfl
theorem e_ix (a i : C) : ev w (.ix a i) ρ = ((ev w a ρ).bind fun x => (ev w i ρ).bind fun y => ixR x y) := opq rfl
theorem e_sl (a : C) (bl : Bool) (lo : C) (bh : Bool) (hi : C) : ev w (.sl a bl lo bh hi) ρ = ((ev w a ρ).bind fun x => (partR bl (ev w lo ρ)).bind fun l => (partR bh (ev w hi ρ)).bind fun h => slR x l h) := opq rfl
theorem e_rev (a : C) : ev w (.rev a) ρ = ((ev w a ρ).bind revR) := opq rfl
theorem e_b1 (b : B1) (a : C) : ev w (.b1 b a) ρ = ((ev w a ρ).bind fun x => b1R b x) := opq rfl
theorem e_b2 (b : B2) (a c : C) : ev w (.b2 b a c) ρ = ((ev w a ρ).bind fun x => if recv2 b x then (ev w c ρ).bind fun y => b2R b x y else .no) := opq rfl
theorem e_b3 (b : B3) (a c e : C) : ev w (.b3 b a c e) ρ = ((ev w a ρ).bind fun x => if recv3 b x then (ev w c ρ).bind fun y => (ev w e ρ).bind fun z => b3R b x y z else .no) := opq rfl
theorem e_call (f : Nat) (as : C) : ev w (.call f as) ρ = ((ev w as ρ).bind fun x => (lstR x).bind fun xs => w.f f xs) := opq rfl
theorem e_pick (fs : List Nat) (i as : C) : ev w (.pick fs i as) ρ = ((ev w i ρ).bind fun x => match x with
    | .int n => match atI fs n with
      | some f => (ev w as ρ).bind fun y => (lstR y).bind fun xs => w.f f xs
      | none => .no
    | _ => .no) := opq rfl
theorem e_isx (c : Nat) : ev w (.isx c) ρ = (match w.x with
    | some x => .ok (.bl (isSub c x))
    | none => .no) := opq rfl
theorem e_it (a : C) : ev w (.it a) ρ = ((ev w a ρ).bind fun x => (itemsR x).bind fun xs => .ok (.lst xs)) := opq rfl
theorem e_rg1 (a : C) : ev w (.rg1 a) ρ = ((ev w a ρ).bind fun x => (rngR (.int 0) x).bind fun xs => .ok (.lst xs)) := opq rfl
theorem e_rg2 (a b : C) : ev w (.rg2 a b) ρ = ((ev w a ρ).bind fun x => (ev w b ρ).bind fun y => (rngR x y).bind fun xs => .ok (.lst xs)) := opq rfl
theorem e_enum (a : C) : ev w (.enum a) ρ = ((ev w a ρ).bind enumC) := opq rfl
theorem e_zip (a b : C) : ev w (.zip a b) ρ = ((ev w a ρ).bind fun x => (ev w b ρ).bind fun y => zipC x y) := opq rfl
theorem e_zips (a : C) : ev w (.zips a) ρ = ((ev w a ρ).bind fun x => (lstR x).bind fun xs => match tups xs with
    | some (l :: ls) => .ok (.lst (colsN (l :: ls) 0 l.length))
    | _ => .no) := opq rfl
theorem e_items (a : C) : ev w (.items a) ρ = ((ev w a ρ).bind itemsC) := opq rfl
theorem e_lc (g : Tg) (it c e : C) : ev w (.lc g it c e) ρ = ((ev w it ρ).bind fun x => (lstR x).bind fun xs => ((lcR (fun x => (tgR g x (wipT g ρ)).bind fun ρ' => (ev w c ρ').bind fun y => (blR y).bind fun b => if b then (ev w e ρ').bind fun z => .ok (some z) else .ok none) xs).calm).bind fun ys => .ok (.lst ys)) := opq rfl
theorem e_lc2 (g : Tg) (it : C) (h : Tg) (it2 c e : C) : ev w (.lc2 g it h it2 c e) ρ = ((ev w it ρ).bind fun x => (lstR x).bind fun xs => ((lc2R (fun x => (tgR g x (wipT g (wipT h ρ))).bind fun ρ' => (ev w it2 ρ').bind fun y => (lstR y).bind fun ys =>
      lcR (fun x => (tgR h x ρ').bind fun ρ'' => (ev w c ρ'').bind fun y => (blR y).bind fun b => if b then (ev w e ρ'').bind fun z => .ok (some z) else .ok none) ys) xs).calm).bind fun ys => mkL ys) := opq rfl
theorem e_dc (g : Tg) (it c k v : C) : ev w (.dc g it c k v) ρ = ((ev w it ρ).bind fun x => (lstR x).bind fun xs => ((dcR (fun x => (tgR g x (wipT g ρ)).bind fun ρ' => (ev w c ρ').bind fun y => (blR y).bind fun b => if b then
      (ev w k ρ').bind fun a => (ev w v ρ').bind fun z => match a.ky with
        | some q => .ok (some (q, z))
        | none => .no
      else .ok none) xs []).calm).bind fun ys => .ok (.dic true ys)) := opq rfl
theorem e_dc2 (g : Tg) (it : C) (h : Tg) (it2 c k v : C) : ev w (.dc2 g it h it2 c k v) ρ = ((ev w it ρ).bind fun x => (lstR x).bind fun xs => ((dc2R (fun x acc => (tgR g x (wipT g (wipT h ρ))).bind fun ρ' => (ev w it2 ρ').bind fun y => (lstR y).bind fun ys =>
      dcR (fun x => (tgR h x ρ').bind fun ρ'' => (ev w c ρ'').bind fun y => (blR y).bind fun b => if b then
        (ev w k ρ'').bind fun a => (ev w v ρ'').bind fun z => match a.ky with
          | some q => .ok (some (q, z))
          | none => .no
        else .ok none) ys acc) xs []).calm).bind fun ys => if ys.length ≤ LIM then .ok (.dic true ys) else .no) := opq rfl
end
theorem k_ok {α β : Type} (a : α) (f : α → R β) : (R.ok a).bind f = f a := opq rfl
theorem k_rz {α β : Type} (c : Nat) (f : α → R β) : (R.rz c : R α).bind f = .rz c := opq rfl
theorem g_0 (x : Sl) (r : Env) : getS (x :: r) 0 = x := opq rfl
theorem g_s (x : Sl) (r : Env) (n : Nat) : getS (x :: r) (n + 1) = getS r n := opq rfl
theorem s_0 (x : Sl) (r : Env) (y : Sl) : setS (x :: r) 0 y = y :: r := opq rfl
theorem s_s (x : Sl) (r : Env) (n : Nat) (y : Sl) : setS (x :: r) (n + 1) y = x :: setS r n y := opq rfl
theorem sl_sh (d : D) : slD (.sh d) = .ok d := opq rfl
theorem so_l (xs : List D) : slO (.ol xs) = .ok (.lst xs) := opq rfl
theorem so_d (b : Bool) (kvs : KVs) : slO (.od b kvs) = .ok (.dic b kvs) := opq rfl
theorem l_lst (xs : List D) : lstR (.lst xs) = .ok xs := opq rfl
theorem b_bl (b : Bool) : blR (.bl b) = .ok b := opq rfl
theorem t_one (i : Nat) (d : D) (ρ : Env) : tgR (.one i) d ρ = .ok (setS ρ i (.sh d)) := opq rfl
theorem t_two (i j : Nat) (x y : D) (ρ : Env) : tgR (.two i j) (.tup [x, y]) ρ = .ok (setS (setS ρ i (.sh x)) j (.sh y)) := opq rfl
theorem w_one (i : Nat) (ρ : Env) : wipT (.one i) ρ = setS ρ i .no := opq rfl
theorem w_two (i j : Nat) (ρ : Env) : wipT (.two i j) ρ = setS (setS ρ j .no) i .no := opq rfl
theorem n_ok (b : Bool) : neg (.ok b) = .ok (!b) := opq rfl
def suW (w : Cw) (c : Nat) : Cw := { w with x := some c }
section
variable (w : Cw) (ρ : Env)
theorem x_pass : exec w .pass ρ = .nx ρ := opq rfl
theorem x_seq (a b : S) : exec w (.seq a b) ρ = (exec w a ρ).andThen (exec w b) := opq rfl
theorem x_set (i : Nat) (e : C) : exec w (.set i e) ρ = (ev w.toCl e ρ).out ρ fun d => .nx (setS ρ i (.sh d)) := opq rfl
theorem x_ex (e : C) : exec w (.ex e) ρ = (ev w.toCl e ρ).out ρ fun _ => .nx ρ := opq rfl
theorem x_ret (e : C) : exec w (.ret e) ρ = (ev w.toCl e ρ).out ρ fun d => .rt d ρ := opq rfl
theorem x_ife (c : C) (a b : S) : exec w (.ife c a b) ρ = ((ev w.toCl c ρ).bind blR).out ρ fun k => if k then exec w a ρ else exec w b ρ := opq rfl
theorem x_fr (g : Tg) (it : C) (b : S) : exec w (.fr g it b) ρ = ((ev w.toCl it ρ).bind lstR).out ρ fun xs => forR g (exec w b) xs ρ := opq rfl
theorem x_wh (c : C) (b : S) : exec w (.wh c b) ρ = whR (fun ρ => (ev w.toCl c ρ).bind blR) (exec w b) TURNS ρ := opq rfl
theorem x_try (i : Nat) (b h : S) : exec w (.try_ i b h) ρ = (match exec w b ρ with
    | .rz c ρ' => if i < ρ'.length then match exec (suW w c) h (setS ρ' i .no) with
        | .nx ρ2 => .nx (setS ρ2 i .no)
        | .rt d ρ2 => .rt d (setS ρ2 i .no)
        | _ => .no
      else .no
    | o => o) := opq rfl
theorem x_brk : exec w .brk ρ = .bk ρ := opq rfl
theorem x_rz (c : Nat) : exec w (.rz c) ρ = .rz c ρ := opq rfl
end
theorem two_tup (x y : D) : two (.tup [x, y]) = some (x, y) := opq rfl
theorem isND_non : isND .non = true := opq rfl
theorem isND_str (x : List Nat) : isND (.str x) = false := opq rfl
theorem isND_tup (x : List D) : isND (.tup x) = false := opq rfl
theorem isND_lst (x : List D) : isND (.lst x) = false := opq rfl
theorem isND_int (x : Int) : isND (.int x) = false := opq rfl
theorem isND_bl (x : Bool) : isND (.bl x) = false := opq rfl
theorem then_nx (ρ : Env) (f : Env → Out) : (Out.nx ρ).andThen f = f ρ := opq rfl
theorem then_rt (d : D) (ρ : Env) (f : Env → Out) : (Out.rt d ρ).andThen f = .rt d ρ := opq rfl
theorem then_rz (c : Nat) (ρ : Env) (f : Env → Out) : (Out.rz c ρ).andThen f = .rz c ρ := opq rfl
theorem then_bk (ρ : Env) (f : Env → Out) : (Out.bk ρ).andThen f = .bk ρ := opq rfl
theorem endR_nx (ρ : Env) : endR (.nx ρ) = .ok .non := opq rfl
theorem endR_rt (d : D) (ρ : Env) : endR (.rt d ρ) = .ok d := opq rfl
theorem endR_rz (c : Nat) (ρ : Env) : endR (.rz c ρ) = .rz c := opq rfl
/-- a comprehension whose turns are known -/
theorem lcR_map {f : D → R (Option D)} {α : Type} {g : α → Option D} {e : α → D} : ∀ {xs : List α}, (∀ x ∈ xs, f (e x) = .ok (g x)) → lcR f (xs.map e) = .ok (xs.filterMap g)
  | [], _ => rfl
  | x :: r, h => by
    rw [List.map_cons, lcR, h x List.mem_cons_self, bind_ok, lcR_map fun y hy => h y (List.mem_cons_of_mem _ hy), bind_ok, List.filterMap_cons]
    cases g x <;> rfl
theorem lcR_all {f : D → R (Option D)} {α : Type} {g : α → D} {e : α → D} {xs : List α} (h : ∀ x ∈ xs, f (e x) = .ok (some (g x))) : lcR f (xs.map e) = .ok (xs.map g) := by
  rw [lcR_map (g := fun x => some (g x)) h]
  simp
/-- with a test -/
theorem lcR_if {f : D → R (Option D)} {α : Type} {p : α → Bool} {g : α → D} {e : α → D} {xs : List α} (h : ∀ x ∈ xs, f (e x) = .ok (if p x then some (g x) else none)) : lcR f (xs.map e) = .ok ((xs.filter p).map g) := by
  rw [lcR_map (g := fun x => if p x then some (g x) else none) h]
  congr 1
  clear h
  induction xs with
  | nil => rfl
  | cons x r ih => cases hp : p x <;> simp [List.filter_cons, hp, ih]
theorem lcR_ifI {f : D → R (Option D)} {p : D → Bool} {g : D → D} {xs : List D} (h : ∀ x ∈ xs, f x = if p x then .ok (some (g x)) else .ok none) : lcR f xs = .ok ((xs.filter p).map g) := by
  have := lcR_if (f := f) (p := p) (g := g) (e := fun x => x) (xs := xs) fun x hx => by rw [h x hx]; cases p x <;> rfl
  rwa [List.map_id'] at this
theorem lcR_allI {f : D → R (Option D)} {g : D → D} {xs : List D} (h : ∀ x ∈ xs, f x = .ok (some (g x))) : lcR f xs = .ok (xs.map g) := by
  have := lcR_all (f := f) (g := g) (e := fun x => x) (xs := xs) h
  rwa [List.map_id'] at this
/-- a test that is turned at once -/
theorem lcR_ifE {f : D → R (Option D)} {α : Type} {p : α → Bool} {g : α → D} {e : α → D} {xs : List α} (h : ∀ x ∈ xs, f (e x) = if p x then .ok (some (g x)) else .ok none) : lcR f (xs.map e) = .ok ((xs.filter p).map g) :=
  lcR_if fun x hx => by rw [h x hx]; cases p x <;> rfl
theorem calm_ok {α : Type} (a : α) : (R.ok a).calm = .ok a := opq rfl
/-- a for whose turns go on -/
theorem forR_ok {α : Type} {g : Tg} {b : Env → Out} {e : α → D} (P : List α → Env → Prop) (xs : List α) :
    ∀ {done rest : List α} {ρ : Env}, done ++ rest = xs → P done ρ → (∀ d x r ρ, d ++ x :: r = xs → P d ρ → ∃ ρ' ρ'', tgR g (e x) ρ = .ok ρ' ∧ b ρ' = .nx ρ'' ∧ P (d ++ [x]) ρ'') → ∃ ρ', forR g b (rest.map e) ρ = .nx ρ' ∧ P xs ρ'
  | done, [], ρ, hx, hp, _ => by
    rw [List.append_nil] at hx
    subst hx
    exact ⟨ρ, rfl, hp⟩
  | done, x :: r, ρ, hx, hp, hs => by
    obtain ⟨ρ', ρ'', h1, h2, h3⟩ := hs done x r ρ hx hp
    obtain ⟨ρ3, h4, h5⟩ := forR_ok P xs (done := done ++ [x]) (rest := r) (by rw [List.append_assoc]; exact hx) h3 hs
    refine ⟨ρ3, ?_, h5⟩
    rw [List.map_cons, forR, h1]
    simp only [h2]
    exact h4
theorem forR_all {α : Type} {g : Tg} {b : Env → Out} {e : α → D} (P : List α → Env → Prop) {xs : List α} {ρ : Env} (h0 : P [] ρ) (hs : ∀ d x r ρ, d ++ x :: r = xs → P d ρ → ∃ ρ' ρ'', tgR g (e x) ρ = .ok ρ' ∧ b ρ' = .nx ρ'' ∧ P (d ++ [x]) ρ'') : ∃ ρ', forR g b (xs.map e) ρ = .nx ρ' ∧ P xs ρ' :=
  forR_ok P xs (done := []) rfl h0 hs
theorem blsD_map {α : Type} (p : α → Bool) (xs : List α) : blsD (xs.map fun x => D.bl (p x)) = some (xs.map p) := by
  induction xs with
  | nil => rfl
  | cons x r ih => simp [blsD, ih]
theorem intsD_map {α : Type} (p : α → Int) (xs : List α) : intsD (xs.map fun x => D.int (p x)) = some (xs.map p) := by
  induction xs with
  | nil => rfl
  | cons x r ih => simp [intsD, ih]
theorem strsD_map {α : Type} (p : α → List Nat) (xs : List α) : strsD (xs.map fun x => D.str (p x)) = some (xs.map p) := by
  induction xs with
  | nil => rfl
  | cons x r ih => simp [strsD, ih]
theorem all_map {α : Type} (p : α → Bool) (xs : List α) : b1R .all (.lst (xs.map fun x => D.bl (p x))) = .ok (.bl (xs.all p)) := by
  simp [b1R, blsD_map, List.all_map, Function.comp_def]
theorem any_map {α : Type} (p : α → Bool) (xs : List α) : b1R .any (.lst (xs.map fun x => D.bl (p x))) = .ok (.bl (xs.any p)) := by
  simp [b1R, blsD_map, List.any_map, Function.comp_def]
theorem zipL_map {α β : Type} (f : α → D) (g : β → D) : ∀ (xs : List α) (ys : List β), zipL (xs.map f) (ys.map g) = (xs.zip ys).map fun p => .tup [f p.1, g p.2]
  | [], _ => rfl
  | _ :: _, [] => rfl
  | x :: xs, y :: ys => by simp [zipL, zipL_map f g xs ys]
end Mip

set_option linter.all false
set_option maxRecDepth 100000
/-! plain 2: whiles; the drawn numbers -/
namespace Mip
open Mi
theorem whR_ok {c : Env → R Bool} {b : Env → Out} (P : Nat → Env → Prop) (Q : Env → Prop)
    (hs : ∀ m ρ, P m ρ → (c ρ = .ok false ∧ Q ρ) ∨ (c ρ = .ok true ∧ ∃ ρ' m', m' < m ∧ b ρ = .nx ρ' ∧ P m' ρ')) : ∀ (fuel m : Nat) (ρ : Env), m < fuel → P m ρ → ∃ ρ', whR c b fuel ρ = .nx ρ' ∧ Q ρ'
  | 0, _, _, h, _ => by omega
  | f + 1, m, ρ, h, hp => by
    rcases hs m ρ hp with ⟨h1, h2⟩ | ⟨h1, ρ', m', h2, h3, h4⟩
    · refine ⟨ρ, ?_, h2⟩
      rw [whR, h1]
    · obtain ⟨ρ2, h5, h6⟩ := whR_ok P Q hs f m' ρ' (by omega) h4
      refine ⟨ρ2, ?_, h6⟩
      rw [whR, h1]
      simp only [h3]
      exact h5
theorem whR_all {c : Env → R Bool} {b : Env → Out} {m : Nat} {ρ : Env} (P : Nat → Env → Prop) (Q : Env → Prop) (hm : m < TURNS) (h0 : P m ρ)
    (hs : ∀ m ρ, P m ρ → (c ρ = .ok false ∧ Q ρ) ∨ (c ρ = .ok true ∧ ∃ ρ' m', m' < m ∧ b ρ = .nx ρ' ∧ P m' ρ')) : ∃ ρ', whR c b TURNS ρ = .nx ρ' ∧ Q ρ' := whR_ok P Q hs TURNS m ρ hm h0
theorem op_div {i j : Int} (h : 0 < j) (h2 : j.natAbs.log2 < 9000) : opR .div (.int i) (.int j) = .ok (.int (i / j)) := by
  simp only [opR, h, h2, decide_true, Bool.and_self, Bool.false_eq_true, ↓reduceIte]
theorem op_mod {i j : Int} (h : 0 < j) : opR .mod (.int i) (.int j) = .ok (.int (i % j)) := by
  simp only [opR, h, decide_true, Bool.false_eq_true, ↓reduceIte]
theorem op_mul {i j : Int} (h : small64 i = true ∨ small64 j = true) : opR .mul (.int i) (.int j) = .ok (.int (i * j)) := by
  have : (small64 i || small64 j) = true := by simpa using h
  simp only [opR, this, Bool.false_eq_true, ↓reduceIte]
theorem op_add {i j : Int} : opR .add (.int i) (.int j) = .ok (.int (i + j)) := rfl
theorem op_sub {i j : Int} : opR .sub (.int i) (.int j) = .ok (.int (i - j)) := rfl
theorem op_pow18 : opR .pow (.int 10) (.int 18) = .ok (.int 1000000000000000000) := by simp [opR]
theorem small_of {i : Int} (h : -(2 ^ 64) < i) (h' : i < 2 ^ 64) : small64 i = true := by
  unfold small64
  rw [decide_eq_true h, decide_eq_true h']; rfl
theorem len_scr (ns : List Int) : b1R .len (.scr ns) = .ok (.int ns.length) := rfl
theorem small_log {j : Int} (h : 0 < j) (h2 : j < 2 ^ 64) : j.natAbs.log2 < 9000 := by
  have : j.natAbs ≠ 0 := by omega
  have h3 : j.natAbs < 2 ^ 64 := by omega
  have := (Nat.log2_lt this).mpr h3
  omega
theorem nonneg_len (ns : List Int) (h : ns ≠ []) : (0 : Int) < ns.length := by
  cases ns with
  | nil => exact absurd rfl h
  | cons => simp
theorem eq_scr (ns : List Int) : eqR (.scr ns) (.lst []) = .ok ns.isEmpty := by
  cases ns <;> rfl
/-- what the drawn numbers are -/
def Drw (φ : List D → R D) : Prop := ∀ (ns : List Int) (k many : Int), ns.length < 2 ^ 20 → 0 ≤ k → k < 2 ^ 40 → 0 < many → ∃ d : Int, φ [.scr ns, .int k, .int many] = .ok (.int d) ∧ 0 ≤ d ∧ d < many
theorem drw_k (n : Nat) : Drw (run TT (n + 1) 16) := by
  intro ns k many hn hk hk2 hm
  rw [runT (fd := fd16) rfl rfl rfl rfl]
  -- the end of the def
  have fin : ∀ (cell : Int) (s : Sl) (t u : Sl), ∃ d : Int, endR (exec (wT n) (.seq (.set 3 (.op .mod (.op .add (.op .mul (.op .mod (.v 3) (.k (.int 2147483563))) (.k (.int 69069))) (.op .mul (.k (.int 104723)) (.op .add (.v 1) (.k (.int 1))))) (.k (.int 2147483563)))) (.seq (.set 3 (.op .mod (.op .add (.op .mul (.v 3) (.v 3)) (.op .div (.v 3) (.k (.int 3)))) (.k (.int 2147483399)))) (.seq (.ret (.op .mod (.op .div (.op .mod (.op .add (.op .mul (.v 3) (.v 3)) (.op .div (.v 3) (.k (.int 7)))) (.k (.int 2147483647))) (.k (.int 11))) (.v 2))) (.pass)))) [s, .sh (.int k), .sh (.int many), .sh (.int cell), t, u]) = .ok (.int d) ∧ 0 ≤ d ∧ d < many := by
    intro cell s t u
    have e1 := Int.emod_nonneg cell (show (2147483563 : Int) ≠ 0 by decide)
    simp only [exec, ev, getS, setS, slD, bind_ok, out_ok, endR_nx, endR_rt, then_nx, then_rt]
    rw [op_mod (by decide), bind_ok, op_mul (.inr (by decide)), bind_ok, op_add, bind_ok, op_mul (.inl (by decide)), bind_ok, op_add, bind_ok, op_mod (by decide), out_ok, then_nx]
    generalize hx : (cell % 2147483563 * 69069 + 104723 * (k + 1)) % 2147483563 = x
    have hx1 : 0 ≤ x := by rw [← hx]; exact Int.emod_nonneg _ (by decide)
    have hx2 : x < 2147483563 := by rw [← hx]; exact Int.emod_lt_of_pos _ (by decide)
    simp only [exec, ev, getS, setS, slD, bind_ok, out_ok, endR_nx, endR_rt, then_nx, then_rt]
    rw [op_mul (.inl (small_of (by omega) (by omega))), bind_ok, op_div (by decide) (by decide), bind_ok, op_add, bind_ok, op_mod (by decide), out_ok, then_nx]
    generalize hy : (x * x + x / 3) % 2147483399 = y
    have hy1 : 0 ≤ y := by rw [← hy]; exact Int.emod_nonneg _ (by decide)
    have hy2 : y < 2147483399 := by rw [← hy]; exact Int.emod_lt_of_pos _ (by decide)
    simp only [exec, ev, getS, setS, slD, bind_ok, out_ok, endR_nx, endR_rt, then_nx, then_rt]
    rw [op_mul (.inl (small_of (by omega) (by omega))), bind_ok, op_div (by decide) (by decide), bind_ok, op_add, bind_ok, op_mod (by decide), bind_ok, op_div (by decide) (by decide), bind_ok, op_mod hm, out_ok, then_rt]
    exact ⟨_, rfl, Int.emod_nonneg _ (by omega), Int.emod_lt_of_pos _ hm⟩
  show ∃ d : Int, endR (exec (wT n) c16 [.sh (.scr ns), .sh (.int k), .sh (.int many), .no, .no, .no]) = .ok (.int d) ∧ _
  unfold c16
  rw [exec, exec]
  simp only [ev, getS, setS, slD, bind_ok, out_ok, then_nx]
  rw [op_mul (.inl (by decide)), out_ok, then_nx]
  rw [exec, exec]
  simp only [ev, getS, setS, slD, bind_ok, mkL, lstR, cmR, List.length_nil, Nat.zero_le, Bool.false_eq_true, ↓reduceIte, eq_scr, neg]
  by_cases hs : ns = []
  · subst hs
    simp only [List.isEmpty_nil, bind_ok, Bool.not_true, blR, out_ok, Bool.false_eq_true, ↓reduceIte]
    exact fin _ _ _ _
  · have hl := nonneg_len ns hs
    have hl2 : (ns.length : Int) < 2 ^ 64 := by omega
    have e : ns.isEmpty = false := by cases ns <;> simp_all
    simp only [e, bind_ok, Bool.not_false, blR, out_ok, Bool.false_eq_true, ↓reduceIte]
    rw [exec, exec]
    simp only [ev, getS, setS, slD, bind_ok, len_scr]
    rw [op_mod hl, bind_ok]
    have hi1 := Int.emod_nonneg k (show (ns.length : Int) ≠ 0 by omega)
    have hi2 := Int.emod_lt_of_pos k hl
    obtain ⟨cell, hc⟩ : ∃ c, atI ns (k % ns.length) = some c := by
      unfold atI ixN
      rw [if_pos hi1, if_pos (by omega)]
      exact ⟨ns[(k % ns.length).toNat]'(by omega), by simp⟩
    simp only [ixR, hc, out_ok, then_nx, setS]
    rw [exec, exec]
    simp only [ev, getS, setS, slD, bind_ok, len_scr]
    rw [op_div hl (small_log hl hl2), out_ok, then_nx]
    have hd1 : 0 ≤ k / (ns.length : Int) := Int.ediv_nonneg hk (by omega)
    have hd2 : k / (ns.length : Int) ≤ k := Int.ediv_le_self _ hk
    generalize k / (ns.length : Int) = q at hd1 hd2
    rw [exec]
    have tail : ∀ (t u : Sl), ∃ d : Int, endR ((exec (wT n) (.seq (.set 3 (.op .add (.v 3) (.op .mul (.k (.int 6553)) (.op .div (.v 1) (.b1 .len (.v 0)))))) (.pass)) [.sh (.scr ns), .sh (.int k), .sh (.int many), .sh (.int cell), t, u]).andThen (exec (wT n) (.seq (.set 3 (.op .mod (.op .add (.op .mul (.op .mod (.v 3) (.k (.int 2147483563))) (.k (.int 69069))) (.op .mul (.k (.int 104723)) (.op .add (.v 1) (.k (.int 1))))) (.k (.int 2147483563)))) (.seq (.set 3 (.op .mod (.op .add (.op .mul (.v 3) (.v 3)) (.op .div (.v 3) (.k (.int 3)))) (.k (.int 2147483399)))) (.seq (.ret (.op .mod (.op .div (.op .mod (.op .add (.op .mul (.v 3) (.v 3)) (.op .div (.v 3) (.k (.int 7)))) (.k (.int 2147483647))) (.k (.int 11))) (.v 2))) (.pass)))))) = .ok (.int d) ∧ 0 ≤ d ∧ d < many := by
      intro t u
      rw [exec, exec]
      simp only [ev, getS, setS, slD, bind_ok, len_scr]
      rw [op_div hl (small_log hl hl2), bind_ok, op_mul (.inl (by decide)), bind_ok, op_add, out_ok, then_nx, exec, then_nx]
      exact fin _ _ _ _
    rw [exec]
    simp only [ev, getS, setS, slD, bind_ok, op_pow18, cmR, geR, ltR, D.lt, atLt, R.ofO, blR]
    by_cases h1 : (1000000000000000000 : Int) ≤ cell
    · simp only [decide_eq_true h1, Bool.false_eq_true, ↓reduceIte, bind_ok, blR]
      by_cases h2 : q < 60
      · simp only [decide_eq_true h2, out_ok, Bool.false_eq_true, ↓reduceIte]
        rw [exec, exec]
        simp only [ev, getS, setS, slD, bind_ok, op_pow18]
        rw [op_div (by decide) (by decide), out_ok, then_nx]
        have hr : 0 ≤ cell / 1000000000000000000 := Int.ediv_nonneg (by omega) (by decide)
        generalize cell / 1000000000000000000 = r0 at hr
        rw [exec, exec]
        obtain ⟨ρ', e1, q', r', e2, hr'⟩ := whR_all (c := fun ρ => (ev (wT n).toCl (.and (.cm .gt (.v 5) (.k (.int 0))) (.cm .gt (.v 4) (.k (.int 0)))) ρ).bind blR) (b := exec (wT n) b16_1) (m := q.toNat) (ρ := [.sh (.scr ns), .sh (.int k), .sh (.int many), .sh (.int cell), .sh (.int q), .sh (.int r0)])
          (fun m ρ => ∃ q' r' : Int, ρ = [.sh (.scr ns), .sh (.int k), .sh (.int many), .sh (.int cell), .sh (.int q'), .sh (.int r')] ∧ 0 ≤ q' ∧ q'.toNat = m ∧ 0 ≤ r') (fun ρ => ∃ q' r' : Int, ρ = [.sh (.scr ns), .sh (.int k), .sh (.int many), .sh (.int cell), .sh (.int q'), .sh (.int r')] ∧ 0 ≤ r') (by unfold TURNS; omega) ⟨q, r0, rfl, hd1, rfl, hr⟩ (by
            rintro m ρ ⟨q', r', rfl, g1, g2, g3⟩
            simp only [ev, getS, setS, slD, bind_ok, cmR, gtR, blR]
            by_cases z1 : (0 : Int) < r'
            · by_cases z2 : (0 : Int) < q'
              · right
                simp only [decide_eq_true z1, decide_eq_true z2, Bool.false_eq_true, ↓reduceIte, bind_ok, blR]
                refine ⟨trivial, _, (q' - 1).toNat, by omega, ?_, q' - 1, r' / 1000000, rfl, by omega, rfl, Int.ediv_nonneg g3 (by decide)⟩
                unfold b16_1
                rw [exec, exec]
                simp only [ev, getS, setS, slD, bind_ok]
                rw [op_div (by decide) (by decide), out_ok, then_nx]
                rfl
              · left
                simp only [decide_eq_true z1, decide_eq_false z2, Bool.false_eq_true, ↓reduceIte, bind_ok, blR]
                exact ⟨trivial, q', r', rfl, g3⟩
            · left
              simp only [decide_eq_false z1, Bool.false_eq_true, ↓reduceIte, bind_ok, blR]
              exact ⟨trivial, q', r', rfl, g3⟩)
        simp only [setS]
        erw [e1]
        rw [then_nx, e2, exec, exec]
        simp only [ev, getS, setS, slD, bind_ok, cmR, gtR, blR]
        by_cases z1 : (0 : Int) < r'
        · simp only [decide_eq_true z1, out_ok, Bool.false_eq_true, ↓reduceIte]
          rw [exec, exec]
          simp only [ev, getS, setS, slD, bind_ok]
          rw [op_mod (by decide), bind_ok, op_mod hm, out_ok, then_rt, then_rt, then_rt, then_rt]
          exact ⟨_, rfl, Int.emod_nonneg _ (by omega), Int.emod_lt_of_pos _ hm⟩
        · simp only [decide_eq_false z1, Bool.false_eq_true, ↓reduceIte, out_ok]
          rw [exec, then_nx, exec, then_nx]
          exact tail _ _
      · simp only [decide_eq_false h2, Bool.false_eq_true, ↓reduceIte, out_ok]
        rw [exec, then_nx]
        exact tail _ _
    · simp only [decide_eq_false h1, Bool.false_eq_true, ↓reduceIte, bind_ok, blR, out_ok]
      rw [exec, then_nx]
      exact tail _ _
end Mip

set_option linter.all false
set_option maxRecDepth 100000
/-! plain 3: names, menus, assignments -/
namespace Mip
open Mi
theorem mem_nub {α : Type} [DecidableEq α] {x : α} : ∀ {l : List α}, x ∈ nub l ↔ x ∈ l
  | [] => Iff.rfl
  | y :: r => by
    unfold nub
    split
    · rename_i h
      rw [mem_nub]
      constructor
      · exact List.mem_cons_of_mem _
      · intro z
        rcases List.mem_cons.mp z with rfl | z
        · exact mem_nub.mp h
        · exact z
    · rw [List.mem_cons, List.mem_cons, mem_nub]
theorem nub_nodup {α : Type} [DecidableEq α] : ∀ l : List α, (nub l).Nodup
  | [] => List.nodup_nil
  | y :: r => by
    unfold nub
    split
    · exact nub_nodup r
    · rename_i h
      exact List.nodup_cons.mpr ⟨h, nub_nodup r⟩
theorem nub_le {α : Type} [DecidableEq α] : ∀ l : List α, (nub l).length ≤ l.length
  | [] => Nat.le_refl _
  | y :: r => by
    have := nub_le r
    unfold nub
    split
    · rw [List.length_cons]; omega
    · rw [List.length_cons, List.length_cons]; omega
theorem nub_of {α : Type} [DecidableEq α] : ∀ {l : List α}, l.Nodup → nub l = l
  | [], _ => rfl
  | y :: r, h => by
    rw [List.nodup_cons] at h
    unfold nub
    rw [nub_of h.2, if_neg h.1]
theorem nub_len {α : Type} [DecidableEq α] : ∀ {l : List α}, (nub l).length = l.length ↔ l.Nodup
  | [] => by simp [nub]
  | y :: r => by
    rw [List.nodup_cons]
    have := nub_le r
    unfold nub
    split
    · rename_i h
      rw [mem_nub] at h
      constructor
      · intro e; rw [List.length_cons] at e; omega
      · intro e; exact absurd h e.1
    · rename_i h
      rw [mem_nub] at h
      rw [List.length_cons, List.length_cons, Nat.add_right_cancel_iff, nub_len]
      exact ⟨fun e => ⟨h, e⟩, fun e => e.2⟩
theorem nub_map {α β : Type} [DecidableEq α] [DecidableEq β] {f : α → β} (hf : ∀ x y, f x = f y → x = y) : ∀ l : List α, nub (l.map f) = (nub l).map f
  | [] => rfl
  | y :: r => by
    rw [List.map_cons]
    unfold nub
    rw [nub_map hf r]
    by_cases h : y ∈ nub r
    · rw [if_pos h, if_pos (List.mem_map_of_mem h)]
    · rw [if_neg h, if_neg, List.map_cons]
      intro z
      obtain ⟨u, hu, e⟩ := List.mem_map.mp z
      rw [hf _ _ e] at hu
      exact h hu
def az : List Nat := [97, 98, 99, 100, 101, 102, 103, 104, 105, 106, 107, 108, 109, 110, 111, 112, 113, 114, 115, 116, 117, 118, 119, 120, 121, 122]
def isLet : D → Bool
  | .str [c] => decide (c ∈ az)
  | _ => false
def isNm (x : List Nat) : Bool := decide (1 ≤ x.length) && decide (x.length ≤ 8) && x.all fun c => decide (c ∈ az)
def isNmD : D → Bool
  | .str x => isNm x
  | _ => false
def isMn (M : List (List Nat)) : Bool := decide (M.length ≤ 8) && M.all isNm && decide M.Nodup
def isMnD : D → Bool
  | .tup xs => match strsD xs with
    | some M => isMn M
    | none => false
  | _ => false
abbrev Dat (d : D) : Prop := d.dat 30 = true
theorem dat_mono : ∀ (n m : Nat) (d : D), n ≤ m → d.dat n = true → d.dat m = true
  | _, _, .non, _, _ => by simp [D.dat]
  | _, _, .bl _, _, _ => by simp [D.dat]
  | _, _, .int _, _, _ => by simp [D.dat]
  | _, _, .str _, _, _ => by simp [D.dat]
  | 0, _, .lst _, _, h => by simp [D.dat] at h
  | 0, _, .tup _, _, h => by simp [D.dat] at h
  | n + 1, 0, .lst _, h, _ => by omega
  | n + 1, 0, .tup _, h, _ => by omega
  | n + 1, m + 1, .lst xs, h, h2 => by
    simp only [D.dat, List.all_eq_true] at h2 ⊢
    exact fun x hx => dat_mono n m x (by omega) (h2 x hx)
  | n + 1, m + 1, .tup xs, h, h2 => by
    simp only [D.dat, List.all_eq_true] at h2 ⊢
    exact fun x hx => dat_mono n m x (by omega) (h2 x hx)
  | 0, _, .dic _ _, _, h => by simp [D.dat] at h
  | _ + 1, _, .dic _ _, _, h => by simp [D.dat] at h
  | 0, _, .scr _, _, h => by simp [D.dat] at h
  | _ + 1, _, .scr _, _, h => by simp [D.dat] at h
theorem dat_tup {xs : List D} (h : Dat (.tup xs)) : ∀ x ∈ xs, Dat x := fun x hx => by
  simp only [Dat, D.dat, List.all_eq_true] at h
  exact dat_mono 29 30 x (by decide) (h x hx)
theorem dat_lst {xs : List D} (h : Dat (.lst xs)) : ∀ x ∈ xs, Dat x := fun x hx => by
  simp only [Dat, D.dat, List.all_eq_true] at h
  exact dat_mono 29 30 x (by decide) (h x hx)
theorem dat_str (x : List Nat) : Dat (.str x) := by simp [Dat, D.dat]
theorem dat_of {n : Nat} {d : D} (h : d.dat n = true) (hn : n ≤ 30) : Dat d := dat_mono n 30 d hn h
/-! ### operators by their operands -/
theorem i_len_str (x : List Nat) : b1R .len (.str x) = .ok (.int x.length) := opq rfl
theorem i_len_lst (x : List D) : b1R .len (.lst x) = .ok (.int x.length) := opq rfl
theorem i_len_tup (x : List D) : b1R .len (.tup x) = .ok (.int x.length) := opq rfl
def isStrB : D → Bool
  | .str _ => true
  | _ => false
def isTupB : D → Bool
  | .tup _ => true
  | _ => false
def isLstB : D → Bool
  | .lst _ => true
  | _ => false
theorem i_isStr {d : D} (h : Dat d) : b1R .isStr d = .ok (.bl (isStrB d)) := by
  cases d <;> first | rfl | simp [Dat, D.dat] at h
theorem i_isTup {d : D} (h : Dat d) : b1R .isTuple d = .ok (.bl (isTupB d)) := by
  cases d <;> first | rfl | simp [Dat, D.dat] at h
theorem i_isLst {d : D} (h : Dat d) : b1R .isList d = .ok (.bl (isLstB d)) := by
  cases d <;> first | rfl | simp [Dat, D.dat] at h
theorem i_eqI (i j : Int) : cmR .eq (.int i) (.int j) = .ok (decide (i = j)) := by
  simp only [cmR, eqR, D.dat, D.eqv, Bool.and_self, ↓reduceIte]
  rfl
theorem i_neI (i j : Int) : cmR .ne (.int i) (.int j) = .ok (!decide (i = j)) := by
  show neg (cmR .eq (.int i) (.int j)) = _
  rw [i_eqI]; rfl
theorem i_ltI (i j : Int) : cmR .lt (.int i) (.int j) = .ok (decide (i < j)) := opq rfl
theorem i_leI (i j : Int) : cmR .le (.int i) (.int j) = .ok (decide (i ≤ j)) := opq rfl
theorem i_gtI (i j : Int) : cmR .gt (.int i) (.int j) = .ok (decide (j < i)) := opq rfl
theorem i_geI (i j : Int) : cmR .ge (.int i) (.int j) = .ok (decide (j ≤ i)) := opq rfl
theorem i_isN (x : D) : cmR .is x .non = .ok (isND x) := by cases x <;> rfl
theorem i_nisN (x : D) : cmR .nis x .non = .ok (!isND x) := by
  show neg (cmR .is x .non) = _
  rw [i_isN]; rfl
theorem i_isB (c b : Bool) : cmR .is (.bl c) (.bl b) = .ok (c == b) := opq rfl
theorem i_nisB (c b : Bool) : cmR .nis (.bl c) (.bl b) = .ok (!(c == b)) := opq rfl
theorem i_eq {x y : D} (hx : Dat x) (hy : Dat y) : cmR .eq x y = .ok (D.eqv x y) := by
  have e : cmR .eq x y = eqR x y := rfl
  rw [e]
  have : (if x.dat 30 && y.dat 30 then (R.ok (D.eqv x y)) else .no) = .ok (D.eqv x y) := by rw [hx, hy]; rfl
  cases x <;> first | exact this | simp [Dat, D.dat] at hx
theorem i_ne {x y : D} (hx : Dat x) (hy : Dat y) : cmR .ne x y = .ok (!D.eqv x y) := by
  show neg (cmR .eq x y) = _
  rw [i_eq hx hy]; rfl
theorem i_inS (c : Nat) (y : List Nat) : cmR .inn (.str [c]) (.str y) = .ok (decide (c ∈ y)) := opq rfl
theorem i_ninS (c : Nat) (y : List Nat) : cmR .nin (.str [c]) (.str y) = .ok (!decide (c ∈ y)) := opq rfl
theorem i_itS (x : List Nat) : itemsR (.str x) = .ok (x.map fun c => .str [c]) := opq rfl
theorem i_itT (x : List D) : itemsR (.tup x) = .ok x := opq rfl
theorem i_itL (x : List D) : itemsR (.lst x) = .ok x := opq rfl
theorem wT_f (n : Nat) : (wT n).toCl.f = run TT n := opq rfl
theorem r_is_letter (n : Nat) (d : D) (h : Dat d) : run TT (n + 1) 0 [d] = .ok (.bl (isLet d)) := by
  rw [runT (fd := fd0) rfl rfl rfl rfl]
  show endR (exec (wT n) c0 [.sh d]) = _
  simp only [c0, exec, e_k, e_v, e_o, e_nil, e_cons, e_tup, e_lst, e_dct, e_op, e_neg, e_not, e_cm, e_ch, e_and, e_or, e_ife, e_ix, e_sl, e_rev, e_b1, e_b2, e_b3, e_call, e_pick, e_isx, e_it, e_rg1, e_rg2, e_enum, e_zip, e_zips, e_items, e_lc, e_lc2, e_dc, e_dc2, g_0, g_s, s_0, s_s, sl_sh, so_l, so_d, k_ok, k_rz, out_ok, out_rz, endR_nx, endR_rt, endR_rz, then_nx, then_rt, then_rz, then_bk, b_bl, l_lst, t_one, t_two, w_one, w_two, two_tup, Bool.false_eq_true, ↓reduceIte, i_isStr h]
  cases d with
  | str x =>
    simp only [isStrB, e_k, e_v, e_o, e_nil, e_cons, e_tup, e_lst, e_dct, e_op, e_neg, e_not, e_cm, e_ch, e_and, e_or, e_ife, e_ix, e_sl, e_rev, e_b1, e_b2, e_b3, e_call, e_pick, e_isx, e_it, e_rg1, e_rg2, e_enum, e_zip, e_zips, e_items, e_lc, e_lc2, e_dc, e_dc2, g_0, g_s, s_0, s_s, sl_sh, so_l, so_d, k_ok, k_rz, out_ok, out_rz, endR_nx, endR_rt, endR_rz, then_nx, then_rt, then_rz, then_bk, b_bl, l_lst, t_one, t_two, w_one, w_two, two_tup, Bool.false_eq_true, ↓reduceIte, i_len_str, i_eqI]
    match x with
    | [] => rfl
    | [c] => rfl
    | c :: d :: r =>
      have : ¬ ((r.length : Int) + 1 + 1 = 1) := by omega
      simp [this, e_k, e_v, e_o, e_nil, e_cons, e_tup, e_lst, e_dct, e_op, e_neg, e_not, e_cm, e_ch, e_and, e_or, e_ife, e_ix, e_sl, e_rev, e_b1, e_b2, e_b3, e_call, e_pick, e_isx, e_it, e_rg1, e_rg2, e_enum, e_zip, e_zips, e_items, e_lc, e_lc2, e_dc, e_dc2, g_0, g_s, s_0, s_s, sl_sh, so_l, so_d, k_ok, k_rz, out_ok, out_rz, endR_nx, endR_rt, endR_rz, then_nx, then_rt, then_rz, then_bk, b_bl, l_lst, t_one, t_two, w_one, w_two, two_tup, Bool.false_eq_true, ↓reduceIte, isLet]
  | _ => rfl
theorem r_is_name (n : Nat) (d : D) (h : Dat d) : run TT (n + 1) 1 [d] = .ok (.bl (isNmD d)) := by
  rw [runT (fd := fd1) rfl rfl rfl rfl]
  show endR (exec (wT n) c1 [.sh d, .no]) = _
  simp only [c1, exec, e_k, e_v, e_o, e_nil, e_cons, e_tup, e_lst, e_dct, e_op, e_neg, e_not, e_cm, e_ch, e_and, e_or, e_ife, e_ix, e_sl, e_rev, e_b1, e_b2, e_b3, e_call, e_pick, e_isx, e_it, e_rg1, e_rg2, e_enum, e_zip, e_zips, e_items, e_lc, e_lc2, e_dc, e_dc2, g_0, g_s, s_0, s_s, sl_sh, so_l, so_d, k_ok, k_rz, out_ok, out_rz, endR_nx, endR_rt, endR_rz, then_nx, then_rt, then_rz, then_bk, b_bl, l_lst, t_one, t_two, w_one, w_two, two_tup, Bool.false_eq_true, ↓reduceIte, i_isStr h]
  cases d with
  | str x =>
    simp only [isStrB, e_k, e_v, e_o, e_nil, e_cons, e_tup, e_lst, e_dct, e_op, e_neg, e_not, e_cm, e_ch, e_and, e_or, e_ife, e_ix, e_sl, e_rev, e_b1, e_b2, e_b3, e_call, e_pick, e_isx, e_it, e_rg1, e_rg2, e_enum, e_zip, e_zips, e_items, e_lc, e_lc2, e_dc, e_dc2, g_0, g_s, s_0, s_s, sl_sh, so_l, so_d, k_ok, k_rz, out_ok, out_rz, endR_nx, endR_rt, endR_rz, then_nx, then_rt, then_rz, then_bk, b_bl, l_lst, t_one, t_two, w_one, w_two, two_tup, Bool.false_eq_true, ↓reduceIte, i_len_str, i_leI, i_itS]
    by_cases h1 : 1 ≤ (x.length : Int)
    · by_cases h2 : (x.length : Int) ≤ 8
      · simp only [h1, h2, decide_true, e_k, e_v, e_o, e_nil, e_cons, e_tup, e_lst, e_dct, e_op, e_neg, e_not, e_cm, e_ch, e_and, e_or, e_ife, e_ix, e_sl, e_rev, e_b1, e_b2, e_b3, e_call, e_pick, e_isx, e_it, e_rg1, e_rg2, e_enum, e_zip, e_zips, e_items, e_lc, e_lc2, e_dc, e_dc2, g_0, g_s, s_0, s_s, sl_sh, so_l, so_d, k_ok, k_rz, out_ok, out_rz, endR_nx, endR_rt, endR_rz, then_nx, then_rt, then_rz, then_bk, b_bl, l_lst, t_one, t_two, w_one, w_two, two_tup, Bool.false_eq_true, ↓reduceIte]
        rw [lcR_all (e := fun c => D.str [c]) (g := fun c => .bl (decide (c ∈ az))) (fun c _ => rfl)]
        simp only [calm_ok, bind_ok, all_map, e_k, e_v, e_o, e_nil, e_cons, e_tup, e_lst, e_dct, e_op, e_neg, e_not, e_cm, e_ch, e_and, e_or, e_ife, e_ix, e_sl, e_rev, e_b1, e_b2, e_b3, e_call, e_pick, e_isx, e_it, e_rg1, e_rg2, e_enum, e_zip, e_zips, e_items, e_lc, e_lc2, e_dc, e_dc2, g_0, g_s, s_0, s_s, sl_sh, so_l, so_d, k_ok, k_rz, out_ok, out_rz, endR_nx, endR_rt, endR_rz, then_nx, then_rt, then_rz, then_bk, b_bl, l_lst, t_one, t_two, w_one, w_two, two_tup, Bool.false_eq_true, ↓reduceIte, isNmD, isNm]
        have a1 : 1 ≤ x.length := by omega
        have a2 : x.length ≤ 8 := by omega
        simp [a1, a2]
      · simp only [h1, h2, decide_true, decide_false, e_k, e_v, e_o, e_nil, e_cons, e_tup, e_lst, e_dct, e_op, e_neg, e_not, e_cm, e_ch, e_and, e_or, e_ife, e_ix, e_sl, e_rev, e_b1, e_b2, e_b3, e_call, e_pick, e_isx, e_it, e_rg1, e_rg2, e_enum, e_zip, e_zips, e_items, e_lc, e_lc2, e_dc, e_dc2, g_0, g_s, s_0, s_s, sl_sh, so_l, so_d, k_ok, k_rz, out_ok, out_rz, endR_nx, endR_rt, endR_rz, then_nx, then_rt, then_rz, then_bk, b_bl, l_lst, t_one, t_two, w_one, w_two, two_tup, Bool.false_eq_true, ↓reduceIte]
        have : ¬ x.length ≤ 8 := by omega
        simp [isNmD, isNm, this]
    · simp only [h1, decide_false, e_k, e_v, e_o, e_nil, e_cons, e_tup, e_lst, e_dct, e_op, e_neg, e_not, e_cm, e_ch, e_and, e_or, e_ife, e_ix, e_sl, e_rev, e_b1, e_b2, e_b3, e_call, e_pick, e_isx, e_it, e_rg1, e_rg2, e_enum, e_zip, e_zips, e_items, e_lc, e_lc2, e_dc, e_dc2, g_0, g_s, s_0, s_s, sl_sh, so_l, so_d, k_ok, k_rz, out_ok, out_rz, endR_nx, endR_rt, endR_rz, then_nx, then_rt, then_rz, then_bk, b_bl, l_lst, t_one, t_two, w_one, w_two, two_tup, Bool.false_eq_true, ↓reduceIte]
      have : ¬ 1 ≤ x.length := by omega
      simp [isNmD, isNm, this]
  | _ => rfl
end Mip

set_option linter.all false
set_option maxRecDepth 100000
/-! plain 4: menus, assignments -/
namespace Mip
open Mi
theorem scans_str : ∀ M : List (List Nat), scans (M.map .str) = some (M.map fun x => some (.inr x))
  | [] => rfl
  | x :: r => by rw [List.map_cons, scans, scans_str r]; rfl
theorem lset_tup {M : List (List Nat)} (h : M.length < 4000) : b1R .lset (.tup (M.map .str)) = .ok (.int (nub M).length) := by
  have e : b1R .lset (.tup (M.map .str)) = if (M.map D.str).length < 4000 then (match scans (M.map D.str) with
      | some ks => .ok (.int (nub ks).length)
      | none => .no) else .no := rfl
  rw [e, List.length_map, if_pos h, scans_str]
  show R.ok (D.int ((nub (M.map fun x => (some (.inr x) : Option At))).length : Nat)) = _
  rw [nub_map (by intro x y h; cases h; rfl), List.length_map]
theorem lset_lst {M : List (List Nat)} (h : M.length < 4000) : b1R .lset (.lst (M.map .str)) = .ok (.int (nub M).length) := lset_tup h
theorem strsD_mk : ∀ M : List (List Nat), strsD (M.map .str) = some M
  | [] => rfl
  | x :: r => by rw [List.map_cons, strsD, strsD_mk r]; rfl
theorem strsD_is : ∀ {xs : List D} {M : List (List Nat)}, strsD xs = some M → xs = M.map .str
  | [], M, h => by cases h; rfl
  | x :: r, M, h => by
    cases x <;> first | (cases h; done) | skip
    obtain ⟨a, h1, h2⟩ := Option.map_eq_some_iff.mp h
    rw [← h2, strsD_is h1]; rfl
theorem names_str : ∀ {xs : List D}, xs.all isNmD = true → ∃ M : List (List Nat), xs = M.map .str ∧ M.all isNm = true
  | [], _ => ⟨[], rfl, rfl⟩
  | x :: r, h => by
    simp only [List.all_cons, Bool.and_eq_true] at h
    obtain ⟨M, e, hM⟩ := names_str h.2
    cases x <;> first | (have := h.1; simp [isNmD] at this; done) | skip
    rename_i y
    exact ⟨y :: M, by rw [e]; rfl, by simp only [List.all_cons, Bool.and_eq_true]; exact ⟨h.1, hM⟩⟩
theorem all_isNmD (M : List (List Nat)) : (M.map D.str).all isNmD = M.all isNm := by
  rw [List.all_map]; rfl
theorem isMnD_tup {xs : List D} : isMnD (.tup xs) = (decide (xs.length ≤ 8) && xs.all isNmD && (match strsD xs with
  | some M => decide M.Nodup
  | none => false)) := by
  unfold isMnD
  cases h : strsD xs with
  | none => simp [h]
  | some M =>
    have := strsD_is h
    subst this
    simp only [isMn, List.length_map, all_isNmD, h]
theorem r_is_menu (n : Nat) (d : D) (h : Dat d) : run TT (n + 2) 2 [d] = .ok (.bl (isMnD d)) := by
  rw [runT (fd := fd2) rfl rfl rfl rfl]
  show endR (exec (wT (n + 1)) c2 [.sh d, .no]) = _
  simp only [c2, exec, e_k, e_v, e_o, e_nil, e_cons, e_tup, e_lst, e_dct, e_op, e_neg, e_not, e_cm, e_ch, e_and, e_or, e_ife, e_ix, e_sl, e_rev, e_b1, e_b2, e_b3, e_call, e_pick, e_isx, e_it, e_rg1, e_rg2, e_enum, e_zip, e_zips, e_items, e_lc, e_lc2, e_dc, e_dc2, g_0, g_s, s_0, s_s, sl_sh, so_l, so_d, k_ok, k_rz, out_ok, out_rz, endR_nx, endR_rt, endR_rz, then_nx, then_rt, then_rz, then_bk, b_bl, l_lst, t_one, t_two, w_one, w_two, two_tup, Bool.false_eq_true, ↓reduceIte, i_isTup h]
  cases d with
  | tup xs =>
    have hx := dat_tup h
    simp only [isTupB, Bool.not_true, e_k, e_v, e_o, e_nil, e_cons, e_tup, e_lst, e_dct, e_op, e_neg, e_not, e_cm, e_ch, e_and, e_or, e_ife, e_ix, e_sl, e_rev, e_b1, e_b2, e_b3, e_call, e_pick, e_isx, e_it, e_rg1, e_rg2, e_enum, e_zip, e_zips, e_items, e_lc, e_lc2, e_dc, e_dc2, g_0, g_s, s_0, s_s, sl_sh, so_l, so_d, k_ok, k_rz, out_ok, out_rz, endR_nx, endR_rt, endR_rz, then_nx, then_rt, then_rz, then_bk, b_bl, l_lst, t_one, t_two, w_one, w_two, two_tup, Bool.false_eq_true, ↓reduceIte, i_len_tup, i_gtI, i_itT]
    by_cases h1 : (8 : Int) < xs.length
    · simp only [decide_eq_true h1, e_k, e_v, e_o, e_nil, e_cons, e_tup, e_lst, e_dct, e_op, e_neg, e_not, e_cm, e_ch, e_and, e_or, e_ife, e_ix, e_sl, e_rev, e_b1, e_b2, e_b3, e_call, e_pick, e_isx, e_it, e_rg1, e_rg2, e_enum, e_zip, e_zips, e_items, e_lc, e_lc2, e_dc, e_dc2, g_0, g_s, s_0, s_s, sl_sh, so_l, so_d, k_ok, k_rz, out_ok, out_rz, endR_nx, endR_rt, endR_rz, then_nx, then_rt, then_rz, then_bk, b_bl, l_lst, t_one, t_two, w_one, w_two, two_tup, Bool.false_eq_true, ↓reduceIte]
      have : ¬ xs.length ≤ 8 := by omega
      rw [isMnD_tup]
      simp [this]
    · have h1' : xs.length ≤ 8 := by omega
      simp only [decide_eq_false h1, e_k, e_v, e_o, e_nil, e_cons, e_tup, e_lst, e_dct, e_op, e_neg, e_not, e_cm, e_ch, e_and, e_or, e_ife, e_ix, e_sl, e_rev, e_b1, e_b2, e_b3, e_call, e_pick, e_isx, e_it, e_rg1, e_rg2, e_enum, e_zip, e_zips, e_items, e_lc, e_lc2, e_dc, e_dc2, g_0, g_s, s_0, s_s, sl_sh, so_l, so_d, k_ok, k_rz, out_ok, out_rz, endR_nx, endR_rt, endR_rz, then_nx, then_rt, then_rz, then_bk, b_bl, l_lst, t_one, t_two, w_one, w_two, two_tup, Bool.false_eq_true, ↓reduceIte]
      simp only [x_pass, x_seq, x_set, x_ex, x_ret, x_ife, x_fr, x_wh, x_brk, x_rz, e_k, e_v, e_o, e_nil, e_cons, e_tup, e_lst, e_dct, e_op, e_neg, e_not, e_cm, e_ch, e_and, e_or, e_ife, e_ix, e_sl, e_rev, e_b1, e_b2, e_b3, e_call, e_pick, e_isx, e_it, e_rg1, e_rg2, e_enum, e_zip, e_zips, e_items, e_lc, e_lc2, e_dc, e_dc2, g_0, g_s, s_0, s_s, sl_sh, so_l, so_d, k_ok, k_rz, out_ok, out_rz, endR_nx, endR_rt, endR_rz, then_nx, then_rt, then_rz, then_bk, b_bl, l_lst, t_one, t_two, w_one, w_two, two_tup, Bool.false_eq_true, ↓reduceIte, wT_f, i_len_str, i_len_lst, i_len_tup, i_eqI, i_neI, i_ltI, i_leI, i_gtI, i_geI, i_isN, i_nisN, i_isB, i_nisB, i_inS, i_ninS, i_itS, i_itT, i_itL, isND_non, isND_str, isND_tup, isND_lst, isND_int, isND_bl, calm_ok, all_map, any_map, op_add, op_sub, n_ok, Bool.not_true, Bool.not_false, decide_true, decide_false]
      rw [lcR_allI (g := fun x => .bl (isNmD x)) fun x hm => by rw [r_is_name n _ (hx x hm)]; rfl]
      simp only [calm_ok, bind_ok, all_map, e_k, e_v, e_o, e_nil, e_cons, e_tup, e_lst, e_dct, e_op, e_neg, e_not, e_cm, e_ch, e_and, e_or, e_ife, e_ix, e_sl, e_rev, e_b1, e_b2, e_b3, e_call, e_pick, e_isx, e_it, e_rg1, e_rg2, e_enum, e_zip, e_zips, e_items, e_lc, e_lc2, e_dc, e_dc2, g_0, g_s, s_0, s_s, sl_sh, so_l, so_d, k_ok, k_rz, out_ok, out_rz, endR_nx, endR_rt, endR_rz, then_nx, then_rt, then_rz, then_bk, b_bl, l_lst, t_one, t_two, w_one, w_two, two_tup, Bool.false_eq_true, ↓reduceIte]
      cases h2 : xs.all isNmD with
      | false =>
        simp only [Bool.not_false, e_k, e_v, e_o, e_nil, e_cons, e_tup, e_lst, e_dct, e_op, e_neg, e_not, e_cm, e_ch, e_and, e_or, e_ife, e_ix, e_sl, e_rev, e_b1, e_b2, e_b3, e_call, e_pick, e_isx, e_it, e_rg1, e_rg2, e_enum, e_zip, e_zips, e_items, e_lc, e_lc2, e_dc, e_dc2, g_0, g_s, s_0, s_s, sl_sh, so_l, so_d, k_ok, k_rz, out_ok, out_rz, endR_nx, endR_rt, endR_rz, then_nx, then_rt, then_rz, then_bk, b_bl, l_lst, t_one, t_two, w_one, w_two, two_tup, Bool.false_eq_true, ↓reduceIte]
        rw [isMnD_tup, h2]
        simp
      | true =>
        simp only [Bool.not_true, e_k, e_v, e_o, e_nil, e_cons, e_tup, e_lst, e_dct, e_op, e_neg, e_not, e_cm, e_ch, e_and, e_or, e_ife, e_ix, e_sl, e_rev, e_b1, e_b2, e_b3, e_call, e_pick, e_isx, e_it, e_rg1, e_rg2, e_enum, e_zip, e_zips, e_items, e_lc, e_lc2, e_dc, e_dc2, g_0, g_s, s_0, s_s, sl_sh, so_l, so_d, k_ok, k_rz, out_ok, out_rz, endR_nx, endR_rt, endR_rz, then_nx, then_rt, then_rz, then_bk, b_bl, l_lst, t_one, t_two, w_one, w_two, two_tup, Bool.false_eq_true, ↓reduceIte]
        obtain ⟨M, e2, hM⟩ := names_str h2
        subst e2
        rw [List.length_map] at h1'
        rw [lset_tup (by omega)]
        simp only [x_pass, x_seq, x_set, x_ex, x_ret, x_ife, x_fr, x_wh, x_brk, x_rz, e_k, e_v, e_o, e_nil, e_cons, e_tup, e_lst, e_dct, e_op, e_neg, e_not, e_cm, e_ch, e_and, e_or, e_ife, e_ix, e_sl, e_rev, e_b1, e_b2, e_b3, e_call, e_pick, e_isx, e_it, e_rg1, e_rg2, e_enum, e_zip, e_zips, e_items, e_lc, e_lc2, e_dc, e_dc2, g_0, g_s, s_0, s_s, sl_sh, so_l, so_d, k_ok, k_rz, out_ok, out_rz, endR_nx, endR_rt, endR_rz, then_nx, then_rt, then_rz, then_bk, b_bl, l_lst, t_one, t_two, w_one, w_two, two_tup, Bool.false_eq_true, ↓reduceIte, wT_f, i_len_str, i_len_lst, i_len_tup, i_eqI, i_neI, i_ltI, i_leI, i_gtI, i_geI, i_isN, i_nisN, i_isB, i_nisB, i_inS, i_ninS, i_itS, i_itT, i_itL, isND_non, isND_str, isND_tup, isND_lst, isND_int, isND_bl, calm_ok, all_map, any_map, op_add, op_sub, n_ok, Bool.not_true, Bool.not_false, decide_true, decide_false, List.length_map]
        have : strsD (M.map D.str) = some M := strsD_mk M
        rw [isMnD_tup, h2, this]
        simp only [List.length_map, h1', decide_true, Bool.true_and]
        have e3 : (((nub M).length : Int) = M.length) ↔ M.Nodup := by rw [← nub_len]; omega
        simp only [decide_eq_decide.mpr e3]
  | _ => rfl
/-- a menu as data -/
def mD (M : List (List Nat)) : D := .tup (M.map .str)
theorem dat_mD (M : List (List Nat)) : Dat (mD M) := by simp [Dat, mD, D.dat]
theorem isMnD_mD (M : List (List Nat)) : isMnD (mD M) = isMn M := by
  unfold isMnD mD
  simp only [strsD_mk M]
theorem r_is_menu' (n : Nat) (M : List (List Nat)) : run TT (n + 2) 2 [mD M] = .ok (.bl (isMn M)) := by
  rw [r_is_menu n _ (dat_mD M), isMnD_mD]
def fitsB (x : List Nat) : D → Bool
  | .non => true
  | .str [c] => decide (c ∈ az) && decide (c ∈ x)
  | _ => false
theorem r_fits (n : Nat) (x : List Nat) (d : D) (h : Dat d) : run TT (n + 2) 3 [.str x, d] = .ok (.bl (fitsB x d)) := by
  rw [runT (fd := fd3) rfl rfl rfl rfl]
  show endR (exec (wT (n + 1)) c3 [.sh (.str x), .sh d]) = _
  simp only [c3, exec, e_k, e_v, e_o, e_nil, e_cons, e_tup, e_lst, e_dct, e_op, e_neg, e_not, e_cm, e_ch, e_and, e_or, e_ife, e_ix, e_sl, e_rev, e_b1, e_b2, e_b3, e_call, e_pick, e_isx, e_it, e_rg1, e_rg2, e_enum, e_zip, e_zips, e_items, e_lc, e_lc2, e_dc, e_dc2, g_0, g_s, s_0, s_s, sl_sh, so_l, so_d, k_ok, k_rz, out_ok, out_rz, endR_nx, endR_rt, endR_rz, then_nx, then_rt, then_rz, then_bk, b_bl, l_lst, t_one, t_two, w_one, w_two, two_tup, Bool.false_eq_true, ↓reduceIte, i_isN, wT_f]
  rw [r_is_letter n d h]
  simp only [e_k, e_v, e_o, e_nil, e_cons, e_tup, e_lst, e_dct, e_op, e_neg, e_not, e_cm, e_ch, e_and, e_or, e_ife, e_ix, e_sl, e_rev, e_b1, e_b2, e_b3, e_call, e_pick, e_isx, e_it, e_rg1, e_rg2, e_enum, e_zip, e_zips, e_items, e_lc, e_lc2, e_dc, e_dc2, g_0, g_s, s_0, s_s, sl_sh, so_l, so_d, k_ok, k_rz, out_ok, out_rz, endR_nx, endR_rt, endR_rz, then_nx, then_rt, then_rz, then_bk, b_bl, l_lst, t_one, t_two, w_one, w_two, two_tup, Bool.false_eq_true, ↓reduceIte]
  cases d with
  | str y =>
    match y with
    | [] => rfl
    | [c] =>
      simp only [isLet, x_pass, x_seq, x_set, x_ex, x_ret, x_ife, x_fr, x_wh, x_brk, x_rz, e_k, e_v, e_o, e_nil, e_cons, e_tup, e_lst, e_dct, e_op, e_neg, e_not, e_cm, e_ch, e_and, e_or, e_ife, e_ix, e_sl, e_rev, e_b1, e_b2, e_b3, e_call, e_pick, e_isx, e_it, e_rg1, e_rg2, e_enum, e_zip, e_zips, e_items, e_lc, e_lc2, e_dc, e_dc2, g_0, g_s, s_0, s_s, sl_sh, so_l, so_d, k_ok, k_rz, out_ok, out_rz, endR_nx, endR_rt, endR_rz, then_nx, then_rt, then_rz, then_bk, b_bl, l_lst, t_one, t_two, w_one, w_two, two_tup, Bool.false_eq_true, ↓reduceIte, wT_f, i_len_str, i_len_lst, i_len_tup, i_eqI, i_neI, i_ltI, i_leI, i_gtI, i_geI, i_isN, i_nisN, i_isB, i_nisB, i_inS, i_ninS, i_itS, i_itT, i_itL, isND_non, isND_str, isND_tup, isND_lst, isND_int, isND_bl, calm_ok, all_map, any_map, op_add, op_sub, n_ok, Bool.not_true, Bool.not_false, decide_true, decide_false, fitsB]
      by_cases hc : c ∈ az
      · simp only [decide_eq_true hc, x_pass, x_seq, x_set, x_ex, x_ret, x_ife, x_fr, x_wh, x_brk, x_rz, e_k, e_v, e_o, e_nil, e_cons, e_tup, e_lst, e_dct, e_op, e_neg, e_not, e_cm, e_ch, e_and, e_or, e_ife, e_ix, e_sl, e_rev, e_b1, e_b2, e_b3, e_call, e_pick, e_isx, e_it, e_rg1, e_rg2, e_enum, e_zip, e_zips, e_items, e_lc, e_lc2, e_dc, e_dc2, g_0, g_s, s_0, s_s, sl_sh, so_l, so_d, k_ok, k_rz, out_ok, out_rz, endR_nx, endR_rt, endR_rz, then_nx, then_rt, then_rz, then_bk, b_bl, l_lst, t_one, t_two, w_one, w_two, two_tup, Bool.false_eq_true, ↓reduceIte, wT_f, i_len_str, i_len_lst, i_len_tup, i_eqI, i_neI, i_ltI, i_leI, i_gtI, i_geI, i_isN, i_nisN, i_isB, i_nisB, i_inS, i_ninS, i_itS, i_itT, i_itL, isND_non, isND_str, isND_tup, isND_lst, isND_int, isND_bl, calm_ok, all_map, any_map, op_add, op_sub, n_ok, Bool.not_true, Bool.not_false, decide_true, decide_false, Bool.true_and]
      · simp only [decide_eq_false hc, x_pass, x_seq, x_set, x_ex, x_ret, x_ife, x_fr, x_wh, x_brk, x_rz, e_k, e_v, e_o, e_nil, e_cons, e_tup, e_lst, e_dct, e_op, e_neg, e_not, e_cm, e_ch, e_and, e_or, e_ife, e_ix, e_sl, e_rev, e_b1, e_b2, e_b3, e_call, e_pick, e_isx, e_it, e_rg1, e_rg2, e_enum, e_zip, e_zips, e_items, e_lc, e_lc2, e_dc, e_dc2, g_0, g_s, s_0, s_s, sl_sh, so_l, so_d, k_ok, k_rz, out_ok, out_rz, endR_nx, endR_rt, endR_rz, then_nx, then_rt, then_rz, then_bk, b_bl, l_lst, t_one, t_two, w_one, w_two, two_tup, Bool.false_eq_true, ↓reduceIte, wT_f, i_len_str, i_len_lst, i_len_tup, i_eqI, i_neI, i_ltI, i_leI, i_gtI, i_geI, i_isN, i_nisN, i_isB, i_nisB, i_inS, i_ninS, i_itS, i_itT, i_itL, isND_non, isND_str, isND_tup, isND_lst, isND_int, isND_bl, calm_ok, all_map, any_map, op_add, op_sub, n_ok, Bool.not_true, Bool.not_false, decide_true, decide_false, Bool.false_and]
    | _ :: _ :: _ => rfl
  | _ => rfl
def strOf : D → Option (List Nat)
  | .str x => some x
  | _ => none
def hasA (M : List (List Nat)) : D → Bool
  | .tup xs => decide (xs.length = M.length) && ((M.zip xs).all fun p => fitsB p.1 p.2) && decide ((xs.filterMap strOf).Nodup)
  | _ => false
theorem zip_tup (M : List (List Nat)) (xs : List D) : zipC (mD M) (.tup xs) = .ok (.lst ((M.zip xs).map fun p => .tup [.str p.1, p.2])) := by
  show R.ok (D.lst (zipL (M.map .str) xs)) = _
  have := zipL_map D.str id M xs
  rw [List.map_id] at this
  rw [this]
  rfl
theorem used_str : ∀ {M : List (List Nat)} {xs : List D}, xs.length = M.length → ((M.zip xs).all fun p => fitsB p.1 p.2) = true → xs.filter (fun x => !isND x) = (xs.filterMap strOf).map .str
  | [], [], _, _ => rfl
  | [], _ :: _, h, _ => by simp at h
  | _ :: _, [], h, _ => by simp at h
  | m :: M, x :: xs, h, h2 => by
    simp only [List.zip_cons_cons, List.all_cons, Bool.and_eq_true] at h2
    have ih := used_str (M := M) (xs := xs) (by simpa using h) h2.2
    have h3 := h2.1
    cases x <;> first | (simp [fitsB] at h3; done) | skip
    · simp only [List.filter_cons, isND_non, isND_str, Bool.not_true, Bool.false_eq_true, ↓reduceIte, List.filterMap_cons, strOf, ih]
    · simp only [List.filter_cons, isND_non, isND_str, Bool.not_false, ↓reduceIte, List.filterMap_cons, strOf, List.map_cons, ih]
theorem r_has (n : Nat) (M : List (List Nat)) (d : D) (h : Dat d) (hM : M.length ≤ 8) : run TT (n + 3) 4 [mD M, d] = .ok (.bl (hasA M d)) := by
  rw [runT (fd := fd4) rfl rfl rfl rfl]
  show endR (exec (wT (n + 2)) c4 [.sh (mD M), .sh d, .no, .no, .no]) = _
  simp only [c4, exec, e_k, e_v, e_o, e_nil, e_cons, e_tup, e_lst, e_dct, e_op, e_neg, e_not, e_cm, e_ch, e_and, e_or, e_ife, e_ix, e_sl, e_rev, e_b1, e_b2, e_b3, e_call, e_pick, e_isx, e_it, e_rg1, e_rg2, e_enum, e_zip, e_zips, e_items, e_lc, e_lc2, e_dc, e_dc2, g_0, g_s, s_0, s_s, sl_sh, so_l, so_d, k_ok, k_rz, out_ok, out_rz, endR_nx, endR_rt, endR_rz, then_nx, then_rt, then_rz, then_bk, b_bl, l_lst, t_one, t_two, w_one, w_two, two_tup, Bool.false_eq_true, ↓reduceIte, i_isTup h]
  cases d with
  | tup xs =>
    have hx := dat_tup h
    have hl : b1R .len (mD M) = .ok (.int M.length) := by unfold mD; rw [i_len_tup, List.length_map]
    simp only [isTupB, Bool.not_true, e_k, e_v, e_o, e_nil, e_cons, e_tup, e_lst, e_dct, e_op, e_neg, e_not, e_cm, e_ch, e_and, e_or, e_ife, e_ix, e_sl, e_rev, e_b1, e_b2, e_b3, e_call, e_pick, e_isx, e_it, e_rg1, e_rg2, e_enum, e_zip, e_zips, e_items, e_lc, e_lc2, e_dc, e_dc2, g_0, g_s, s_0, s_s, sl_sh, so_l, so_d, k_ok, k_rz, out_ok, out_rz, endR_nx, endR_rt, endR_rz, then_nx, then_rt, then_rz, then_bk, b_bl, l_lst, t_one, t_two, w_one, w_two, two_tup, Bool.false_eq_true, ↓reduceIte, i_len_tup, hl, i_neI, zip_tup, wT_f]
    by_cases h1 : (xs.length : Int) = M.length
    · have h1' : xs.length = M.length := by omega
      simp only [decide_eq_true h1, zip_tup, hl, x_pass, x_seq, x_set, x_ex, x_ret, x_ife, x_fr, x_wh, x_brk, x_rz, e_k, e_v, e_o, e_nil, e_cons, e_tup, e_lst, e_dct, e_op, e_neg, e_not, e_cm, e_ch, e_and, e_or, e_ife, e_ix, e_sl, e_rev, e_b1, e_b2, e_b3, e_call, e_pick, e_isx, e_it, e_rg1, e_rg2, e_enum, e_zip, e_zips, e_items, e_lc, e_lc2, e_dc, e_dc2, g_0, g_s, s_0, s_s, sl_sh, so_l, so_d, k_ok, k_rz, out_ok, out_rz, endR_nx, endR_rt, endR_rz, then_nx, then_rt, then_rz, then_bk, b_bl, l_lst, t_one, t_two, w_one, w_two, two_tup, Bool.false_eq_true, ↓reduceIte, wT_f, i_len_str, i_len_lst, i_len_tup, i_eqI, i_neI, i_ltI, i_leI, i_gtI, i_geI, i_isN, i_nisN, i_isB, i_nisB, i_inS, i_ninS, i_itS, i_itT, i_itL, isND_non, isND_str, isND_tup, isND_lst, isND_int, isND_bl, calm_ok, all_map, any_map, op_add, op_sub, n_ok, Bool.not_true, Bool.not_false, decide_true, decide_false]
      rw [lcR_all (e := fun p : List Nat × D => D.tup [.str p.1, p.2]) (g := fun p => .bl (fitsB p.1 p.2)) fun p hp => by
        simp only [x_pass, x_seq, x_set, x_ex, x_ret, x_ife, x_fr, x_wh, x_brk, x_rz, e_k, e_v, e_o, e_nil, e_cons, e_tup, e_lst, e_dct, e_op, e_neg, e_not, e_cm, e_ch, e_and, e_or, e_ife, e_ix, e_sl, e_rev, e_b1, e_b2, e_b3, e_call, e_pick, e_isx, e_it, e_rg1, e_rg2, e_enum, e_zip, e_zips, e_items, e_lc, e_lc2, e_dc, e_dc2, g_0, g_s, s_0, s_s, sl_sh, so_l, so_d, k_ok, k_rz, out_ok, out_rz, endR_nx, endR_rt, endR_rz, then_nx, then_rt, then_rz, then_bk, b_bl, l_lst, t_one, t_two, w_one, w_two, two_tup, Bool.false_eq_true, ↓reduceIte, wT_f, i_len_str, i_len_lst, i_len_tup, i_eqI, i_neI, i_ltI, i_leI, i_gtI, i_geI, i_isN, i_nisN, i_isB, i_nisB, i_inS, i_ninS, i_itS, i_itT, i_itL, isND_non, isND_str, isND_tup, isND_lst, isND_int, isND_bl, calm_ok, all_map, any_map, op_add, op_sub, n_ok, Bool.not_true, Bool.not_false, decide_true, decide_false]
        rw [r_fits n _ _ (hx _ (List.of_mem_zip hp).2)]; rfl]
      simp only [x_pass, x_seq, x_set, x_ex, x_ret, x_ife, x_fr, x_wh, x_brk, x_rz, e_k, e_v, e_o, e_nil, e_cons, e_tup, e_lst, e_dct, e_op, e_neg, e_not, e_cm, e_ch, e_and, e_or, e_ife, e_ix, e_sl, e_rev, e_b1, e_b2, e_b3, e_call, e_pick, e_isx, e_it, e_rg1, e_rg2, e_enum, e_zip, e_zips, e_items, e_lc, e_lc2, e_dc, e_dc2, g_0, g_s, s_0, s_s, sl_sh, so_l, so_d, k_ok, k_rz, out_ok, out_rz, endR_nx, endR_rt, endR_rz, then_nx, then_rt, then_rz, then_bk, b_bl, l_lst, t_one, t_two, w_one, w_two, two_tup, Bool.false_eq_true, ↓reduceIte, wT_f, i_len_str, i_len_lst, i_len_tup, i_eqI, i_neI, i_ltI, i_leI, i_gtI, i_geI, i_isN, i_nisN, i_isB, i_nisB, i_inS, i_ninS, i_itS, i_itT, i_itL, isND_non, isND_str, isND_tup, isND_lst, isND_int, isND_bl, calm_ok, all_map, any_map, op_add, op_sub, n_ok, Bool.not_true, Bool.not_false, decide_true, decide_false]
      cases h2 : (M.zip xs).all fun p => fitsB p.1 p.2 with
      | false =>
        simp only [Bool.not_false, e_k, e_v, e_o, e_nil, e_cons, e_tup, e_lst, e_dct, e_op, e_neg, e_not, e_cm, e_ch, e_and, e_or, e_ife, e_ix, e_sl, e_rev, e_b1, e_b2, e_b3, e_call, e_pick, e_isx, e_it, e_rg1, e_rg2, e_enum, e_zip, e_zips, e_items, e_lc, e_lc2, e_dc, e_dc2, g_0, g_s, s_0, s_s, sl_sh, so_l, so_d, k_ok, k_rz, out_ok, out_rz, endR_nx, endR_rt, endR_rz, then_nx, then_rt, then_rz, then_bk, b_bl, l_lst, t_one, t_two, w_one, w_two, two_tup, Bool.false_eq_true, ↓reduceIte, hasA, h2]
        simp
      | true =>
        simp only [x_pass, x_seq, x_set, x_ex, x_ret, x_ife, x_fr, x_wh, x_brk, x_rz, e_k, e_v, e_o, e_nil, e_cons, e_tup, e_lst, e_dct, e_op, e_neg, e_not, e_cm, e_ch, e_and, e_or, e_ife, e_ix, e_sl, e_rev, e_b1, e_b2, e_b3, e_call, e_pick, e_isx, e_it, e_rg1, e_rg2, e_enum, e_zip, e_zips, e_items, e_lc, e_lc2, e_dc, e_dc2, g_0, g_s, s_0, s_s, sl_sh, so_l, so_d, k_ok, k_rz, out_ok, out_rz, endR_nx, endR_rt, endR_rz, then_nx, then_rt, then_rz, then_bk, b_bl, l_lst, t_one, t_two, w_one, w_two, two_tup, Bool.false_eq_true, ↓reduceIte, wT_f, i_len_str, i_len_lst, i_len_tup, i_eqI, i_neI, i_ltI, i_leI, i_gtI, i_geI, i_isN, i_nisN, i_isB, i_nisB, i_inS, i_ninS, i_itS, i_itT, i_itL, isND_non, isND_str, isND_tup, isND_lst, isND_int, isND_bl, calm_ok, all_map, any_map, op_add, op_sub, n_ok, Bool.not_true, Bool.not_false, decide_true, decide_false]
        rw [lcR_ifI (p := fun x => !isND x) (g := fun x => x) fun x _ => rfl, List.map_id']
        simp only [calm_ok, e_k, e_v, e_o, e_nil, e_cons, e_tup, e_lst, e_dct, e_op, e_neg, e_not, e_cm, e_ch, e_and, e_or, e_ife, e_ix, e_sl, e_rev, e_b1, e_b2, e_b3, e_call, e_pick, e_isx, e_it, e_rg1, e_rg2, e_enum, e_zip, e_zips, e_items, e_lc, e_lc2, e_dc, e_dc2, g_0, g_s, s_0, s_s, sl_sh, so_l, so_d, k_ok, k_rz, out_ok, out_rz, endR_nx, endR_rt, endR_rz, then_nx, then_rt, then_rz, then_bk, b_bl, l_lst, t_one, t_two, w_one, w_two, two_tup, Bool.false_eq_true, ↓reduceIte]
        rw [used_str h1' h2, i_len_lst, lset_lst (by have := List.length_filterMap_le strOf xs; omega)]
        simp only [e_k, e_v, e_o, e_nil, e_cons, e_tup, e_lst, e_dct, e_op, e_neg, e_not, e_cm, e_ch, e_and, e_or, e_ife, e_ix, e_sl, e_rev, e_b1, e_b2, e_b3, e_call, e_pick, e_isx, e_it, e_rg1, e_rg2, e_enum, e_zip, e_zips, e_items, e_lc, e_lc2, e_dc, e_dc2, g_0, g_s, s_0, s_s, sl_sh, so_l, so_d, k_ok, k_rz, out_ok, out_rz, endR_nx, endR_rt, endR_rz, then_nx, then_rt, then_rz, then_bk, b_bl, l_lst, t_one, t_two, w_one, w_two, two_tup, Bool.false_eq_true, ↓reduceIte, i_eqI, List.length_map, hasA, h2, h1', decide_true, Bool.true_and]
        have e3 : (((nub (xs.filterMap strOf)).length : Int) = (xs.filterMap strOf).length) ↔ (xs.filterMap strOf).Nodup := by rw [← nub_len]; omega
        simp only [decide_eq_decide.mpr e3]
    · simp only [decide_eq_false h1, Bool.not_false, e_k, e_v, e_o, e_nil, e_cons, e_tup, e_lst, e_dct, e_op, e_neg, e_not, e_cm, e_ch, e_and, e_or, e_ife, e_ix, e_sl, e_rev, e_b1, e_b2, e_b3, e_call, e_pick, e_isx, e_it, e_rg1, e_rg2, e_enum, e_zip, e_zips, e_items, e_lc, e_lc2, e_dc, e_dc2, g_0, g_s, s_0, s_s, sl_sh, so_l, so_d, k_ok, k_rz, out_ok, out_rz, endR_nx, endR_rt, endR_rz, then_nx, then_rt, then_rz, then_bk, b_bl, l_lst, t_one, t_two, w_one, w_two, two_tup, Bool.false_eq_true, ↓reduceIte, hasA]
      have : ¬ xs.length = M.length := by omega
      simp [this]
  | _ => rfl
end Mip

set_option linter.all false
set_option maxRecDepth 100000
/-! plain 5: the functions of menus -/
namespace Mip
open Mi
theorem r_check_menu (n : Nat) (d : D) (h : Dat d) : run TT (n + 3) 5 [d] = if isMnD d then .ok .non else .rz 1 := by
  rw [runT (fd := fd5) rfl rfl rfl rfl]
  show endR (exec (wT (n + 2)) c5 [.sh d]) = _
  simp only [c5, x_pass, x_seq, x_set, x_ex, x_ret, x_ife, x_fr, x_wh, x_brk, x_rz, e_k, e_v, e_o, e_nil, e_cons, e_tup, e_lst, e_dct, e_op, e_neg, e_not, e_cm, e_ch, e_and, e_or, e_ife, e_ix, e_sl, e_rev, e_b1, e_b2, e_b3, e_call, e_pick, e_isx, e_it, e_rg1, e_rg2, e_enum, e_zip, e_zips, e_items, e_lc, e_lc2, e_dc, e_dc2, g_0, g_s, s_0, s_s, sl_sh, so_l, so_d, k_ok, k_rz, out_ok, out_rz, endR_nx, endR_rt, endR_rz, then_nx, then_rt, then_rz, then_bk, b_bl, l_lst, t_one, t_two, w_one, w_two, two_tup, Bool.false_eq_true, ↓reduceIte, wT_f, i_len_str, i_len_lst, i_len_tup, i_eqI, i_neI, i_ltI, i_leI, i_gtI, i_geI, i_isN, i_nisN, i_isB, i_nisB, i_inS, i_ninS, i_itS, i_itT, i_itL, isND_non, isND_str, isND_tup, isND_lst, isND_int, isND_bl, calm_ok, all_map, any_map, op_add, op_sub, n_ok, Bool.not_true, Bool.not_false, decide_true, decide_false]
  rw [r_is_menu n d h]
  cases isMnD d <;> simp only [x_pass, x_seq, x_set, x_ex, x_ret, x_ife, x_fr, x_wh, x_brk, x_rz, e_k, e_v, e_o, e_nil, e_cons, e_tup, e_lst, e_dct, e_op, e_neg, e_not, e_cm, e_ch, e_and, e_or, e_ife, e_ix, e_sl, e_rev, e_b1, e_b2, e_b3, e_call, e_pick, e_isx, e_it, e_rg1, e_rg2, e_enum, e_zip, e_zips, e_items, e_lc, e_lc2, e_dc, e_dc2, g_0, g_s, s_0, s_s, sl_sh, so_l, so_d, k_ok, k_rz, out_ok, out_rz, endR_nx, endR_rt, endR_rz, then_nx, then_rt, then_rz, then_bk, b_bl, l_lst, t_one, t_two, w_one, w_two, two_tup, Bool.false_eq_true, ↓reduceIte, wT_f, i_len_str, i_len_lst, i_len_tup, i_eqI, i_neI, i_ltI, i_leI, i_gtI, i_geI, i_isN, i_nisN, i_isB, i_nisB, i_inS, i_ninS, i_itS, i_itT, i_itL, isND_non, isND_str, isND_tup, isND_lst, isND_int, isND_bl, calm_ok, all_map, any_map, op_add, op_sub, n_ok, Bool.not_true, Bool.not_false, decide_true, decide_false]
theorem r_check_name (n : Nat) (d : D) (h : Dat d) : run TT (n + 2) 6 [d] = if isNmD d then .ok .non else .rz 3 := by
  rw [runT (fd := fd6) rfl rfl rfl rfl]
  show endR (exec (wT (n + 1)) c6 [.sh d]) = _
  simp only [c6, x_pass, x_seq, x_set, x_ex, x_ret, x_ife, x_fr, x_wh, x_brk, x_rz, e_k, e_v, e_o, e_nil, e_cons, e_tup, e_lst, e_dct, e_op, e_neg, e_not, e_cm, e_ch, e_and, e_or, e_ife, e_ix, e_sl, e_rev, e_b1, e_b2, e_b3, e_call, e_pick, e_isx, e_it, e_rg1, e_rg2, e_enum, e_zip, e_zips, e_items, e_lc, e_lc2, e_dc, e_dc2, g_0, g_s, s_0, s_s, sl_sh, so_l, so_d, k_ok, k_rz, out_ok, out_rz, endR_nx, endR_rt, endR_rz, then_nx, then_rt, then_rz, then_bk, b_bl, l_lst, t_one, t_two, w_one, w_two, two_tup, Bool.false_eq_true, ↓reduceIte, wT_f, i_len_str, i_len_lst, i_len_tup, i_eqI, i_neI, i_ltI, i_leI, i_gtI, i_geI, i_isN, i_nisN, i_isB, i_nisB, i_inS, i_ninS, i_itS, i_itT, i_itL, isND_non, isND_str, isND_tup, isND_lst, isND_int, isND_bl, calm_ok, all_map, any_map, op_add, op_sub, n_ok, Bool.not_true, Bool.not_false, decide_true, decide_false]
  rw [r_is_name n d h]
  cases isNmD d <;> simp only [x_pass, x_seq, x_set, x_ex, x_ret, x_ife, x_fr, x_wh, x_brk, x_rz, e_k, e_v, e_o, e_nil, e_cons, e_tup, e_lst, e_dct, e_op, e_neg, e_not, e_cm, e_ch, e_and, e_or, e_ife, e_ix, e_sl, e_rev, e_b1, e_b2, e_b3, e_call, e_pick, e_isx, e_it, e_rg1, e_rg2, e_enum, e_zip, e_zips, e_items, e_lc, e_lc2, e_dc, e_dc2, g_0, g_s, s_0, s_s, sl_sh, so_l, so_d, k_ok, k_rz, out_ok, out_rz, endR_nx, endR_rt, endR_rz, then_nx, then_rt, then_rz, then_bk, b_bl, l_lst, t_one, t_two, w_one, w_two, two_tup, Bool.false_eq_true, ↓reduceIte, wT_f, i_len_str, i_len_lst, i_len_tup, i_eqI, i_neI, i_ltI, i_leI, i_gtI, i_geI, i_isN, i_nisN, i_isB, i_nisB, i_inS, i_ninS, i_itS, i_itT, i_itL, isND_non, isND_str, isND_tup, isND_lst, isND_int, isND_bl, calm_ok, all_map, any_map, op_add, op_sub, n_ok, Bool.not_true, Bool.not_false, decide_true, decide_false]
theorem r_check_assignment (n : Nat) (M : List (List Nat)) (d : D) (h : Dat d) (hM : M.length ≤ 8) : run TT (n + 4) 7 [mD M, d] = if hasA M d then .ok .non else .rz 2 := by
  rw [runT (fd := fd7) rfl rfl rfl rfl]
  show endR (exec (wT (n + 3)) c7 [.sh (mD M), .sh d]) = _
  simp only [c7, x_pass, x_seq, x_set, x_ex, x_ret, x_ife, x_fr, x_wh, x_brk, x_rz, e_k, e_v, e_o, e_nil, e_cons, e_tup, e_lst, e_dct, e_op, e_neg, e_not, e_cm, e_ch, e_and, e_or, e_ife, e_ix, e_sl, e_rev, e_b1, e_b2, e_b3, e_call, e_pick, e_isx, e_it, e_rg1, e_rg2, e_enum, e_zip, e_zips, e_items, e_lc, e_lc2, e_dc, e_dc2, g_0, g_s, s_0, s_s, sl_sh, so_l, so_d, k_ok, k_rz, out_ok, out_rz, endR_nx, endR_rt, endR_rz, then_nx, then_rt, then_rz, then_bk, b_bl, l_lst, t_one, t_two, w_one, w_two, two_tup, Bool.false_eq_true, ↓reduceIte, wT_f, i_len_str, i_len_lst, i_len_tup, i_eqI, i_neI, i_ltI, i_leI, i_gtI, i_geI, i_isN, i_nisN, i_isB, i_nisB, i_inS, i_ninS, i_itS, i_itT, i_itL, isND_non, isND_str, isND_tup, isND_lst, isND_int, isND_bl, calm_ok, all_map, any_map, op_add, op_sub, n_ok, Bool.not_true, Bool.not_false, decide_true, decide_false]
  rw [r_has n M d h hM]
  cases hasA M d <;> simp only [x_pass, x_seq, x_set, x_ex, x_ret, x_ife, x_fr, x_wh, x_brk, x_rz, e_k, e_v, e_o, e_nil, e_cons, e_tup, e_lst, e_dct, e_op, e_neg, e_not, e_cm, e_ch, e_and, e_or, e_ife, e_ix, e_sl, e_rev, e_b1, e_b2, e_b3, e_call, e_pick, e_isx, e_it, e_rg1, e_rg2, e_enum, e_zip, e_zips, e_items, e_lc, e_lc2, e_dc, e_dc2, g_0, g_s, s_0, s_s, sl_sh, so_l, so_d, k_ok, k_rz, out_ok, out_rz, endR_nx, endR_rt, endR_rz, then_nx, then_rt, then_rz, then_bk, b_bl, l_lst, t_one, t_two, w_one, w_two, two_tup, Bool.false_eq_true, ↓reduceIte, wT_f, i_len_str, i_len_lst, i_len_tup, i_eqI, i_neI, i_ltI, i_leI, i_gtI, i_geI, i_isN, i_nisN, i_isB, i_nisB, i_inS, i_ninS, i_itS, i_itT, i_itL, isND_non, isND_str, isND_tup, isND_lst, isND_int, isND_bl, calm_ok, all_map, any_map, op_add, op_sub, n_ok, Bool.not_true, Bool.not_false, decide_true, decide_false]
theorem isMn_len {M : List (List Nat)} (h : isMn M = true) : M.length ≤ 8 := by
  simp only [isMn, Bool.and_eq_true, decide_eq_true_eq] at h
  exact h.1.1
theorem isMn_nd {M : List (List Nat)} (h : isMn M = true) : M.Nodup := by
  simp only [isMn, Bool.and_eq_true, decide_eq_true_eq] at h
  exact h.2
theorem isMn_nm {M : List (List Nat)} (h : isMn M = true) : ∀ x ∈ M, isNm x = true := by
  simp only [isMn, Bool.and_eq_true, decide_eq_true_eq, List.all_eq_true] at h
  exact h.1.2
theorem isNm_az {x : List Nat} (h : isNm x = true) : ∀ c ∈ x, c ∈ az := by
  simp only [isNm, Bool.and_eq_true, decide_eq_true_eq, List.all_eq_true] at h
  exact h.2
theorem isNm_len {x : List Nat} (h : isNm x = true) : 1 ≤ x.length ∧ x.length ≤ 8 := by
  simp only [isNm, Bool.and_eq_true, decide_eq_true_eq, List.all_eq_true] at h
  exact h.1
theorem r_is_assignment (n : Nat) (M : List (List Nat)) (d : D) (h : Dat d) (hM : isMn M = true) : run TT (n + 4) 8 [mD M, d] = .ok (.bl (hasA M d)) := by
  rw [runT (fd := fd8) rfl rfl rfl rfl]
  show endR (exec (wT (n + 3)) c8 [.sh (mD M), .sh d]) = _
  simp only [c8, x_pass, x_seq, x_set, x_ex, x_ret, x_ife, x_fr, x_wh, x_brk, x_rz, e_k, e_v, e_o, e_nil, e_cons, e_tup, e_lst, e_dct, e_op, e_neg, e_not, e_cm, e_ch, e_and, e_or, e_ife, e_ix, e_sl, e_rev, e_b1, e_b2, e_b3, e_call, e_pick, e_isx, e_it, e_rg1, e_rg2, e_enum, e_zip, e_zips, e_items, e_lc, e_lc2, e_dc, e_dc2, g_0, g_s, s_0, s_s, sl_sh, so_l, so_d, k_ok, k_rz, out_ok, out_rz, endR_nx, endR_rt, endR_rz, then_nx, then_rt, then_rz, then_bk, b_bl, l_lst, t_one, t_two, w_one, w_two, two_tup, Bool.false_eq_true, ↓reduceIte, wT_f, i_len_str, i_len_lst, i_len_tup, i_eqI, i_neI, i_ltI, i_leI, i_gtI, i_geI, i_isN, i_nisN, i_isB, i_nisB, i_inS, i_ninS, i_itS, i_itT, i_itL, isND_non, isND_str, isND_tup, isND_lst, isND_int, isND_bl, calm_ok, all_map, any_map, op_add, op_sub, n_ok, Bool.not_true, Bool.not_false, decide_true, decide_false]
  rw [r_check_menu n _ (dat_mD M), isMnD_mD, hM]
  simp only [x_pass, x_seq, x_set, x_ex, x_ret, x_ife, x_fr, x_wh, x_brk, x_rz, e_k, e_v, e_o, e_nil, e_cons, e_tup, e_lst, e_dct, e_op, e_neg, e_not, e_cm, e_ch, e_and, e_or, e_ife, e_ix, e_sl, e_rev, e_b1, e_b2, e_b3, e_call, e_pick, e_isx, e_it, e_rg1, e_rg2, e_enum, e_zip, e_zips, e_items, e_lc, e_lc2, e_dc, e_dc2, g_0, g_s, s_0, s_s, sl_sh, so_l, so_d, k_ok, k_rz, out_ok, out_rz, endR_nx, endR_rt, endR_rz, then_nx, then_rt, then_rz, then_bk, b_bl, l_lst, t_one, t_two, w_one, w_two, two_tup, Bool.false_eq_true, ↓reduceIte, wT_f, i_len_str, i_len_lst, i_len_tup, i_eqI, i_neI, i_ltI, i_leI, i_gtI, i_geI, i_isN, i_nisN, i_isB, i_nisB, i_inS, i_ninS, i_itS, i_itT, i_itL, isND_non, isND_str, isND_tup, isND_lst, isND_int, isND_bl, calm_ok, all_map, any_map, op_add, op_sub, n_ok, Bool.not_true, Bool.not_false, decide_true, decide_false]
  rw [r_has n M d h (isMn_len hM)]
  simp only [x_pass, x_seq, x_set, x_ex, x_ret, x_ife, x_fr, x_wh, x_brk, x_rz, e_k, e_v, e_o, e_nil, e_cons, e_tup, e_lst, e_dct, e_op, e_neg, e_not, e_cm, e_ch, e_and, e_or, e_ife, e_ix, e_sl, e_rev, e_b1, e_b2, e_b3, e_call, e_pick, e_isx, e_it, e_rg1, e_rg2, e_enum, e_zip, e_zips, e_items, e_lc, e_lc2, e_dc, e_dc2, g_0, g_s, s_0, s_s, sl_sh, so_l, so_d, k_ok, k_rz, out_ok, out_rz, endR_nx, endR_rt, endR_rz, then_nx, then_rt, then_rz, then_bk, b_bl, l_lst, t_one, t_two, w_one, w_two, two_tup, Bool.false_eq_true, ↓reduceIte, wT_f, i_len_str, i_len_lst, i_len_tup, i_eqI, i_neI, i_ltI, i_leI, i_gtI, i_geI, i_isN, i_nisN, i_isB, i_nisB, i_inS, i_ninS, i_itS, i_itT, i_itL, isND_non, isND_str, isND_tup, isND_lst, isND_int, isND_bl, calm_ok, all_map, any_map, op_add, op_sub, n_ok, Bool.not_true, Bool.not_false, decide_true, decide_false]
/-! ### letters in order -/
def lts (x : List Nat) : List Nat := (nub x).mergeSort fun a b => decide (a ≤ b)
theorem mem_lts {c : Nat} {x : List Nat} : c ∈ lts x ↔ c ∈ x := by
  unfold lts
  rw [List.mem_mergeSort, mem_nub]
theorem lts_lt (x : List Nat) : (lts x).Pairwise (· < ·) := by
  have h1 : (lts x).Pairwise fun a b => decide (a ≤ b) = true := List.pairwise_mergeSort (by intro a b c; simp; omega) (by intro a b; simp; omega) _
  have h2 : (lts x).Nodup := (List.mergeSort_perm _ _).nodup_iff.mpr (nub_nodup x)
  exact (h1.and h2).imp fun {a b} h => by
    have := of_decide_eq_true h.1
    have := h.2
    omega
theorem lts_nodup (x : List Nat) : (lts x).Nodup := (lts_lt x).imp fun h => by omega
def chD (x : List Nat) : D := .lst (x.map fun c => .str [c])
theorem i_sset (x : List Nat) (h : x.length < 4000) : b1R .sset (.str x) = .ok (chD (lts x)) := by
  cases x with
  | nil => simp [b1R, i_itS, bind_ok, intsD, nub, lts, chD]
  | cons c r =>
    have e : b1R .sset (.str (c :: r)) = if ((c :: r).map fun c => D.str [c]).length < 4000 then (match strsD ((c :: r).map fun c => D.str [c]) with
        | some ss => .ok (.lst (((nub ss).mergeSort leS).map .str))
        | none => .no) else .no := rfl
    rw [e, List.length_map, if_pos h, strsD_map]
    show R.ok (D.lst (((nub ((c :: r).map fun c => [c])).mergeSort leS).map .str)) = _
    rw [nub_map (by intro x y h; cases h; rfl)]
    unfold chD lts
    rw [← List.map_mergeSort (r := fun a b => decide (a ≤ b)), List.map_map]
    · rfl
    · intro a _ b _
      unfold leS
      rw [decide_eq_decide]
      show a ≤ b ↔ [a] ≤ [b]
      rw [List.cons_le_cons_iff]
      simp
      omega
theorem r_letters_of (n : Nat) (x : List Nat) (h : x.length < 4000) : run TT (n + 1) 9 [.str x] = .ok (chD (lts x)) := by
  rw [runT (fd := fd9) rfl rfl rfl rfl]
  show endR (exec (wT n) c9 [.sh (.str x)]) = _
  simp only [c9, x_pass, x_seq, x_set, x_ex, x_ret, x_ife, x_fr, x_wh, x_brk, x_rz, e_k, e_v, e_o, e_nil, e_cons, e_tup, e_lst, e_dct, e_op, e_neg, e_not, e_cm, e_ch, e_and, e_or, e_ife, e_ix, e_sl, e_rev, e_b1, e_b2, e_b3, e_call, e_pick, e_isx, e_it, e_rg1, e_rg2, e_enum, e_zip, e_zips, e_items, e_lc, e_lc2, e_dc, e_dc2, g_0, g_s, s_0, s_s, sl_sh, so_l, so_d, k_ok, k_rz, out_ok, out_rz, endR_nx, endR_rt, endR_rz, then_nx, then_rt, then_rz, then_bk, b_bl, l_lst, t_one, t_two, w_one, w_two, two_tup, Bool.false_eq_true, ↓reduceIte, wT_f, i_len_str, i_len_lst, i_len_tup, i_eqI, i_neI, i_ltI, i_leI, i_gtI, i_geI, i_isN, i_nisN, i_isB, i_nisB, i_inS, i_ninS, i_itS, i_itT, i_itL, isND_non, isND_str, isND_tup, isND_lst, isND_int, isND_bl, calm_ok, all_map, any_map, op_add, op_sub, n_ok, Bool.not_true, Bool.not_false, decide_true, decide_false, i_sset x h]
theorem isNm_4000 {x : List Nat} (h : isNm x = true) : x.length < 4000 := by have := isNm_len h; omega
theorem r_letters (n : Nat) (x : List Nat) (h : isNm x = true) : run TT (n + 3) 10 [.str x] = .ok (chD (lts x)) := by
  rw [runT (fd := fd10) rfl rfl rfl rfl]
  show endR (exec (wT (n + 2)) c10 [.sh (.str x)]) = _
  simp only [c10, x_pass, x_seq, x_set, x_ex, x_ret, x_ife, x_fr, x_wh, x_brk, x_rz, e_k, e_v, e_o, e_nil, e_cons, e_tup, e_lst, e_dct, e_op, e_neg, e_not, e_cm, e_ch, e_and, e_or, e_ife, e_ix, e_sl, e_rev, e_b1, e_b2, e_b3, e_call, e_pick, e_isx, e_it, e_rg1, e_rg2, e_enum, e_zip, e_zips, e_items, e_lc, e_lc2, e_dc, e_dc2, g_0, g_s, s_0, s_s, sl_sh, so_l, so_d, k_ok, k_rz, out_ok, out_rz, endR_nx, endR_rt, endR_rz, then_nx, then_rt, then_rz, then_bk, b_bl, l_lst, t_one, t_two, w_one, w_two, two_tup, Bool.false_eq_true, ↓reduceIte, wT_f, i_len_str, i_len_lst, i_len_tup, i_eqI, i_neI, i_ltI, i_leI, i_gtI, i_geI, i_isN, i_nisN, i_isB, i_nisB, i_inS, i_ninS, i_itS, i_itT, i_itL, isND_non, isND_str, isND_tup, isND_lst, isND_int, isND_bl, calm_ok, all_map, any_map, op_add, op_sub, n_ok, Bool.not_true, Bool.not_false, decide_true, decide_false]
  rw [r_check_name n _ (dat_str x), show isNmD (.str x) = isNm x from rfl, h]
  simp only [x_pass, x_seq, x_set, x_ex, x_ret, x_ife, x_fr, x_wh, x_brk, x_rz, e_k, e_v, e_o, e_nil, e_cons, e_tup, e_lst, e_dct, e_op, e_neg, e_not, e_cm, e_ch, e_and, e_or, e_ife, e_ix, e_sl, e_rev, e_b1, e_b2, e_b3, e_call, e_pick, e_isx, e_it, e_rg1, e_rg2, e_enum, e_zip, e_zips, e_items, e_lc, e_lc2, e_dc, e_dc2, g_0, g_s, s_0, s_s, sl_sh, so_l, so_d, k_ok, k_rz, out_ok, out_rz, endR_nx, endR_rt, endR_rz, then_nx, then_rt, then_rz, then_bk, b_bl, l_lst, t_one, t_two, w_one, w_two, two_tup, Bool.false_eq_true, ↓reduceIte, wT_f, i_len_str, i_len_lst, i_len_tup, i_eqI, i_neI, i_ltI, i_leI, i_gtI, i_geI, i_isN, i_nisN, i_isB, i_nisB, i_inS, i_ninS, i_itS, i_itT, i_itL, isND_non, isND_str, isND_tup, isND_lst, isND_int, isND_bl, calm_ok, all_map, any_map, op_add, op_sub, n_ok, Bool.not_true, Bool.not_false, decide_true, decide_false]
  rw [r_letters_of _ _ (isNm_4000 h)]
  simp only [x_pass, x_seq, x_set, x_ex, x_ret, x_ife, x_fr, x_wh, x_brk, x_rz, e_k, e_v, e_o, e_nil, e_cons, e_tup, e_lst, e_dct, e_op, e_neg, e_not, e_cm, e_ch, e_and, e_or, e_ife, e_ix, e_sl, e_rev, e_b1, e_b2, e_b3, e_call, e_pick, e_isx, e_it, e_rg1, e_rg2, e_enum, e_zip, e_zips, e_items, e_lc, e_lc2, e_dc, e_dc2, g_0, g_s, s_0, s_s, sl_sh, so_l, so_d, k_ok, k_rz, out_ok, out_rz, endR_nx, endR_rt, endR_rz, then_nx, then_rt, then_rz, then_bk, b_bl, l_lst, t_one, t_two, w_one, w_two, two_tup, Bool.false_eq_true, ↓reduceIte, wT_f, i_len_str, i_len_lst, i_len_tup, i_eqI, i_neI, i_ltI, i_leI, i_gtI, i_geI, i_isN, i_nisN, i_isB, i_nisB, i_inS, i_ninS, i_itS, i_itT, i_itL, isND_non, isND_str, isND_tup, isND_lst, isND_int, isND_bl, calm_ok, all_map, any_map, op_add, op_sub, n_ok, Bool.not_true, Bool.not_false, decide_true, decide_false]
theorem idxOf_is (c : Nat) : ∀ (x : List Nat) (n : Nat), c ∈ x → idxOf (· == c) x n = some (n + x.idxOf c)
  | [], _, h => by simp at h
  | y :: r, n, h => by
    rw [idxOf, List.idxOf_cons]
    by_cases e : y = c
    · subst e; simp
    · have e2 : (y == c) = false := beq_eq_false_iff_ne.mpr e
      rw [e2]
      simp only [Bool.false_eq_true, ↓reduceIte, cond_false]
      rw [idxOf_is c r (n + 1) (by
        rcases List.mem_cons.mp h with h | h
        · exact absurd h.symm e
        · exact h)]
      congr 1
      omega
theorem i_index {x : List Nat} {c : Nat} (h : c ∈ x) : b2R .index (.str x) (.str [c]) = .ok (.int (x.idxOf c)) := by
  show (match idxOf (· == c) x 0 with
    | some n => R.ok (D.int n)
    | none => .no) = _
  rw [idxOf_is c x 0 h]
  simp
theorem i_recv_index (x : List Nat) : recv2 .index (.str x) = true := opq rfl
theorem r_place (n : Nat) (x : List Nat) (c : Nat) (h : isNm x = true) (hc : c ∈ az) : run TT (n + 3) 11 [.str x, .str [c]] = .ok (if c ∈ x then .int (x.idxOf c) else .non) := by
  rw [runT (fd := fd11) rfl rfl rfl rfl]
  show endR (exec (wT (n + 2)) c11 [.sh (.str x), .sh (.str [c])]) = _
  simp only [c11, x_pass, x_seq, x_set, x_ex, x_ret, x_ife, x_fr, x_wh, x_brk, x_rz, e_k, e_v, e_o, e_nil, e_cons, e_tup, e_lst, e_dct, e_op, e_neg, e_not, e_cm, e_ch, e_and, e_or, e_ife, e_ix, e_sl, e_rev, e_b1, e_b2, e_b3, e_call, e_pick, e_isx, e_it, e_rg1, e_rg2, e_enum, e_zip, e_zips, e_items, e_lc, e_lc2, e_dc, e_dc2, g_0, g_s, s_0, s_s, sl_sh, so_l, so_d, k_ok, k_rz, out_ok, out_rz, endR_nx, endR_rt, endR_rz, then_nx, then_rt, then_rz, then_bk, b_bl, l_lst, t_one, t_two, w_one, w_two, two_tup, Bool.false_eq_true, ↓reduceIte, wT_f, i_len_str, i_len_lst, i_len_tup, i_eqI, i_neI, i_ltI, i_leI, i_gtI, i_geI, i_isN, i_nisN, i_isB, i_nisB, i_inS, i_ninS, i_itS, i_itT, i_itL, isND_non, isND_str, isND_tup, isND_lst, isND_int, isND_bl, calm_ok, all_map, any_map, op_add, op_sub, n_ok, Bool.not_true, Bool.not_false, decide_true, decide_false]
  rw [r_check_name n _ (dat_str x), show isNmD (.str x) = isNm x from rfl, h]
  simp only [x_pass, x_seq, x_set, x_ex, x_ret, x_ife, x_fr, x_wh, x_brk, x_rz, e_k, e_v, e_o, e_nil, e_cons, e_tup, e_lst, e_dct, e_op, e_neg, e_not, e_cm, e_ch, e_and, e_or, e_ife, e_ix, e_sl, e_rev, e_b1, e_b2, e_b3, e_call, e_pick, e_isx, e_it, e_rg1, e_rg2, e_enum, e_zip, e_zips, e_items, e_lc, e_lc2, e_dc, e_dc2, g_0, g_s, s_0, s_s, sl_sh, so_l, so_d, k_ok, k_rz, out_ok, out_rz, endR_nx, endR_rt, endR_rz, then_nx, then_rt, then_rz, then_bk, b_bl, l_lst, t_one, t_two, w_one, w_two, two_tup, Bool.false_eq_true, ↓reduceIte, wT_f, i_len_str, i_len_lst, i_len_tup, i_eqI, i_neI, i_ltI, i_leI, i_gtI, i_geI, i_isN, i_nisN, i_isB, i_nisB, i_inS, i_ninS, i_itS, i_itT, i_itL, isND_non, isND_str, isND_tup, isND_lst, isND_int, isND_bl, calm_ok, all_map, any_map, op_add, op_sub, n_ok, Bool.not_true, Bool.not_false, decide_true, decide_false]
  rw [r_is_letter _ _ (dat_str _)]
  simp only [isLet, decide_eq_true hc, x_pass, x_seq, x_set, x_ex, x_ret, x_ife, x_fr, x_wh, x_brk, x_rz, e_k, e_v, e_o, e_nil, e_cons, e_tup, e_lst, e_dct, e_op, e_neg, e_not, e_cm, e_ch, e_and, e_or, e_ife, e_ix, e_sl, e_rev, e_b1, e_b2, e_b3, e_call, e_pick, e_isx, e_it, e_rg1, e_rg2, e_enum, e_zip, e_zips, e_items, e_lc, e_lc2, e_dc, e_dc2, g_0, g_s, s_0, s_s, sl_sh, so_l, so_d, k_ok, k_rz, out_ok, out_rz, endR_nx, endR_rt, endR_rz, then_nx, then_rt, then_rz, then_bk, b_bl, l_lst, t_one, t_two, w_one, w_two, two_tup, Bool.false_eq_true, ↓reduceIte, wT_f, i_len_str, i_len_lst, i_len_tup, i_eqI, i_neI, i_ltI, i_leI, i_gtI, i_geI, i_isN, i_nisN, i_isB, i_nisB, i_inS, i_ninS, i_itS, i_itT, i_itL, isND_non, isND_str, isND_tup, isND_lst, isND_int, isND_bl, calm_ok, all_map, any_map, op_add, op_sub, n_ok, Bool.not_true, Bool.not_false, decide_true, decide_false, i_recv_index]
  by_cases hx : c ∈ x
  · simp only [decide_eq_true hx, if_pos hx, x_pass, x_seq, x_set, x_ex, x_ret, x_ife, x_fr, x_wh, x_brk, x_rz, e_k, e_v, e_o, e_nil, e_cons, e_tup, e_lst, e_dct, e_op, e_neg, e_not, e_cm, e_ch, e_and, e_or, e_ife, e_ix, e_sl, e_rev, e_b1, e_b2, e_b3, e_call, e_pick, e_isx, e_it, e_rg1, e_rg2, e_enum, e_zip, e_zips, e_items, e_lc, e_lc2, e_dc, e_dc2, g_0, g_s, s_0, s_s, sl_sh, so_l, so_d, k_ok, k_rz, out_ok, out_rz, endR_nx, endR_rt, endR_rz, then_nx, then_rt, then_rz, then_bk, b_bl, l_lst, t_one, t_two, w_one, w_two, two_tup, Bool.false_eq_true, ↓reduceIte, wT_f, i_len_str, i_len_lst, i_len_tup, i_eqI, i_neI, i_ltI, i_leI, i_gtI, i_geI, i_isN, i_nisN, i_isB, i_nisB, i_inS, i_ninS, i_itS, i_itT, i_itL, isND_non, isND_str, isND_tup, isND_lst, isND_int, isND_bl, calm_ok, all_map, any_map, op_add, op_sub, n_ok, Bool.not_true, Bool.not_false, decide_true, decide_false, i_index hx]
  · simp only [decide_eq_false hx, if_neg hx, x_pass, x_seq, x_set, x_ex, x_ret, x_ife, x_fr, x_wh, x_brk, x_rz, e_k, e_v, e_o, e_nil, e_cons, e_tup, e_lst, e_dct, e_op, e_neg, e_not, e_cm, e_ch, e_and, e_or, e_ife, e_ix, e_sl, e_rev, e_b1, e_b2, e_b3, e_call, e_pick, e_isx, e_it, e_rg1, e_rg2, e_enum, e_zip, e_zips, e_items, e_lc, e_lc2, e_dc, e_dc2, g_0, g_s, s_0, s_s, sl_sh, so_l, so_d, k_ok, k_rz, out_ok, out_rz, endR_nx, endR_rt, endR_rz, then_nx, then_rt, then_rz, then_bk, b_bl, l_lst, t_one, t_two, w_one, w_two, two_tup, Bool.false_eq_true, ↓reduceIte, wT_f, i_len_str, i_len_lst, i_len_tup, i_eqI, i_neI, i_ltI, i_leI, i_gtI, i_geI, i_isN, i_nisN, i_isB, i_nisB, i_inS, i_ninS, i_itS, i_itT, i_itL, isND_non, isND_str, isND_tup, isND_lst, isND_int, isND_bl, calm_ok, all_map, any_map, op_add, op_sub, n_ok, Bool.not_true, Bool.not_false, decide_true, decide_false]
/-! ### assignments -/
def oD : Option Nat → D
  | none => .non
  | some c => .str [c]
def aD (a : List (Option Nat)) : D := .tup (a.map oD)
theorem dat_oD (o : Option Nat) (n : Nat) : (oD o).dat n = true := by cases o <;> simp [oD, D.dat]
theorem dat_aD (a : List (Option Nat)) : Dat (aD a) := by simp [Dat, aD, D.dat, dat_oD]
structure IsA (M : List (List Nat)) (a : List (Option Nat)) : Prop where
  len : a.length = M.length
  fit : ∀ p ∈ M.zip a, ∀ c, p.2 = some c → c ∈ az ∧ c ∈ p.1
  nd : (a.filterMap id).Nodup
theorem hasA_iff {M : List (List Nat)} {a : List (Option Nat)} : hasA M (aD a) = true ↔ IsA M a := by
  have e1 : ∀ (M : List (List Nat)) (a : List (Option Nat)), ((M.zip (a.map oD)).all fun p => fitsB p.1 p.2) = true ↔ ∀ p ∈ M.zip a, ∀ c, p.2 = some c → c ∈ az ∧ c ∈ p.1 := by
    intro M a
    rw [List.zip_map_right, List.all_map, List.all_eq_true]
    refine forall_congr' fun p => forall_congr' fun _ => ?_
    obtain ⟨x, o⟩ := p
    cases o with
    | none => simp [oD, fitsB]
    | some c => simp [oD, fitsB]
  have e2 : ∀ a : List (Option Nat), (a.map oD).filterMap strOf = (a.filterMap id).map fun c => [c] := by
    intro a
    induction a with
    | nil => rfl
    | cons o r ih => cases o <;> simp [oD, strOf, ih, List.filterMap_cons]
  unfold hasA aD
  simp only [Bool.and_eq_true, decide_eq_true_eq, List.length_map, e1, e2]
  have e3 : ((a.filterMap id).map fun c => [c]).Nodup ↔ (a.filterMap id).Nodup := by
    rw [List.nodup_iff_pairwise_ne, List.nodup_iff_pairwise_ne, List.pairwise_map]
    refine ⟨fun h => h.imp fun h e => h (by rw [e]), fun h => h.imp fun h e => h (by cases e; rfl)⟩
  rw [e3]
  exact ⟨fun h => ⟨h.1.1, h.1.2, h.2⟩, fun h => ⟨⟨h.len, h.fit⟩, h.nd⟩⟩
theorem hasA_of {M : List (List Nat)} {a : List (Option Nat)} (h : IsA M a) : hasA M (aD a) = true := hasA_iff.mpr h
/-- the cost -/
def cst (p : List Nat × Option Nat) : Int := match p.2 with
  | some c => (p.1.idxOf c : Int)
  | none => 0
def costA (M : List (List Nat)) (a : List (Option Nat)) : Int := ((M.zip a).map cst).sum
theorem zip_mD (M : List (List Nat)) (a : List (Option Nat)) : zipC (mD M) (aD a) = .ok (.lst ((M.zip a).map fun p => .tup [.str p.1, oD p.2])) := by
  unfold aD
  rw [zip_tup, List.zip_map_right, List.map_map]
  rfl
theorem isND_oD (o : Option Nat) : isND (oD o) = o.isNone := by cases o <;> rfl
theorem sum_some {α : Type} (f : α → Option Int) : ∀ xs : List α, (xs.filterMap f).sum = (xs.map fun x => (f x).getD 0).sum
  | [] => rfl
  | x :: r => by
    have := sum_some f r
    cases h : f x <;> simp [h, this]
theorem i_sum_lst {ns : List Int} : b1R .sum (.lst (ns.map .int)) = .ok (.int ns.sum) := by
  show (match intsD (ns.map .int) with
    | some ns => R.ok (D.int ns.sum)
    | none => .no) = _
  have := intsD_map id ns
  simp only [id] at this
  rw [this, List.map_id]
theorem r_cost_of (n : Nat) (M : List (List Nat)) (a : List (Option Nat)) (h : IsA M a) : run TT (n + 1) 12 [mD M, aD a] = .ok (.int (costA M a)) := by
  rw [runT (fd := fd12) rfl rfl rfl rfl]
  show endR (exec (wT n) c12 [.sh (mD M), .sh (aD a), .no, .no]) = _
  simp only [c12, x_pass, x_seq, x_set, x_ex, x_ret, x_ife, x_fr, x_wh, x_brk, x_rz, e_k, e_v, e_o, e_nil, e_cons, e_tup, e_lst, e_dct, e_op, e_neg, e_not, e_cm, e_ch, e_and, e_or, e_ife, e_ix, e_sl, e_rev, e_b1, e_b2, e_b3, e_call, e_pick, e_isx, e_it, e_rg1, e_rg2, e_enum, e_zip, e_zips, e_items, e_lc, e_lc2, e_dc, e_dc2, g_0, g_s, s_0, s_s, sl_sh, so_l, so_d, k_ok, k_rz, out_ok, out_rz, endR_nx, endR_rt, endR_rz, then_nx, then_rt, then_rz, then_bk, b_bl, l_lst, t_one, t_two, w_one, w_two, two_tup, Bool.false_eq_true, ↓reduceIte, wT_f, i_len_str, i_len_lst, i_len_tup, i_eqI, i_neI, i_ltI, i_leI, i_gtI, i_geI, i_isN, i_nisN, i_isB, i_nisB, i_inS, i_ninS, i_itS, i_itT, i_itL, isND_non, isND_str, isND_tup, isND_lst, isND_int, isND_bl, calm_ok, all_map, any_map, op_add, op_sub, n_ok, Bool.not_true, Bool.not_false, decide_true, decide_false, zip_mD]
  rw [lcR_map (e := fun p : List Nat × Option Nat => D.tup [.str p.1, oD p.2]) (g := fun p => (match p.2 with
    | some c => some (.int (p.1.idxOf c))
    | none => none)) fun p hp => by
    obtain ⟨x, o⟩ := p
    cases o with
    | none => simp only [x_pass, x_seq, x_set, x_ex, x_ret, x_ife, x_fr, x_wh, x_brk, x_rz, e_k, e_v, e_o, e_nil, e_cons, e_tup, e_lst, e_dct, e_op, e_neg, e_not, e_cm, e_ch, e_and, e_or, e_ife, e_ix, e_sl, e_rev, e_b1, e_b2, e_b3, e_call, e_pick, e_isx, e_it, e_rg1, e_rg2, e_enum, e_zip, e_zips, e_items, e_lc, e_lc2, e_dc, e_dc2, g_0, g_s, s_0, s_s, sl_sh, so_l, so_d, k_ok, k_rz, out_ok, out_rz, endR_nx, endR_rt, endR_rz, then_nx, then_rt, then_rz, then_bk, b_bl, l_lst, t_one, t_two, w_one, w_two, two_tup, Bool.false_eq_true, ↓reduceIte, wT_f, i_len_str, i_len_lst, i_len_tup, i_eqI, i_neI, i_ltI, i_leI, i_gtI, i_geI, i_isN, i_nisN, i_isB, i_nisB, i_inS, i_ninS, i_itS, i_itT, i_itL, isND_non, isND_str, isND_tup, isND_lst, isND_int, isND_bl, calm_ok, all_map, any_map, op_add, op_sub, n_ok, Bool.not_true, Bool.not_false, decide_true, decide_false, oD]
    | some c =>
      simp only [x_pass, x_seq, x_set, x_ex, x_ret, x_ife, x_fr, x_wh, x_brk, x_rz, e_k, e_v, e_o, e_nil, e_cons, e_tup, e_lst, e_dct, e_op, e_neg, e_not, e_cm, e_ch, e_and, e_or, e_ife, e_ix, e_sl, e_rev, e_b1, e_b2, e_b3, e_call, e_pick, e_isx, e_it, e_rg1, e_rg2, e_enum, e_zip, e_zips, e_items, e_lc, e_lc2, e_dc, e_dc2, g_0, g_s, s_0, s_s, sl_sh, so_l, so_d, k_ok, k_rz, out_ok, out_rz, endR_nx, endR_rt, endR_rz, then_nx, then_rt, then_rz, then_bk, b_bl, l_lst, t_one, t_two, w_one, w_two, two_tup, Bool.false_eq_true, ↓reduceIte, wT_f, i_len_str, i_len_lst, i_len_tup, i_eqI, i_neI, i_ltI, i_leI, i_gtI, i_geI, i_isN, i_nisN, i_isB, i_nisB, i_inS, i_ninS, i_itS, i_itT, i_itL, isND_non, isND_str, isND_tup, isND_lst, isND_int, isND_bl, calm_ok, all_map, any_map, op_add, op_sub, n_ok, Bool.not_true, Bool.not_false, decide_true, decide_false, oD, i_recv_index, i_index (h.fit _ hp c rfl).2]]
  simp only [x_pass, x_seq, x_set, x_ex, x_ret, x_ife, x_fr, x_wh, x_brk, x_rz, e_k, e_v, e_o, e_nil, e_cons, e_tup, e_lst, e_dct, e_op, e_neg, e_not, e_cm, e_ch, e_and, e_or, e_ife, e_ix, e_sl, e_rev, e_b1, e_b2, e_b3, e_call, e_pick, e_isx, e_it, e_rg1, e_rg2, e_enum, e_zip, e_zips, e_items, e_lc, e_lc2, e_dc, e_dc2, g_0, g_s, s_0, s_s, sl_sh, so_l, so_d, k_ok, k_rz, out_ok, out_rz, endR_nx, endR_rt, endR_rz, then_nx, then_rt, then_rz, then_bk, b_bl, l_lst, t_one, t_two, w_one, w_two, two_tup, Bool.false_eq_true, ↓reduceIte, wT_f, i_len_str, i_len_lst, i_len_tup, i_eqI, i_neI, i_ltI, i_leI, i_gtI, i_geI, i_isN, i_nisN, i_isB, i_nisB, i_inS, i_ninS, i_itS, i_itT, i_itL, isND_non, isND_str, isND_tup, isND_lst, isND_int, isND_bl, calm_ok, all_map, any_map, op_add, op_sub, n_ok, Bool.not_true, Bool.not_false, decide_true, decide_false]
  have e : ((M.zip a).filterMap fun p => (match p.2 with
    | some c => some (D.int (p.1.idxOf c))
    | none => none)) = ((M.zip a).filterMap fun p => p.2.map fun c => (p.1.idxOf c : Int)).map .int := by
    rw [List.map_filterMap]
    congr 1
    funext p
    cases p.2 <;> rfl
  rw [e, i_sum_lst]
  simp only [x_pass, x_seq, x_set, x_ex, x_ret, x_ife, x_fr, x_wh, x_brk, x_rz, e_k, e_v, e_o, e_nil, e_cons, e_tup, e_lst, e_dct, e_op, e_neg, e_not, e_cm, e_ch, e_and, e_or, e_ife, e_ix, e_sl, e_rev, e_b1, e_b2, e_b3, e_call, e_pick, e_isx, e_it, e_rg1, e_rg2, e_enum, e_zip, e_zips, e_items, e_lc, e_lc2, e_dc, e_dc2, g_0, g_s, s_0, s_s, sl_sh, so_l, so_d, k_ok, k_rz, out_ok, out_rz, endR_nx, endR_rt, endR_rz, then_nx, then_rt, then_rz, then_bk, b_bl, l_lst, t_one, t_two, w_one, w_two, two_tup, Bool.false_eq_true, ↓reduceIte, wT_f, i_len_str, i_len_lst, i_len_tup, i_eqI, i_neI, i_ltI, i_leI, i_gtI, i_geI, i_isN, i_nisN, i_isB, i_nisB, i_inS, i_ninS, i_itS, i_itT, i_itL, isND_non, isND_str, isND_tup, isND_lst, isND_int, isND_bl, calm_ok, all_map, any_map, op_add, op_sub, n_ok, Bool.not_true, Bool.not_false, decide_true, decide_false, sum_some, costA]
  congr 5
  funext p
  obtain ⟨x, o⟩ := p
  cases o <;> rfl
def sizeA (a : List (Option Nat)) : Nat := (a.filter Option.isSome).length
theorem somes_oD (a : List (Option Nat)) : ((a.map oD).filter fun x => !isND x) = (a.filter Option.isSome).map oD := by
  induction a with
  | nil => rfl
  | cons o r ih => cases o <;> simp [oD, ih, List.filter_cons, isND_non, isND_str]
theorem r_size (n : Nat) (M : List (List Nat)) (a : List (Option Nat)) (hM : isMn M = true) (h : IsA M a) : run TT (n + 5) 13 [mD M, aD a] = .ok (.int (sizeA a)) := by
  rw [runT (fd := fd13) rfl rfl rfl rfl]
  show endR (exec (wT (n + 4)) c13 [.sh (mD M), .sh (aD a), .no]) = _
  simp only [c13, x_pass, x_seq, x_set, x_ex, x_ret, x_ife, x_fr, x_wh, x_brk, x_rz, e_k, e_v, e_o, e_nil, e_cons, e_tup, e_lst, e_dct, e_op, e_neg, e_not, e_cm, e_ch, e_and, e_or, e_ife, e_ix, e_sl, e_rev, e_b1, e_b2, e_b3, e_call, e_pick, e_isx, e_it, e_rg1, e_rg2, e_enum, e_zip, e_zips, e_items, e_lc, e_lc2, e_dc, e_dc2, g_0, g_s, s_0, s_s, sl_sh, so_l, so_d, k_ok, k_rz, out_ok, out_rz, endR_nx, endR_rt, endR_rz, then_nx, then_rt, then_rz, then_bk, b_bl, l_lst, t_one, t_two, w_one, w_two, two_tup, Bool.false_eq_true, ↓reduceIte, wT_f, i_len_str, i_len_lst, i_len_tup, i_eqI, i_neI, i_ltI, i_leI, i_gtI, i_geI, i_isN, i_nisN, i_isB, i_nisB, i_inS, i_ninS, i_itS, i_itT, i_itL, isND_non, isND_str, isND_tup, isND_lst, isND_int, isND_bl, calm_ok, all_map, any_map, op_add, op_sub, n_ok, Bool.not_true, Bool.not_false, decide_true, decide_false]
  rw [r_check_menu _ _ (dat_mD M), isMnD_mD, hM]
  simp only [x_pass, x_seq, x_set, x_ex, x_ret, x_ife, x_fr, x_wh, x_brk, x_rz, e_k, e_v, e_o, e_nil, e_cons, e_tup, e_lst, e_dct, e_op, e_neg, e_not, e_cm, e_ch, e_and, e_or, e_ife, e_ix, e_sl, e_rev, e_b1, e_b2, e_b3, e_call, e_pick, e_isx, e_it, e_rg1, e_rg2, e_enum, e_zip, e_zips, e_items, e_lc, e_lc2, e_dc, e_dc2, g_0, g_s, s_0, s_s, sl_sh, so_l, so_d, k_ok, k_rz, out_ok, out_rz, endR_nx, endR_rt, endR_rz, then_nx, then_rt, then_rz, then_bk, b_bl, l_lst, t_one, t_two, w_one, w_two, two_tup, Bool.false_eq_true, ↓reduceIte, wT_f, i_len_str, i_len_lst, i_len_tup, i_eqI, i_neI, i_ltI, i_leI, i_gtI, i_geI, i_isN, i_nisN, i_isB, i_nisB, i_inS, i_ninS, i_itS, i_itT, i_itL, isND_non, isND_str, isND_tup, isND_lst, isND_int, isND_bl, calm_ok, all_map, any_map, op_add, op_sub, n_ok, Bool.not_true, Bool.not_false, decide_true, decide_false]
  rw [r_check_assignment _ M _ (dat_aD a) (isMn_len hM), hasA_of h]
  simp only [x_pass, x_seq, x_set, x_ex, x_ret, x_ife, x_fr, x_wh, x_brk, x_rz, e_k, e_v, e_o, e_nil, e_cons, e_tup, e_lst, e_dct, e_op, e_neg, e_not, e_cm, e_ch, e_and, e_or, e_ife, e_ix, e_sl, e_rev, e_b1, e_b2, e_b3, e_call, e_pick, e_isx, e_it, e_rg1, e_rg2, e_enum, e_zip, e_zips, e_items, e_lc, e_lc2, e_dc, e_dc2, g_0, g_s, s_0, s_s, sl_sh, so_l, so_d, k_ok, k_rz, out_ok, out_rz, endR_nx, endR_rt, endR_rz, then_nx, then_rt, then_rz, then_bk, b_bl, l_lst, t_one, t_two, w_one, w_two, two_tup, Bool.false_eq_true, ↓reduceIte, wT_f, i_len_str, i_len_lst, i_len_tup, i_eqI, i_neI, i_ltI, i_leI, i_gtI, i_geI, i_isN, i_nisN, i_isB, i_nisB, i_inS, i_ninS, i_itS, i_itT, i_itL, isND_non, isND_str, isND_tup, isND_lst, isND_int, isND_bl, calm_ok, all_map, any_map, op_add, op_sub, n_ok, Bool.not_true, Bool.not_false, decide_true, decide_false, aD]
  rw [lcR_ifI (p := fun x => !isND x) (g := fun x => x) fun x _ => rfl, List.map_id']
  simp only [x_pass, x_seq, x_set, x_ex, x_ret, x_ife, x_fr, x_wh, x_brk, x_rz, e_k, e_v, e_o, e_nil, e_cons, e_tup, e_lst, e_dct, e_op, e_neg, e_not, e_cm, e_ch, e_and, e_or, e_ife, e_ix, e_sl, e_rev, e_b1, e_b2, e_b3, e_call, e_pick, e_isx, e_it, e_rg1, e_rg2, e_enum, e_zip, e_zips, e_items, e_lc, e_lc2, e_dc, e_dc2, g_0, g_s, s_0, s_s, sl_sh, so_l, so_d, k_ok, k_rz, out_ok, out_rz, endR_nx, endR_rt, endR_rz, then_nx, then_rt, then_rz, then_bk, b_bl, l_lst, t_one, t_two, w_one, w_two, two_tup, Bool.false_eq_true, ↓reduceIte, wT_f, i_len_str, i_len_lst, i_len_tup, i_eqI, i_neI, i_ltI, i_leI, i_gtI, i_geI, i_isN, i_nisN, i_isB, i_nisB, i_inS, i_ninS, i_itS, i_itT, i_itL, isND_non, isND_str, isND_tup, isND_lst, isND_int, isND_bl, calm_ok, all_map, any_map, op_add, op_sub, n_ok, Bool.not_true, Bool.not_false, decide_true, decide_false, somes_oD, List.length_map, sizeA]
theorem r_cost (n : Nat) (M : List (List Nat)) (a : List (Option Nat)) (hM : isMn M = true) (h : IsA M a) : run TT (n + 5) 14 [mD M, aD a] = .ok (.int (costA M a)) := by
  rw [runT (fd := fd14) rfl rfl rfl rfl]
  show endR (exec (wT (n + 4)) c14 [.sh (mD M), .sh (aD a)]) = _
  simp only [c14, x_pass, x_seq, x_set, x_ex, x_ret, x_ife, x_fr, x_wh, x_brk, x_rz, e_k, e_v, e_o, e_nil, e_cons, e_tup, e_lst, e_dct, e_op, e_neg, e_not, e_cm, e_ch, e_and, e_or, e_ife, e_ix, e_sl, e_rev, e_b1, e_b2, e_b3, e_call, e_pick, e_isx, e_it, e_rg1, e_rg2, e_enum, e_zip, e_zips, e_items, e_lc, e_lc2, e_dc, e_dc2, g_0, g_s, s_0, s_s, sl_sh, so_l, so_d, k_ok, k_rz, out_ok, out_rz, endR_nx, endR_rt, endR_rz, then_nx, then_rt, then_rz, then_bk, b_bl, l_lst, t_one, t_two, w_one, w_two, two_tup, Bool.false_eq_true, ↓reduceIte, wT_f, i_len_str, i_len_lst, i_len_tup, i_eqI, i_neI, i_ltI, i_leI, i_gtI, i_geI, i_isN, i_nisN, i_isB, i_nisB, i_inS, i_ninS, i_itS, i_itT, i_itL, isND_non, isND_str, isND_tup, isND_lst, isND_int, isND_bl, calm_ok, all_map, any_map, op_add, op_sub, n_ok, Bool.not_true, Bool.not_false, decide_true, decide_false]
  rw [r_check_menu _ _ (dat_mD M), isMnD_mD, hM]
  simp only [x_pass, x_seq, x_set, x_ex, x_ret, x_ife, x_fr, x_wh, x_brk, x_rz, e_k, e_v, e_o, e_nil, e_cons, e_tup, e_lst, e_dct, e_op, e_neg, e_not, e_cm, e_ch, e_and, e_or, e_ife, e_ix, e_sl, e_rev, e_b1, e_b2, e_b3, e_call, e_pick, e_isx, e_it, e_rg1, e_rg2, e_enum, e_zip, e_zips, e_items, e_lc, e_lc2, e_dc, e_dc2, g_0, g_s, s_0, s_s, sl_sh, so_l, so_d, k_ok, k_rz, out_ok, out_rz, endR_nx, endR_rt, endR_rz, then_nx, then_rt, then_rz, then_bk, b_bl, l_lst, t_one, t_two, w_one, w_two, two_tup, Bool.false_eq_true, ↓reduceIte, wT_f, i_len_str, i_len_lst, i_len_tup, i_eqI, i_neI, i_ltI, i_leI, i_gtI, i_geI, i_isN, i_nisN, i_isB, i_nisB, i_inS, i_ninS, i_itS, i_itT, i_itL, isND_non, isND_str, isND_tup, isND_lst, isND_int, isND_bl, calm_ok, all_map, any_map, op_add, op_sub, n_ok, Bool.not_true, Bool.not_false, decide_true, decide_false]
  rw [r_check_assignment _ M _ (dat_aD a) (isMn_len hM), hasA_of h]
  simp only [x_pass, x_seq, x_set, x_ex, x_ret, x_ife, x_fr, x_wh, x_brk, x_rz, e_k, e_v, e_o, e_nil, e_cons, e_tup, e_lst, e_dct, e_op, e_neg, e_not, e_cm, e_ch, e_and, e_or, e_ife, e_ix, e_sl, e_rev, e_b1, e_b2, e_b3, e_call, e_pick, e_isx, e_it, e_rg1, e_rg2, e_enum, e_zip, e_zips, e_items, e_lc, e_lc2, e_dc, e_dc2, g_0, g_s, s_0, s_s, sl_sh, so_l, so_d, k_ok, k_rz, out_ok, out_rz, endR_nx, endR_rt, endR_rz, then_nx, then_rt, then_rz, then_bk, b_bl, l_lst, t_one, t_two, w_one, w_two, two_tup, Bool.false_eq_true, ↓reduceIte, wT_f, i_len_str, i_len_lst, i_len_tup, i_eqI, i_neI, i_ltI, i_leI, i_gtI, i_geI, i_isN, i_nisN, i_isB, i_nisB, i_inS, i_ninS, i_itS, i_itT, i_itL, isND_non, isND_str, isND_tup, isND_lst, isND_int, isND_bl, calm_ok, all_map, any_map, op_add, op_sub, n_ok, Bool.not_true, Bool.not_false, decide_true, decide_false]
  rw [r_cost_of _ _ _ h]
  simp only [x_pass, x_seq, x_set, x_ex, x_ret, x_ife, x_fr, x_wh, x_brk, x_rz, e_k, e_v, e_o, e_nil, e_cons, e_tup, e_lst, e_dct, e_op, e_neg, e_not, e_cm, e_ch, e_and, e_or, e_ife, e_ix, e_sl, e_rev, e_b1, e_b2, e_b3, e_call, e_pick, e_isx, e_it, e_rg1, e_rg2, e_enum, e_zip, e_zips, e_items, e_lc, e_lc2, e_dc, e_dc2, g_0, g_s, s_0, s_s, sl_sh, so_l, so_d, k_ok, k_rz, out_ok, out_rz, endR_nx, endR_rt, endR_rz, then_nx, then_rt, then_rz, then_bk, b_bl, l_lst, t_one, t_two, w_one, w_two, two_tup, Bool.false_eq_true, ↓reduceIte, wT_f, i_len_str, i_len_lst, i_len_tup, i_eqI, i_neI, i_ltI, i_leI, i_gtI, i_geI, i_isN, i_nisN, i_isB, i_nisB, i_inS, i_ninS, i_itS, i_itT, i_itL, isND_non, isND_str, isND_tup, isND_lst, isND_int, isND_bl, calm_ok, all_map, any_map, op_add, op_sub, n_ok, Bool.not_true, Bool.not_false, decide_true, decide_false]
end Mip

set_option linter.all false
set_option maxRecDepth 100000
/-! plain 6: greedy; drawn menus; all partial assignments -/
namespace Mip
open Mi
theorem LIM_eq : LIM = 16777216 := rfl
theorem i_mkT {xs : List D} (h : xs.length ≤ 16777216) : mkT xs = .ok (.tup xs) := by
  unfold mkT; rw [LIM_eq, if_pos h]
theorem i_mkL {xs : List D} (h : xs.length ≤ 16777216) : mkL xs = .ok (.lst xs) := by
  unfold mkL; rw [LIM_eq, if_pos h]
theorem i_mkS {xs : List Nat} (h : xs.length ≤ 16777216) : mkS xs = .ok (.str xs) := by
  unfold mkS; rw [LIM_eq, if_pos h]
theorem i_mkT0 : mkT [] = .ok (.tup []) := opq rfl
theorem i_mkT1 (a : D) : mkT [a] = .ok (.tup [a]) := opq rfl
theorem i_mkT2 (a b : D) : mkT [a, b] = .ok (.tup [a, b]) := opq rfl
theorem i_mkL0 : mkL [] = .ok (.lst []) := opq rfl
theorem i_mkL1 (a : D) : mkL [a] = .ok (.lst [a]) := opq rfl
theorem i_mkL2 (a b : D) : mkL [a, b] = .ok (.lst [a, b]) := opq rfl
theorem i_addT (x y : List D) : opR .add (.tup x) (.tup y) = mkT (x ++ y) := opq rfl
theorem i_addL (x y : List D) : opR .add (.lst x) (.lst y) = mkL (x ++ y) := opq rfl
theorem i_addS (x y : List Nat) : opR .add (.str x) (.str y) = mkS (x ++ y) := opq rfl
theorem inSeq_oD (c : Nat) (a : List (Option Nat)) : inSeq (.str [c]) (a.map oD) = decide (some c ∈ a) := by
  unfold inSeq
  rw [List.any_map]
  induction a with
  | nil => rfl
  | cons o r ih =>
    rw [List.any_cons, ih]
    cases o with
    | none => simp [oD, D.eqv]
    | some d =>
      simp only [Function.comp_apply, oD, D.eqv, List.mem_cons, Option.some.injEq]
      by_cases e : d = c
      · subst e; simp
      · have : ¬ c = d := fun z => e z.symm
        simp [e, this]
theorem flat_oD (a : List (Option Nat)) : (a.map oD).all D.flat = true := by
  rw [List.all_eq_true]
  intro x hx
  obtain ⟨o, _, rfl⟩ := List.mem_map.mp hx
  cases o <;> rfl
theorem i_inA (c : Nat) (a : List (Option Nat)) : cmR .inn (.str [c]) (aD a) = .ok (decide (some c ∈ a)) := by
  show (if (D.str [c]).flat && (a.map oD).all D.flat then R.ok (inSeq (.str [c]) (a.map oD)) else .no) = _
  rw [flat_oD, inSeq_oD]
  rfl
theorem i_ninA (c : Nat) (a : List (Option Nat)) : cmR .nin (.str [c]) (aD a) = .ok (!decide (some c ∈ a)) := by
  show neg (cmR .inn (.str [c]) (aD a)) = _
  rw [i_inA]; rfl
theorem aD_app (a : List (Option Nat)) (o : Option Nat) : a.map oD ++ [oD o] = (a ++ [o]).map oD := by simp
/-- the letters that are left -/
def lft (x : List Nat) (f : List (Option Nat)) : List Nat := x.filter fun c => !decide (some c ∈ f)
def grdS (f : List (Option Nat)) (x : List Nat) : List (Option Nat) := f ++ [(lft x f).head?]
def grd (M : List (List Nat)) : List (Option Nat) := M.foldl grdS []
theorem grd_snoc (M : List (List Nat)) (x : List Nat) : grd (M ++ [x]) = grd M ++ [(lft x (grd M)).head?] := by
  unfold grd
  rw [List.foldl_append]; rfl
theorem grd_len (M : List (List Nat)) : (grd M).length = M.length := by
  have : ∀ (M : List (List Nat)) f, (M.foldl grdS f).length = f.length + M.length := by
    intro M
    induction M with
    | nil => intro f; rfl
    | cons x r ih => intro f; rw [List.foldl_cons, ih]; simp [grdS]; omega
  rw [grd, this]; simp
theorem ne_nil_D (l : List D) (h : Dat (.lst l)) : cmR .ne (.lst l) (.lst []) = .ok (!l.isEmpty) := by
  rw [i_ne h (by simp [Dat, D.dat])]
  cases l <;> simp [D.eqv, eqvs]
theorem dat_ch (x : List Nat) : Dat (.lst (x.map fun c => .str [c])) := by simp [Dat, D.dat]
theorem atI_head {α : Type} (l : List α) : atI l 0 = l.head? := by
  cases l <;> simp [atI, ixN]
theorem i_ixL0 (l : List D) : ixR (.lst l) (.int 0) = R.ofO l.head? := by
  show R.ofO (atI l 0) = _
  rw [atI_head]
theorem r_greedy (n : Nat) (M : List (List Nat)) (hM : isMn M = true) : run TT (n + 4) 15 [mD M] = .ok (aD (grd M)) := by
  rw [runT (fd := fd15) rfl rfl rfl rfl]
  show endR (exec (wT (n + 3)) c15 [.sh (mD M), .no, .no, .no, .no]) = _
  unfold c15
  simp only [x_pass, x_seq, x_set, x_ex, x_ret, x_ife, x_fr, x_wh, x_brk, x_rz, e_k, e_v, e_o, e_nil, e_cons, e_tup, e_lst, e_dct, e_op, e_neg, e_not, e_cm, e_ch, e_and, e_or, e_ife, e_ix, e_sl, e_rev, e_b1, e_b2, e_b3, e_call, e_pick, e_isx, e_it, e_rg1, e_rg2, e_enum, e_zip, e_zips, e_items, e_lc, e_lc2, e_dc, e_dc2, g_0, g_s, s_0, s_s, sl_sh, so_l, so_d, k_ok, k_rz, out_ok, out_rz, endR_nx, endR_rt, endR_rz, then_nx, then_rt, then_rz, then_bk, b_bl, l_lst, t_one, t_two, w_one, w_two, two_tup, Bool.false_eq_true, ↓reduceIte, wT_f, i_len_str, i_len_lst, i_len_tup, i_eqI, i_neI, i_ltI, i_leI, i_gtI, i_geI, i_isN, i_nisN, i_isB, i_nisB, i_inS, i_ninS, i_itS, i_itT, i_itL, isND_non, isND_str, isND_tup, isND_lst, isND_int, isND_bl, calm_ok, all_map, any_map, op_add, op_sub, n_ok, Bool.not_true, Bool.not_false, decide_true, decide_false]
  rw [r_check_menu _ _ (dat_mD M), isMnD_mD, hM]
  simp only [x_pass, x_seq, x_set, x_ex, x_ret, x_ife, x_fr, x_wh, x_brk, x_rz, e_k, e_v, e_o, e_nil, e_cons, e_tup, e_lst, e_dct, e_op, e_neg, e_not, e_cm, e_ch, e_and, e_or, e_ife, e_ix, e_sl, e_rev, e_b1, e_b2, e_b3, e_call, e_pick, e_isx, e_it, e_rg1, e_rg2, e_enum, e_zip, e_zips, e_items, e_lc, e_lc2, e_dc, e_dc2, g_0, g_s, s_0, s_s, sl_sh, so_l, so_d, k_ok, k_rz, out_ok, out_rz, endR_nx, endR_rt, endR_rz, then_nx, then_rt, then_rz, then_bk, b_bl, l_lst, t_one, t_two, w_one, w_two, two_tup, Bool.false_eq_true, ↓reduceIte, wT_f, i_len_str, i_len_lst, i_len_tup, i_eqI, i_neI, i_ltI, i_leI, i_gtI, i_geI, i_isN, i_nisN, i_isB, i_nisB, i_inS, i_ninS, i_itS, i_itT, i_itL, isND_non, isND_str, isND_tup, isND_lst, isND_int, isND_bl, calm_ok, all_map, any_map, op_add, op_sub, n_ok, Bool.not_true, Bool.not_false, decide_true, decide_false, i_mkT0]
  have hit : itemsR (mD M) = .ok (M.map .str) := rfl
  simp only [hit, x_pass, x_seq, x_set, x_ex, x_ret, x_ife, x_fr, x_wh, x_brk, x_rz, e_k, e_v, e_o, e_nil, e_cons, e_tup, e_lst, e_dct, e_op, e_neg, e_not, e_cm, e_ch, e_and, e_or, e_ife, e_ix, e_sl, e_rev, e_b1, e_b2, e_b3, e_call, e_pick, e_isx, e_it, e_rg1, e_rg2, e_enum, e_zip, e_zips, e_items, e_lc, e_lc2, e_dc, e_dc2, g_0, g_s, s_0, s_s, sl_sh, so_l, so_d, k_ok, k_rz, out_ok, out_rz, endR_nx, endR_rt, endR_rz, then_nx, then_rt, then_rz, then_bk, b_bl, l_lst, t_one, t_two, w_one, w_two, two_tup, Bool.false_eq_true, ↓reduceIte, wT_f, i_len_str, i_len_lst, i_len_tup, i_eqI, i_neI, i_ltI, i_leI, i_gtI, i_geI, i_isN, i_nisN, i_isB, i_nisB, i_inS, i_ninS, i_itS, i_itT, i_itL, isND_non, isND_str, isND_tup, isND_lst, isND_int, isND_bl, calm_ok, all_map, any_map, op_add, op_sub, n_ok, Bool.not_true, Bool.not_false, decide_true, decide_false]
  obtain ⟨ρ, e, s2, s3, h⟩ := forR_all (g := .one 2) (b := exec (wT (n + 3)) b15_1) (e := D.str) (xs := M) (ρ := [.sh (mD M), .sh (.tup []), .no, .no, .no])
    (fun d ρ => ∃ s2 s3, ρ = [.sh (mD M), .sh (aD (grd d)), s2, s3, .no]) ⟨.no, .no, rfl⟩ (by
      rintro d x r ρ hd ⟨s2, s3, rfl⟩
      refine ⟨_, [.sh (mD M), .sh (aD (grd (d ++ [x]))), .sh (.str x), .sh (.lst ((lft x (grd d)).map fun c => .str [c])), .no], rfl, ?_, _, _, rfl⟩
      unfold b15_1
      simp only [x_pass, x_seq, x_set, x_ex, x_ret, x_ife, x_fr, x_wh, x_brk, x_rz, e_k, e_v, e_o, e_nil, e_cons, e_tup, e_lst, e_dct, e_op, e_neg, e_not, e_cm, e_ch, e_and, e_or, e_ife, e_ix, e_sl, e_rev, e_b1, e_b2, e_b3, e_call, e_pick, e_isx, e_it, e_rg1, e_rg2, e_enum, e_zip, e_zips, e_items, e_lc, e_lc2, e_dc, e_dc2, g_0, g_s, s_0, s_s, sl_sh, so_l, so_d, k_ok, k_rz, out_ok, out_rz, endR_nx, endR_rt, endR_rz, then_nx, then_rt, then_rz, then_bk, b_bl, l_lst, t_one, t_two, w_one, w_two, two_tup, Bool.false_eq_true, ↓reduceIte, wT_f, i_len_str, i_len_lst, i_len_tup, i_eqI, i_neI, i_ltI, i_leI, i_gtI, i_geI, i_isN, i_nisN, i_isB, i_nisB, i_inS, i_ninS, i_itS, i_itT, i_itL, isND_non, isND_str, isND_tup, isND_lst, isND_int, isND_bl, calm_ok, all_map, any_map, op_add, op_sub, n_ok, Bool.not_true, Bool.not_false, decide_true, decide_false, i_ninA]
      rw [lcR_ifE (e := fun c => D.str [c]) (p := fun c => !decide (some c ∈ grd d)) (g := fun c => .str [c]) fun c _ => by simp only [x_pass, x_seq, x_set, x_ex, x_ret, x_ife, x_fr, x_wh, x_brk, x_rz, e_k, e_v, e_o, e_nil, e_cons, e_tup, e_lst, e_dct, e_op, e_neg, e_not, e_cm, e_ch, e_and, e_or, e_ife, e_ix, e_sl, e_rev, e_b1, e_b2, e_b3, e_call, e_pick, e_isx, e_it, e_rg1, e_rg2, e_enum, e_zip, e_zips, e_items, e_lc, e_lc2, e_dc, e_dc2, g_0, g_s, s_0, s_s, sl_sh, so_l, so_d, k_ok, k_rz, out_ok, out_rz, endR_nx, endR_rt, endR_rz, then_nx, then_rt, then_rz, then_bk, b_bl, l_lst, t_one, t_two, w_one, w_two, two_tup, Bool.false_eq_true, ↓reduceIte, wT_f, i_len_str, i_len_lst, i_len_tup, i_eqI, i_neI, i_ltI, i_leI, i_gtI, i_geI, i_isN, i_nisN, i_isB, i_nisB, i_inS, i_ninS, i_itS, i_itT, i_itL, isND_non, isND_str, isND_tup, isND_lst, isND_int, isND_bl, calm_ok, all_map, any_map, op_add, op_sub, n_ok, Bool.not_true, Bool.not_false, decide_true, decide_false, i_ninA]]
      simp only [x_pass, x_seq, x_set, x_ex, x_ret, x_ife, x_fr, x_wh, x_brk, x_rz, e_k, e_v, e_o, e_nil, e_cons, e_tup, e_lst, e_dct, e_op, e_neg, e_not, e_cm, e_ch, e_and, e_or, e_ife, e_ix, e_sl, e_rev, e_b1, e_b2, e_b3, e_call, e_pick, e_isx, e_it, e_rg1, e_rg2, e_enum, e_zip, e_zips, e_items, e_lc, e_lc2, e_dc, e_dc2, g_0, g_s, s_0, s_s, sl_sh, so_l, so_d, k_ok, k_rz, out_ok, out_rz, endR_nx, endR_rt, endR_rz, then_nx, then_rt, then_rz, then_bk, b_bl, l_lst, t_one, t_two, w_one, w_two, two_tup, Bool.false_eq_true, ↓reduceIte, wT_f, i_len_str, i_len_lst, i_len_tup, i_eqI, i_neI, i_ltI, i_leI, i_gtI, i_geI, i_isN, i_nisN, i_isB, i_nisB, i_inS, i_ninS, i_itS, i_itT, i_itL, isND_non, isND_str, isND_tup, isND_lst, isND_int, isND_bl, calm_ok, all_map, any_map, op_add, op_sub, n_ok, Bool.not_true, Bool.not_false, decide_true, decide_false, i_mkL0]
      rw [show (x.filter fun c => !decide (some c ∈ grd d)) = lft x (grd d) from rfl, ne_nil_D _ (dat_ch _)]
      have hl : ((grd d).map oD ++ [oD (lft x (grd d)).head?]).length ≤ 16777216 := by
        have := isMn_len hM
        rw [← hd, List.length_append] at this
        simp [grd_len]; omega
      cases hz : lft x (grd d) with
      | nil =>
        rw [hz] at hl
        simp only [x_pass, x_seq, x_set, x_ex, x_ret, x_ife, x_fr, x_wh, x_brk, x_rz, e_k, e_v, e_o, e_nil, e_cons, e_tup, e_lst, e_dct, e_op, e_neg, e_not, e_cm, e_ch, e_and, e_or, e_ife, e_ix, e_sl, e_rev, e_b1, e_b2, e_b3, e_call, e_pick, e_isx, e_it, e_rg1, e_rg2, e_enum, e_zip, e_zips, e_items, e_lc, e_lc2, e_dc, e_dc2, g_0, g_s, s_0, s_s, sl_sh, so_l, so_d, k_ok, k_rz, out_ok, out_rz, endR_nx, endR_rt, endR_rz, then_nx, then_rt, then_rz, then_bk, b_bl, l_lst, t_one, t_two, w_one, w_two, two_tup, Bool.false_eq_true, ↓reduceIte, wT_f, i_len_str, i_len_lst, i_len_tup, i_eqI, i_neI, i_ltI, i_leI, i_gtI, i_geI, i_isN, i_nisN, i_isB, i_nisB, i_inS, i_ninS, i_itS, i_itT, i_itL, isND_non, isND_str, isND_tup, isND_lst, isND_int, isND_bl, calm_ok, all_map, any_map, op_add, op_sub, n_ok, Bool.not_true, Bool.not_false, decide_true, decide_false, List.map_nil, List.isEmpty_nil, i_mkT1, aD, i_addT]
        have : D.non = oD ([] : List Nat).head? := rfl
        rw [this, i_mkT hl, grd_snoc, hz, aD_app]
        simp only [x_pass, x_seq, x_set, x_ex, x_ret, x_ife, x_fr, x_wh, x_brk, x_rz, e_k, e_v, e_o, e_nil, e_cons, e_tup, e_lst, e_dct, e_op, e_neg, e_not, e_cm, e_ch, e_and, e_or, e_ife, e_ix, e_sl, e_rev, e_b1, e_b2, e_b3, e_call, e_pick, e_isx, e_it, e_rg1, e_rg2, e_enum, e_zip, e_zips, e_items, e_lc, e_lc2, e_dc, e_dc2, g_0, g_s, s_0, s_s, sl_sh, so_l, so_d, k_ok, k_rz, out_ok, out_rz, endR_nx, endR_rt, endR_rz, then_nx, then_rt, then_rz, then_bk, b_bl, l_lst, t_one, t_two, w_one, w_two, two_tup, Bool.false_eq_true, ↓reduceIte, wT_f, i_len_str, i_len_lst, i_len_tup, i_eqI, i_neI, i_ltI, i_leI, i_gtI, i_geI, i_isN, i_nisN, i_isB, i_nisB, i_inS, i_ninS, i_itS, i_itT, i_itL, isND_non, isND_str, isND_tup, isND_lst, isND_int, isND_bl, calm_ok, all_map, any_map, op_add, op_sub, n_ok, Bool.not_true, Bool.not_false, decide_true, decide_false]
      | cons c q =>
        rw [hz] at hl
        simp only [x_pass, x_seq, x_set, x_ex, x_ret, x_ife, x_fr, x_wh, x_brk, x_rz, e_k, e_v, e_o, e_nil, e_cons, e_tup, e_lst, e_dct, e_op, e_neg, e_not, e_cm, e_ch, e_and, e_or, e_ife, e_ix, e_sl, e_rev, e_b1, e_b2, e_b3, e_call, e_pick, e_isx, e_it, e_rg1, e_rg2, e_enum, e_zip, e_zips, e_items, e_lc, e_lc2, e_dc, e_dc2, g_0, g_s, s_0, s_s, sl_sh, so_l, so_d, k_ok, k_rz, out_ok, out_rz, endR_nx, endR_rt, endR_rz, then_nx, then_rt, then_rz, then_bk, b_bl, l_lst, t_one, t_two, w_one, w_two, two_tup, Bool.false_eq_true, ↓reduceIte, wT_f, i_len_str, i_len_lst, i_len_tup, i_eqI, i_neI, i_ltI, i_leI, i_gtI, i_geI, i_isN, i_nisN, i_isB, i_nisB, i_inS, i_ninS, i_itS, i_itT, i_itL, isND_non, isND_str, isND_tup, isND_lst, isND_int, isND_bl, calm_ok, all_map, any_map, op_add, op_sub, n_ok, Bool.not_true, Bool.not_false, decide_true, decide_false, List.map_cons, List.isEmpty_cons, i_mkT1, aD, i_addT, i_ixL0, List.head?_cons, R.ofO]
        have : D.str [c] = oD (c :: q).head? := rfl
        rw [this, i_mkT hl, grd_snoc, hz, aD_app]
        simp only [x_pass, x_seq, x_set, x_ex, x_ret, x_ife, x_fr, x_wh, x_brk, x_rz, e_k, e_v, e_o, e_nil, e_cons, e_tup, e_lst, e_dct, e_op, e_neg, e_not, e_cm, e_ch, e_and, e_or, e_ife, e_ix, e_sl, e_rev, e_b1, e_b2, e_b3, e_call, e_pick, e_isx, e_it, e_rg1, e_rg2, e_enum, e_zip, e_zips, e_items, e_lc, e_lc2, e_dc, e_dc2, g_0, g_s, s_0, s_s, sl_sh, so_l, so_d, k_ok, k_rz, out_ok, out_rz, endR_nx, endR_rt, endR_rz, then_nx, then_rt, then_rz, then_bk, b_bl, l_lst, t_one, t_two, w_one, w_two, two_tup, Bool.false_eq_true, ↓reduceIte, wT_f, i_len_str, i_len_lst, i_len_tup, i_eqI, i_neI, i_ltI, i_leI, i_gtI, i_geI, i_isN, i_nisN, i_isB, i_nisB, i_inS, i_ninS, i_itS, i_itT, i_itL, isND_non, isND_str, isND_tup, isND_lst, isND_int, isND_bl, calm_ok, all_map, any_map, op_add, op_sub, n_ok, Bool.not_true, Bool.not_false, decide_true, decide_false])
  rw [e, h]
  simp only [x_pass, x_seq, x_set, x_ex, x_ret, x_ife, x_fr, x_wh, x_brk, x_rz, e_k, e_v, e_o, e_nil, e_cons, e_tup, e_lst, e_dct, e_op, e_neg, e_not, e_cm, e_ch, e_and, e_or, e_ife, e_ix, e_sl, e_rev, e_b1, e_b2, e_b3, e_call, e_pick, e_isx, e_it, e_rg1, e_rg2, e_enum, e_zip, e_zips, e_items, e_lc, e_lc2, e_dc, e_dc2, g_0, g_s, s_0, s_s, sl_sh, so_l, so_d, k_ok, k_rz, out_ok, out_rz, endR_nx, endR_rt, endR_rz, then_nx, then_rt, then_rz, then_bk, b_bl, l_lst, t_one, t_two, w_one, w_two, two_tup, Bool.false_eq_true, ↓reduceIte, wT_f, i_len_str, i_len_lst, i_len_tup, i_eqI, i_neI, i_ltI, i_leI, i_gtI, i_geI, i_isN, i_nisN, i_isB, i_nisB, i_inS, i_ninS, i_itS, i_itT, i_itL, isND_non, isND_str, isND_tup, isND_lst, isND_int, isND_bl, calm_ok, all_map, any_map, op_add, op_sub, n_ok, Bool.not_true, Bool.not_false, decide_true, decide_false]
theorem r_law_cost (n : Nat) (M : List (List Nat)) (a : List (Option Nat)) (h : IsA M a) : run TT (n + 1) 18 [mD M, aD a] = .ok (.int (costA M a)) := by
  rw [runT (fd := fd18) rfl rfl rfl rfl]
  show endR (exec (wT n) c18 [.sh (mD M), .sh (aD a), .no, .no, .no]) = _
  unfold c18
  simp only [x_pass, x_seq, x_set, x_ex, x_ret, x_ife, x_fr, x_wh, x_brk, x_rz, e_k, e_v, e_o, e_nil, e_cons, e_tup, e_lst, e_dct, e_op, e_neg, e_not, e_cm, e_ch, e_and, e_or, e_ife, e_ix, e_sl, e_rev, e_b1, e_b2, e_b3, e_call, e_pick, e_isx, e_it, e_rg1, e_rg2, e_enum, e_zip, e_zips, e_items, e_lc, e_lc2, e_dc, e_dc2, g_0, g_s, s_0, s_s, sl_sh, so_l, so_d, k_ok, k_rz, out_ok, out_rz, endR_nx, endR_rt, endR_rz, then_nx, then_rt, then_rz, then_bk, b_bl, l_lst, t_one, t_two, w_one, w_two, two_tup, Bool.false_eq_true, ↓reduceIte, wT_f, i_len_str, i_len_lst, i_len_tup, i_eqI, i_neI, i_ltI, i_leI, i_gtI, i_geI, i_isN, i_nisN, i_isB, i_nisB, i_inS, i_ninS, i_itS, i_itT, i_itL, isND_non, isND_str, isND_tup, isND_lst, isND_int, isND_bl, calm_ok, all_map, any_map, op_add, op_sub, n_ok, Bool.not_true, Bool.not_false, decide_true, decide_false, zip_mD]
  obtain ⟨ρ, e, s3, s4, hρ⟩ := forR_all (g := .two 3 4) (b := exec (wT n) b18_1) (e := fun p : List Nat × Option Nat => D.tup [.str p.1, oD p.2]) (xs := M.zip a) (ρ := [.sh (mD M), .sh (aD a), .sh (.int 0), .no, .no])
    (fun d ρ => ∃ s3 s4, ρ = [.sh (mD M), .sh (aD a), .sh (.int (d.map cst).sum), s3, s4]) ⟨.no, .no, rfl⟩ (by
      rintro d ⟨x, o⟩ r ρ hd ⟨s3, s4, rfl⟩
      refine ⟨_, [.sh (mD M), .sh (aD a), .sh (.int ((d ++ [(x, o)]).map cst).sum), .sh (.str x), .sh (oD o)], rfl, ?_, _, _, rfl⟩
      unfold b18_1
      cases o with
      | none => simp [x_pass, x_seq, x_set, x_ex, x_ret, x_ife, x_fr, x_wh, x_brk, x_rz, e_k, e_v, e_o, e_nil, e_cons, e_tup, e_lst, e_dct, e_op, e_neg, e_not, e_cm, e_ch, e_and, e_or, e_ife, e_ix, e_sl, e_rev, e_b1, e_b2, e_b3, e_call, e_pick, e_isx, e_it, e_rg1, e_rg2, e_enum, e_zip, e_zips, e_items, e_lc, e_lc2, e_dc, e_dc2, g_0, g_s, s_0, s_s, sl_sh, so_l, so_d, k_ok, k_rz, out_ok, out_rz, endR_nx, endR_rt, endR_rz, then_nx, then_rt, then_rz, then_bk, b_bl, l_lst, t_one, t_two, w_one, w_two, two_tup, Bool.false_eq_true, ↓reduceIte, wT_f, i_len_str, i_len_lst, i_len_tup, i_eqI, i_neI, i_ltI, i_leI, i_gtI, i_geI, i_isN, i_nisN, i_isB, i_nisB, i_inS, i_ninS, i_itS, i_itT, i_itL, isND_non, isND_str, isND_tup, isND_lst, isND_int, isND_bl, calm_ok, all_map, any_map, op_add, op_sub, n_ok, Bool.not_true, Bool.not_false, decide_true, decide_false, oD, cst]
      | some c =>
        have hc := (h.fit (x, some c) (by rw [← hd]; simp) c rfl).2
        simp [x_pass, x_seq, x_set, x_ex, x_ret, x_ife, x_fr, x_wh, x_brk, x_rz, e_k, e_v, e_o, e_nil, e_cons, e_tup, e_lst, e_dct, e_op, e_neg, e_not, e_cm, e_ch, e_and, e_or, e_ife, e_ix, e_sl, e_rev, e_b1, e_b2, e_b3, e_call, e_pick, e_isx, e_it, e_rg1, e_rg2, e_enum, e_zip, e_zips, e_items, e_lc, e_lc2, e_dc, e_dc2, g_0, g_s, s_0, s_s, sl_sh, so_l, so_d, k_ok, k_rz, out_ok, out_rz, endR_nx, endR_rt, endR_rz, then_nx, then_rt, then_rz, then_bk, b_bl, l_lst, t_one, t_two, w_one, w_two, two_tup, Bool.false_eq_true, ↓reduceIte, wT_f, i_len_str, i_len_lst, i_len_tup, i_eqI, i_neI, i_ltI, i_leI, i_gtI, i_geI, i_isN, i_nisN, i_isB, i_nisB, i_inS, i_ninS, i_itS, i_itT, i_itL, isND_non, isND_str, isND_tup, isND_lst, isND_int, isND_bl, calm_ok, all_map, any_map, op_add, op_sub, n_ok, Bool.not_true, Bool.not_false, decide_true, decide_false, oD, i_recv_index, i_index hc, cst])
  rw [e, hρ]
  simp only [x_pass, x_seq, x_set, x_ex, x_ret, x_ife, x_fr, x_wh, x_brk, x_rz, e_k, e_v, e_o, e_nil, e_cons, e_tup, e_lst, e_dct, e_op, e_neg, e_not, e_cm, e_ch, e_and, e_or, e_ife, e_ix, e_sl, e_rev, e_b1, e_b2, e_b3, e_call, e_pick, e_isx, e_it, e_rg1, e_rg2, e_enum, e_zip, e_zips, e_items, e_lc, e_lc2, e_dc, e_dc2, g_0, g_s, s_0, s_s, sl_sh, so_l, so_d, k_ok, k_rz, out_ok, out_rz, endR_nx, endR_rt, endR_rz, then_nx, then_rt, then_rz, then_bk, b_bl, l_lst, t_one, t_two, w_one, w_two, two_tup, Bool.false_eq_true, ↓reduceIte, wT_f, i_len_str, i_len_lst, i_len_tup, i_eqI, i_neI, i_ltI, i_leI, i_gtI, i_geI, i_isN, i_nisN, i_isB, i_nisB, i_inS, i_ninS, i_itS, i_itT, i_itL, isND_non, isND_str, isND_tup, isND_lst, isND_int, isND_bl, calm_ok, all_map, any_map, op_add, op_sub, n_ok, Bool.not_true, Bool.not_false, decide_true, decide_false, costA]
end Mip

set_option linter.all false
set_option maxRecDepth 100000
/-! plain 7: all partial assignments; drawn menus -/
namespace Mip
open Mi
def ext (x : List Nat) (a : List (Option Nat)) : List (List (Option Nat)) := ((lts x).filter fun c => !decide (some c ∈ a)).map fun c => a ++ [some c]
def pstep (f : List (List (Option Nat))) (x : List Nat) : List (List (Option Nat)) := f.map (· ++ [none]) ++ f.flatMap (ext x)
def parts (M : List (List Nat)) : List (List (Option Nat)) := M.foldl pstep [[]]
theorem parts_snoc (M : List (List Nat)) (x : List Nat) : parts (M ++ [x]) = pstep (parts M) x := by
  unfold parts
  rw [List.foldl_append]; rfl
theorem lts_le (x : List Nat) : (lts x).length ≤ x.length := by
  unfold lts
  rw [List.length_mergeSort]
  exact nub_le x
theorem ext_le (x : List Nat) (a : List (Option Nat)) : (ext x a).length ≤ x.length := by
  unfold ext
  rw [List.length_map]
  exact Nat.le_trans (List.length_filter_le _ _) (lts_le x)
theorem flatMap_le {α β : Type} (f : α → List β) (k : Nat) : ∀ l : List α, (∀ x ∈ l, (f x).length ≤ k) → (l.flatMap f).length ≤ l.length * k
  | [], _ => by simp
  | x :: r, h => by
    rw [List.flatMap_cons, List.length_append, List.length_cons, Nat.succ_mul]
    have := flatMap_le f k r fun y hy => h y (List.mem_cons_of_mem _ hy)
    have := h x List.mem_cons_self
    omega
theorem pstep_le (f : List (List (Option Nat))) (x : List Nat) : (pstep f x).length ≤ f.length * (x.length + 1) := by
  unfold pstep
  rw [List.length_append, List.length_map, Nat.mul_succ]
  have := flatMap_le (ext x) x.length f fun a _ => ext_le x a
  omega
/-- drawn names are short -/
def Short (M : List (List Nat)) : Prop := M.length ≤ 8 ∧ ∀ x ∈ M, x.length ≤ 3
theorem parts_le {M : List (List Nat)} (h : ∀ x ∈ M, x.length ≤ 3) : (parts M).length ≤ 4 ^ M.length := by
  have : ∀ (M : List (List Nat)) f, (∀ x ∈ M, x.length ≤ 3) → (M.foldl pstep f).length ≤ f.length * 4 ^ M.length := by
    intro M
    induction M with
    | nil => intro f _; simp
    | cons x r ih =>
      intro f h
      have h1 := ih (pstep f x) fun y hy => h y (List.mem_cons_of_mem _ hy)
      have h2 := pstep_le f x
      have h3 := h x List.mem_cons_self
      have h4 : f.length * (x.length + 1) ≤ f.length * 4 := Nat.mul_le_mul_left _ (by omega)
      rw [List.foldl_cons, List.length_cons, Nat.pow_succ]
      calc _ ≤ (pstep f x).length * 4 ^ r.length := h1
        _ ≤ (f.length * 4) * 4 ^ r.length := Nat.mul_le_mul_right _ (Nat.le_trans h2 h4)
        _ = _ := by rw [Nat.mul_assoc, Nat.mul_comm 4]
  have := this M [[]] h
  simpa [parts] using this
theorem parts_len (M : List (List Nat)) : ∀ a ∈ parts M, a.length = M.length := by
  have : ∀ (M : List (List Nat)) f k, (∀ a ∈ f, a.length = k) → ∀ a ∈ M.foldl pstep f, a.length = k + M.length := by
    intro M
    induction M with
    | nil => intro f k h a ha; simpa using h a ha
    | cons x r ih =>
      intro f k h a ha
      rw [List.foldl_cons] at ha
      have := ih (pstep f x) (k + 1) (fun b hb => ?_) a ha
      · rw [List.length_cons]; omega
      · unfold pstep at hb
        rcases List.mem_append.mp hb with hb | hb
        · obtain ⟨c, hc, rfl⟩ := List.mem_map.mp hb
          simp [h c hc]
        · obtain ⟨c, hc, hb⟩ := List.mem_flatMap.mp hb
          unfold ext at hb
          obtain ⟨d, _, rfl⟩ := List.mem_map.mp hb
          simp [h c hc]
  intro a ha
  have := this M [[]] 0 (by simp) a ha
  simpa using this
theorem pow4 {n : Nat} (h : n ≤ 8) : 4 ^ n ≤ 65536 := Nat.le_trans (Nat.pow_le_pow_right (by decide) h) (by decide)
theorem i_itD (xs : List D) : itemsR (.lst xs) = .ok xs := opq rfl
theorem r_partial (n : Nat) (M : List (List Nat)) (hM : Short M) : run TT (n + 1) 19 [mD M] = .ok (.lst ((parts M).map aD)) := by
  rw [runT (fd := fd19) rfl rfl rfl rfl]
  show endR (exec (wT n) c19 [.sh (mD M), .no, .no, .no, .no, .no]) = _
  unfold c19
  have hit : itemsR (mD M) = .ok (M.map .str) := rfl
  simp only [x_pass, x_seq, x_set, x_ex, x_ret, x_ife, x_fr, x_wh, x_brk, x_rz, e_k, e_v, e_o, e_nil, e_cons, e_tup, e_lst, e_dct, e_op, e_neg, e_not, e_cm, e_ch, e_and, e_or, e_ife, e_ix, e_sl, e_rev, e_b1, e_b2, e_b3, e_call, e_pick, e_isx, e_it, e_rg1, e_rg2, e_enum, e_zip, e_zips, e_items, e_lc, e_lc2, e_dc, e_dc2, g_0, g_s, s_0, s_s, sl_sh, so_l, so_d, k_ok, k_rz, out_ok, out_rz, endR_nx, endR_rt, endR_rz, then_nx, then_rt, then_rz, then_bk, b_bl, l_lst, t_one, t_two, w_one, w_two, two_tup, Bool.false_eq_true, ↓reduceIte, wT_f, i_len_str, i_len_lst, i_len_tup, i_eqI, i_neI, i_ltI, i_leI, i_gtI, i_geI, i_isN, i_nisN, i_isB, i_nisB, i_inS, i_ninS, i_itS, i_itT, i_itL, isND_non, isND_str, isND_tup, isND_lst, isND_int, isND_bl, calm_ok, all_map, any_map, op_add, op_sub, n_ok, Bool.not_true, Bool.not_false, decide_true, decide_false, i_mkT0, i_mkL1, hit]
  obtain ⟨ρ, e, s2, s3, s4, h⟩ := forR_all (g := .one 2) (b := exec (wT n) b19_2) (e := D.str) (xs := M) (ρ := [.sh (mD M), .sh (.lst [.tup []]), .no, .no, .no, .no])
    (fun d ρ => ∃ s2 s3 s4, ρ = [.sh (mD M), .sh (.lst ((parts d).map aD)), s2, s3, s4, .no]) ⟨.no, .no, .no, rfl⟩ (by
      rintro d x r ρ hd ⟨s2, s3, s4, rfl⟩
      have hs : ∀ y ∈ d ++ [x], y.length ≤ 3 := fun y hy => hM.2 y (by
        rw [← hd]
        simp only [List.mem_append, List.mem_singleton, List.mem_cons, List.not_mem_nil, or_false] at hy ⊢
        rcases hy with hy | hy
        · exact .inl hy
        · exact .inr (.inl hy))
      have hl : (d ++ [x]).length ≤ 8 := by
        have := hM.1
        rw [← hd] at this
        simp at this ⊢
        omega
      have hb : (parts (d ++ [x])).length ≤ 65536 := Nat.le_trans (parts_le hs) (pow4 hl)
      have hx : x.length ≤ 3 := hs x (by simp)
      have ha : ∀ a ∈ parts d, a.length ≤ 8 := fun a ha => by rw [parts_len d a ha]; simp at hl; omega
      have ap : ∀ a ∈ parts d, ∀ o, opR .add (aD a) (.tup [oD o]) = .ok (aD (a ++ [o])) := fun a h o => by
        unfold aD
        rw [i_addT, aD_app, i_mkT]
        have := ha a h
        simp; omega
      obtain ⟨s4', hf⟩ : ∃ s4', exec (wT n) b19_2 [.sh (mD M), .sh (.lst ((parts d).map aD)), .sh (.str x), s3, s4, .no] = .nx [.sh (mD M), .sh (.lst ((parts (d ++ [x])).map aD)), .sh (.str x), .sh (.lst ((parts (d ++ [x])).map aD)), s4', .no] := by
        unfold b19_2
        simp only [x_pass, x_seq, x_set, x_ex, x_ret, x_ife, x_fr, x_wh, x_brk, x_rz, e_k, e_v, e_o, e_nil, e_cons, e_tup, e_lst, e_dct, e_op, e_neg, e_not, e_cm, e_ch, e_and, e_or, e_ife, e_ix, e_sl, e_rev, e_b1, e_b2, e_b3, e_call, e_pick, e_isx, e_it, e_rg1, e_rg2, e_enum, e_zip, e_zips, e_items, e_lc, e_lc2, e_dc, e_dc2, g_0, g_s, s_0, s_s, sl_sh, so_l, so_d, k_ok, k_rz, out_ok, out_rz, endR_nx, endR_rt, endR_rz, then_nx, then_rt, then_rz, then_bk, b_bl, l_lst, t_one, t_two, w_one, w_two, two_tup, Bool.false_eq_true, ↓reduceIte, wT_f, i_len_str, i_len_lst, i_len_tup, i_eqI, i_neI, i_ltI, i_leI, i_gtI, i_geI, i_isN, i_nisN, i_isB, i_nisB, i_inS, i_ninS, i_itS, i_itT, i_itL, isND_non, isND_str, isND_tup, isND_lst, isND_int, isND_bl, calm_ok, all_map, any_map, op_add, op_sub, n_ok, Bool.not_true, Bool.not_false, decide_true, decide_false, i_mkT1]
        have c1 : lcR (fun z => (tgR (.one 4) z [.sh (mD M), .sh (.lst ((parts d).map aD)), .sh (.str x), s3, .no, .no]).bind fun ρ' => (opR .add z (.tup [.non])).bind fun z => R.ok (some z)) ((parts d).map aD) = .ok (((parts d).map (· ++ [none])).map aD) := by
          rw [lcR_all (e := aD) (g := fun a => aD (a ++ [none])) fun a h => by
            simp only [x_pass, x_seq, x_set, x_ex, x_ret, x_ife, x_fr, x_wh, x_brk, x_rz, e_k, e_v, e_o, e_nil, e_cons, e_tup, e_lst, e_dct, e_op, e_neg, e_not, e_cm, e_ch, e_and, e_or, e_ife, e_ix, e_sl, e_rev, e_b1, e_b2, e_b3, e_call, e_pick, e_isx, e_it, e_rg1, e_rg2, e_enum, e_zip, e_zips, e_items, e_lc, e_lc2, e_dc, e_dc2, g_0, g_s, s_0, s_s, sl_sh, so_l, so_d, k_ok, k_rz, out_ok, out_rz, endR_nx, endR_rt, endR_rz, then_nx, then_rt, then_rz, then_bk, b_bl, l_lst, t_one, t_two, w_one, w_two, two_tup, Bool.false_eq_true, ↓reduceIte, wT_f, i_len_str, i_len_lst, i_len_tup, i_eqI, i_neI, i_ltI, i_leI, i_gtI, i_geI, i_isN, i_nisN, i_isB, i_nisB, i_inS, i_ninS, i_itS, i_itT, i_itL, isND_non, isND_str, isND_tup, isND_lst, isND_int, isND_bl, calm_ok, all_map, any_map, op_add, op_sub, n_ok, Bool.not_true, Bool.not_false, decide_true, decide_false]
            have := ap a h none
            unfold oD at this
            rw [this]
            rfl]
          rw [List.map_map]
          rfl
        simp only [x_pass, x_seq, x_set, x_ex, x_ret, x_ife, x_fr, x_wh, x_brk, x_rz, e_k, e_v, e_o, e_nil, e_cons, e_tup, e_lst, e_dct, e_op, e_neg, e_not, e_cm, e_ch, e_and, e_or, e_ife, e_ix, e_sl, e_rev, e_b1, e_b2, e_b3, e_call, e_pick, e_isx, e_it, e_rg1, e_rg2, e_enum, e_zip, e_zips, e_items, e_lc, e_lc2, e_dc, e_dc2, g_0, g_s, s_0, s_s, sl_sh, so_l, so_d, k_ok, k_rz, out_ok, out_rz, endR_nx, endR_rt, endR_rz, then_nx, then_rt, then_rz, then_bk, b_bl, l_lst, t_one, t_two, w_one, w_two, two_tup, Bool.false_eq_true, ↓reduceIte, wT_f, i_len_str, i_len_lst, i_len_tup, i_eqI, i_neI, i_ltI, i_leI, i_gtI, i_geI, i_isN, i_nisN, i_isB, i_nisB, i_inS, i_ninS, i_itS, i_itT, i_itL, isND_non, isND_str, isND_tup, isND_lst, isND_int, isND_bl, calm_ok, all_map, any_map, op_add, op_sub, n_ok, Bool.not_true, Bool.not_false, decide_true, decide_false] at c1
        rw [c1]
        simp only [x_pass, x_seq, x_set, x_ex, x_ret, x_ife, x_fr, x_wh, x_brk, x_rz, e_k, e_v, e_o, e_nil, e_cons, e_tup, e_lst, e_dct, e_op, e_neg, e_not, e_cm, e_ch, e_and, e_or, e_ife, e_ix, e_sl, e_rev, e_b1, e_b2, e_b3, e_call, e_pick, e_isx, e_it, e_rg1, e_rg2, e_enum, e_zip, e_zips, e_items, e_lc, e_lc2, e_dc, e_dc2, g_0, g_s, s_0, s_s, sl_sh, so_l, so_d, k_ok, k_rz, out_ok, out_rz, endR_nx, endR_rt, endR_rz, then_nx, then_rt, then_rz, then_bk, b_bl, l_lst, t_one, t_two, w_one, w_two, two_tup, Bool.false_eq_true, ↓reduceIte, wT_f, i_len_str, i_len_lst, i_len_tup, i_eqI, i_neI, i_ltI, i_leI, i_gtI, i_geI, i_isN, i_nisN, i_isB, i_nisB, i_inS, i_ninS, i_itS, i_itT, i_itL, isND_non, isND_str, isND_tup, isND_lst, isND_int, isND_bl, calm_ok, all_map, any_map, op_add, op_sub, n_ok, Bool.not_true, Bool.not_false, decide_true, decide_false]
        obtain ⟨ρ, e, s4, h⟩ := forR_all (g := .one 4) (b := exec (wT n) b19_1) (e := aD) (xs := parts d) (ρ := [.sh (mD M), .sh (.lst ((parts d).map aD)), .sh (.str x), .sh (.lst (((parts d).map (· ++ [none])).map aD)), s4, .no])
          (fun q ρ => ∃ s4, ρ = [.sh (mD M), .sh (.lst ((parts d).map aD)), .sh (.str x), .sh (.lst (((parts d).map (· ++ [none]) ++ q.flatMap (ext x)).map aD)), s4, .no]) ⟨s4, by simp⟩ (by
            rintro q a r' ρ hq ⟨s4, rfl⟩
            refine ⟨_, [.sh (mD M), .sh (.lst ((parts d).map aD)), .sh (.str x), .sh (.lst (((parts d).map (· ++ [none]) ++ (q ++ [a]).flatMap (ext x)).map aD)), .sh (aD a), .no], rfl, ?_, _, rfl⟩
            have hm : a ∈ parts d := by rw [← hq]; simp
            unfold b19_1
            simp only [x_pass, x_seq, x_set, x_ex, x_ret, x_ife, x_fr, x_wh, x_brk, x_rz, e_k, e_v, e_o, e_nil, e_cons, e_tup, e_lst, e_dct, e_op, e_neg, e_not, e_cm, e_ch, e_and, e_or, e_ife, e_ix, e_sl, e_rev, e_b1, e_b2, e_b3, e_call, e_pick, e_isx, e_it, e_rg1, e_rg2, e_enum, e_zip, e_zips, e_items, e_lc, e_lc2, e_dc, e_dc2, g_0, g_s, s_0, s_s, sl_sh, so_l, so_d, k_ok, k_rz, out_ok, out_rz, endR_nx, endR_rt, endR_rz, then_nx, then_rt, then_rz, then_bk, b_bl, l_lst, t_one, t_two, w_one, w_two, two_tup, Bool.false_eq_true, ↓reduceIte, wT_f, i_len_str, i_len_lst, i_len_tup, i_eqI, i_neI, i_ltI, i_leI, i_gtI, i_geI, i_isN, i_nisN, i_isB, i_nisB, i_inS, i_ninS, i_itS, i_itT, i_itL, isND_non, isND_str, isND_tup, isND_lst, isND_int, isND_bl, calm_ok, all_map, any_map, op_add, op_sub, n_ok, Bool.not_true, Bool.not_false, decide_true, decide_false, i_sset x (by omega), chD]
            rw [lcR_ifE (e := fun c => D.str [c]) (p := fun c => !decide (some c ∈ a)) (g := fun c => aD (a ++ [some c])) fun c _ => by
              simp only [x_pass, x_seq, x_set, x_ex, x_ret, x_ife, x_fr, x_wh, x_brk, x_rz, e_k, e_v, e_o, e_nil, e_cons, e_tup, e_lst, e_dct, e_op, e_neg, e_not, e_cm, e_ch, e_and, e_or, e_ife, e_ix, e_sl, e_rev, e_b1, e_b2, e_b3, e_call, e_pick, e_isx, e_it, e_rg1, e_rg2, e_enum, e_zip, e_zips, e_items, e_lc, e_lc2, e_dc, e_dc2, g_0, g_s, s_0, s_s, sl_sh, so_l, so_d, k_ok, k_rz, out_ok, out_rz, endR_nx, endR_rt, endR_rz, then_nx, then_rt, then_rz, then_bk, b_bl, l_lst, t_one, t_two, w_one, w_two, two_tup, Bool.false_eq_true, ↓reduceIte, wT_f, i_len_str, i_len_lst, i_len_tup, i_eqI, i_neI, i_ltI, i_leI, i_gtI, i_geI, i_isN, i_nisN, i_isB, i_nisB, i_inS, i_ninS, i_itS, i_itT, i_itL, isND_non, isND_str, isND_tup, isND_lst, isND_int, isND_bl, calm_ok, all_map, any_map, op_add, op_sub, n_ok, Bool.not_true, Bool.not_false, decide_true, decide_false, i_ninA, i_mkT1]
              have := ap a hm (some c)
              unfold oD at this
              rw [this]
              simp only [x_pass, x_seq, x_set, x_ex, x_ret, x_ife, x_fr, x_wh, x_brk, x_rz, e_k, e_v, e_o, e_nil, e_cons, e_tup, e_lst, e_dct, e_op, e_neg, e_not, e_cm, e_ch, e_and, e_or, e_ife, e_ix, e_sl, e_rev, e_b1, e_b2, e_b3, e_call, e_pick, e_isx, e_it, e_rg1, e_rg2, e_enum, e_zip, e_zips, e_items, e_lc, e_lc2, e_dc, e_dc2, g_0, g_s, s_0, s_s, sl_sh, so_l, so_d, k_ok, k_rz, out_ok, out_rz, endR_nx, endR_rt, endR_rz, then_nx, then_rt, then_rz, then_bk, b_bl, l_lst, t_one, t_two, w_one, w_two, two_tup, Bool.false_eq_true, ↓reduceIte, wT_f, i_len_str, i_len_lst, i_len_tup, i_eqI, i_neI, i_ltI, i_leI, i_gtI, i_geI, i_isN, i_nisN, i_isB, i_nisB, i_inS, i_ninS, i_itS, i_itT, i_itL, isND_non, isND_str, isND_tup, isND_lst, isND_int, isND_bl, calm_ok, all_map, any_map, op_add, op_sub, n_ok, Bool.not_true, Bool.not_false, decide_true, decide_false]]
            simp only [x_pass, x_seq, x_set, x_ex, x_ret, x_ife, x_fr, x_wh, x_brk, x_rz, e_k, e_v, e_o, e_nil, e_cons, e_tup, e_lst, e_dct, e_op, e_neg, e_not, e_cm, e_ch, e_and, e_or, e_ife, e_ix, e_sl, e_rev, e_b1, e_b2, e_b3, e_call, e_pick, e_isx, e_it, e_rg1, e_rg2, e_enum, e_zip, e_zips, e_items, e_lc, e_lc2, e_dc, e_dc2, g_0, g_s, s_0, s_s, sl_sh, so_l, so_d, k_ok, k_rz, out_ok, out_rz, endR_nx, endR_rt, endR_rz, then_nx, then_rt, then_rz, then_bk, b_bl, l_lst, t_one, t_two, w_one, w_two, two_tup, Bool.false_eq_true, ↓reduceIte, wT_f, i_len_str, i_len_lst, i_len_tup, i_eqI, i_neI, i_ltI, i_leI, i_gtI, i_geI, i_isN, i_nisN, i_isB, i_nisB, i_inS, i_ninS, i_itS, i_itT, i_itL, isND_non, isND_str, isND_tup, isND_lst, isND_int, isND_bl, calm_ok, all_map, any_map, op_add, op_sub, n_ok, Bool.not_true, Bool.not_false, decide_true, decide_false, i_addL]
            have e2 : (((lts x).filter fun c => !decide (some c ∈ a)).map fun c => aD (a ++ [some c])) = (ext x a).map aD := by unfold ext; rw [List.map_map]; rfl
            rw [e2, ← List.map_append, i_mkL, List.append_assoc]
            · simp only [x_pass, x_seq, x_set, x_ex, x_ret, x_ife, x_fr, x_wh, x_brk, x_rz, e_k, e_v, e_o, e_nil, e_cons, e_tup, e_lst, e_dct, e_op, e_neg, e_not, e_cm, e_ch, e_and, e_or, e_ife, e_ix, e_sl, e_rev, e_b1, e_b2, e_b3, e_call, e_pick, e_isx, e_it, e_rg1, e_rg2, e_enum, e_zip, e_zips, e_items, e_lc, e_lc2, e_dc, e_dc2, g_0, g_s, s_0, s_s, sl_sh, so_l, so_d, k_ok, k_rz, out_ok, out_rz, endR_nx, endR_rt, endR_rz, then_nx, then_rt, then_rz, then_bk, b_bl, l_lst, t_one, t_two, w_one, w_two, two_tup, Bool.false_eq_true, ↓reduceIte, wT_f, i_len_str, i_len_lst, i_len_tup, i_eqI, i_neI, i_ltI, i_leI, i_gtI, i_geI, i_isN, i_nisN, i_isB, i_nisB, i_inS, i_ninS, i_itS, i_itT, i_itL, isND_non, isND_str, isND_tup, isND_lst, isND_int, isND_bl, calm_ok, all_map, any_map, op_add, op_sub, n_ok, Bool.not_true, Bool.not_false, decide_true, decide_false, List.flatMap_append, List.flatMap_cons, List.flatMap_nil, List.append_nil]
            · refine Nat.le_trans ?_ (Nat.le_trans hb (by decide))
              rw [parts_snoc, ← hq]
              unfold pstep
              simp only [List.length_map, List.length_append, List.flatMap_append, List.flatMap_cons, List.map_append, List.map_cons, List.length_cons]
              omega)
        rw [e, h]
        simp only [x_pass, x_seq, x_set, x_ex, x_ret, x_ife, x_fr, x_wh, x_brk, x_rz, e_k, e_v, e_o, e_nil, e_cons, e_tup, e_lst, e_dct, e_op, e_neg, e_not, e_cm, e_ch, e_and, e_or, e_ife, e_ix, e_sl, e_rev, e_b1, e_b2, e_b3, e_call, e_pick, e_isx, e_it, e_rg1, e_rg2, e_enum, e_zip, e_zips, e_items, e_lc, e_lc2, e_dc, e_dc2, g_0, g_s, s_0, s_s, sl_sh, so_l, so_d, k_ok, k_rz, out_ok, out_rz, endR_nx, endR_rt, endR_rz, then_nx, then_rt, then_rz, then_bk, b_bl, l_lst, t_one, t_two, w_one, w_two, two_tup, Bool.false_eq_true, ↓reduceIte, wT_f, i_len_str, i_len_lst, i_len_tup, i_eqI, i_neI, i_ltI, i_leI, i_gtI, i_geI, i_isN, i_nisN, i_isB, i_nisB, i_inS, i_ninS, i_itS, i_itT, i_itL, isND_non, isND_str, isND_tup, isND_lst, isND_int, isND_bl, calm_ok, all_map, any_map, op_add, op_sub, n_ok, Bool.not_true, Bool.not_false, decide_true, decide_false]
        exact ⟨s4, by rw [parts_snoc]; rfl⟩
      exact ⟨_, _, rfl, hf, _, _, _, rfl⟩)
  have e0 : D.lst [.tup []] = .lst ((parts []).map aD) := rfl
  rw [e, h]
  simp only [x_pass, x_seq, x_set, x_ex, x_ret, x_ife, x_fr, x_wh, x_brk, x_rz, e_k, e_v, e_o, e_nil, e_cons, e_tup, e_lst, e_dct, e_op, e_neg, e_not, e_cm, e_ch, e_and, e_or, e_ife, e_ix, e_sl, e_rev, e_b1, e_b2, e_b3, e_call, e_pick, e_isx, e_it, e_rg1, e_rg2, e_enum, e_zip, e_zips, e_items, e_lc, e_lc2, e_dc, e_dc2, g_0, g_s, s_0, s_s, sl_sh, so_l, so_d, k_ok, k_rz, out_ok, out_rz, endR_nx, endR_rt, endR_rz, then_nx, then_rt, then_rz, then_bk, b_bl, l_lst, t_one, t_two, w_one, w_two, two_tup, Bool.false_eq_true, ↓reduceIte, wT_f, i_len_str, i_len_lst, i_len_tup, i_eqI, i_neI, i_ltI, i_leI, i_gtI, i_geI, i_isN, i_nisN, i_isB, i_nisB, i_inS, i_ninS, i_itS, i_itT, i_itL, isND_non, isND_str, isND_tup, isND_lst, isND_int, isND_bl, calm_ok, all_map, any_map, op_add, op_sub, n_ok, Bool.not_true, Bool.not_false, decide_true, decide_false]
end Mip

set_option linter.all false
set_option maxRecDepth 100000
/-! plain 8: which partial assignments there are; drawn menus -/
namespace Mip
open Mi
theorem isA_nil {a : List (Option Nat)} : IsA [] a ↔ a = [] := by
  constructor
  · intro h
    have := h.len
    cases a <;> simp_all
  · rintro rfl
    exact ⟨rfl, by simp, by simp⟩
theorem isA_snoc {M : List (List Nat)} {x : List Nat} {a : List (Option Nat)} : IsA (M ++ [x]) a ↔ ∃ b o, a = b ++ [o] ∧ IsA M b ∧ (∀ c, o = some c → c ∈ az ∧ c ∈ x ∧ some c ∉ b) := by
  constructor
  · intro h
    have hl := h.len
    rcases List.eq_nil_or_concat a with rfl | ⟨b, o, rfl⟩
    · simp at hl
    · rw [List.concat_eq_append] at *
      simp at hl
      have hz : (M ++ [x]).zip (b ++ [o]) = M.zip b ++ [(x, o)] := by rw [List.zip_append hl.symm]; rfl
      have hf := h.fit
      rw [hz] at hf
      have hn := h.nd
      rw [List.filterMap_append] at hn
      refine ⟨b, o, rfl, ⟨hl, fun p hp c hc => hf p (List.mem_append_left _ hp) c hc, (List.nodup_append.mp hn).1⟩, ?_⟩
      rintro c rfl
      have h1 := hf (x, some c) (by simp) c rfl
      refine ⟨h1.1, h1.2, fun hb => ?_⟩
      exact (List.nodup_append.mp hn).2.2 c (List.mem_filterMap.mpr ⟨_, hb, rfl⟩) c (by simp) rfl
  · rintro ⟨b, o, rfl, h, ho⟩
    have hl := h.len
    have hz : (M ++ [x]).zip (b ++ [o]) = M.zip b ++ [(x, o)] := by rw [List.zip_append hl.symm]; rfl
    refine ⟨by simp [hl], ?_, ?_⟩
    · rw [hz]
      intro p hp c hc
      rcases List.mem_append.mp hp with hp | hp
      · exact h.fit p hp c hc
      · simp at hp
        subst hp
        exact ⟨(ho c hc).1, (ho c hc).2.1⟩
    · rw [List.filterMap_append, List.nodup_append]
      refine ⟨h.nd, by cases o <;> simp, ?_⟩
      intro c hc d hd
      cases o with
      | none => simp at hd
      | some e =>
        simp at hd
        subst hd
        rintro rfl
        obtain ⟨u, hu, e2⟩ := List.mem_filterMap.mp hc
        simp at e2
        subst e2
        exact (ho c rfl).2.2 hu
theorem mem_pstep {f : List (List (Option Nat))} {x : List Nat} {a : List (Option Nat)} : a ∈ pstep f x ↔ ∃ b o, a = b ++ [o] ∧ b ∈ f ∧ (∀ c, o = some c → c ∈ x ∧ some c ∉ b) := by
  unfold pstep ext
  simp only [List.mem_append, List.mem_map, List.mem_flatMap, List.mem_filter, Bool.not_eq_true', decide_eq_false_iff_not, mem_lts]
  constructor
  · rintro (⟨b, hb, rfl⟩ | ⟨b, hb, c, ⟨h1, h2⟩, rfl⟩)
    · exact ⟨b, none, rfl, hb, by simp⟩
    · refine ⟨b, some c, rfl, hb, fun d hd => ?_⟩
      cases hd
      exact ⟨h1, h2⟩
  · rintro ⟨b, o, rfl, hb, h⟩
    cases o with
    | none => exact .inl ⟨b, hb, rfl⟩
    | some c => exact .inr ⟨b, hb, c, h c rfl, rfl⟩
theorem mem_parts (k : Nat) : ∀ {M : List (List Nat)} {a : List (Option Nat)}, M.length = k → (∀ x ∈ M, ∀ c ∈ x, c ∈ az) → (a ∈ parts M ↔ IsA M a) := by
  induction k with
  | zero =>
    intro M a hk hz
    have : M = [] := List.length_eq_zero_iff.mp hk
    subst this
    rw [isA_nil]
    simp [parts]
  | succ k ih =>
    intro M a hk hz
    rcases List.eq_nil_or_concat M with rfl | ⟨N, x, rfl⟩
    · simp at hk
    · rw [List.concat_eq_append] at *
      rw [parts_snoc, mem_pstep, isA_snoc]
      have hN : ∀ b, b ∈ parts N ↔ IsA N b := fun b => ih (by simpa using hk) fun y hy => hz y (List.mem_append_left _ hy)
      constructor
      · rintro ⟨b, o, e, h1, h2⟩
        exact ⟨b, o, e, (hN b).mp h1, fun c hc => ⟨hz x (by simp) c (h2 c hc).1, (h2 c hc).1, (h2 c hc).2⟩⟩
      · rintro ⟨b, o, e, h1, h2⟩
        exact ⟨b, o, e, (hN b).mpr h1, fun c hc => ⟨(h2 c hc).2.1, (h2 c hc).2.2⟩⟩
/-! ### equality -/
mutual
theorem eqv_refl : ∀ d : D, ∀ n, d.dat n = true → D.eqv d d = true
  | .non, _, _ => by simp [D.eqv]
  | .bl _, _, _ => by simp [D.eqv]
  | .int _, _, _ => by simp [D.eqv]
  | .str _, _, _ => by simp [D.eqv]
  | .lst xs, 0, h => by simp [D.dat] at h
  | .tup xs, 0, h => by simp [D.dat] at h
  | .lst xs, n + 1, h => by rw [D.eqv]; exact eqvs_refl xs n (by simpa [D.dat] using h)
  | .tup xs, n + 1, h => by rw [D.eqv]; exact eqvs_refl xs n (by simpa [D.dat] using h)
  | .dic _ _, 0, h => by simp [D.dat] at h
  | .dic _ _, _ + 1, h => by simp [D.dat] at h
  | .scr _, 0, h => by simp [D.dat] at h
  | .scr _, _ + 1, h => by simp [D.dat] at h
theorem eqvs_refl : ∀ d : List D, ∀ n, (∀ x ∈ d, x.dat n = true) → eqvs d d = true
  | [], _, _ => by simp [eqvs]
  | x :: xs, n, h => by
    rw [eqvs, eqv_refl x n (h x List.mem_cons_self), eqvs_refl xs n fun y hy => h y (List.mem_cons_of_mem _ hy)]
    rfl
end
theorem i_eq_refl {d : D} (h : Dat d) : cmR .eq d d = .ok true := by rw [i_eq h h, eqv_refl d 30 h]
theorem i_ne_refl {d : D} (h : Dat d) : cmR .ne d d = .ok false := by rw [i_ne h h, eqv_refl d 30 h]; rfl
theorem eqv_oD (o : Option Nat) (y : D) : D.eqv (oD o) y = true ↔ y = oD o := by
  cases o <;> cases y <;> simp [oD, D.eqv]
  rename_i c x
  exact ⟨fun h => h.symm, fun h => h.symm⟩
theorem eqvs_oD : ∀ (a : List (Option Nat)) (ys : List D), eqvs (a.map oD) ys = true ↔ ys = a.map oD
  | [], [] => by simp [eqvs]
  | [], _ :: _ => by simp [eqvs]
  | _ :: _, [] => by simp [eqvs]
  | o :: a, y :: ys => by
    rw [List.map_cons, eqvs, Bool.and_eq_true, eqv_oD, eqvs_oD a ys]
    simp
/-- a tuple among all partial assignments -/
theorem in_parts {M : List (List Nat)} (hz : ∀ x ∈ M, ∀ c ∈ x, c ∈ az) {xs : List D} (h : Dat (.tup xs)) : cmR .inn (.tup xs) (.lst ((parts M).map aD)) = .ok (hasA M (.tup xs)) := by
  show (if (D.tup xs).dat 30 && ((parts M).map aD).all (D.dat 30) then R.ok (inSeq (.tup xs) ((parts M).map aD)) else .no) = _
  have h2 : ((parts M).map aD).all (D.dat 30) = true := by
    rw [List.all_eq_true]
    intro x hx
    obtain ⟨a, _, rfl⟩ := List.mem_map.mp hx
    exact dat_aD a
  rw [h2, show (D.tup xs).dat 30 = true from h]
  simp only [Bool.and_self, ↓reduceIte]
  congr 1
  rw [Bool.eq_iff_iff]
  unfold inSeq
  rw [List.any_map, List.any_eq_true]
  constructor
  · rintro ⟨a, ha, e⟩
    have e : D.eqv (aD a) (.tup xs) = true := e
    unfold aD at e
    rw [D.eqv, eqvs_oD] at e
    subst e
    exact hasA_of ((mem_parts _ rfl hz).mp ha)
  · intro e
    obtain ⟨a, rfl⟩ : ∃ a : List (Option Nat), xs = a.map oD := by
      simp only [hasA, Bool.and_eq_true, decide_eq_true_eq, List.all_eq_true] at e
      have h3 := e.1.1
      have h4 := e.1.2
      clear e h h2 hz
      induction xs generalizing M with
      | nil => exact ⟨[], rfl⟩
      | cons y ys ih =>
        cases M with
        | nil => simp at h3
        | cons m M =>
          obtain ⟨a, ha⟩ := ih (by simpa using h3) fun p hp => h4 p (by simp [hp])
          have := h4 (m, y) (by simp)
          rw [ha]
          cases y <;> first | (simp [fitsB] at this; done) | skip
          · exact ⟨none :: a, rfl⟩
          · rename_i z
            match z, this with
            | [], this => simp [fitsB] at this
            | [c], _ => exact ⟨some c :: a, rfl⟩
            | _ :: _ :: _, this => simp [fitsB] at this
    have := hasA_iff.mp e
    exact ⟨a, (mem_parts _ rfl hz).mpr this, eqv_refl _ 30 (dat_aD a)⟩
/-! ### drawn menus -/
structure LM (most kinds : Int) (M : List (List Nat)) : Prop where
  len : (M.length : Int) ≤ most
  nd : M.Nodup
  nm : ∀ x ∈ M, 1 ≤ x.length ∧ x.length ≤ 3 ∧ ∀ c ∈ x, 97 ≤ c ∧ (c : Int) < 97 + kinds
theorem rng0 (d : Int) (h : 0 ≤ d) (h2 : d ≤ 1000000) : rngR (.int 0) (.int d) = .ok ((List.range d.toNat).map fun n => .int (n : Nat)) := by
  show (if okRng 0 d then R.ok (rngL 0 d) else .no) = _
  unfold okRng
  have : (decide (-1000000 ≤ (0 : Int)) && decide ((0 : Int) ≤ 1000000) && decide (-1000000 ≤ d) && decide (d ≤ 1000000)) = true := by
    simp; omega
  rw [this]
  simp only [↓reduceIte, rngL, Int.sub_zero, Int.zero_add]
theorem atI_ok {α : Type} {l : List α} {d : Int} (h : 0 ≤ d) (h2 : d < l.length) : ∃ x, atI l d = some x ∧ l[d.toNat]? = some x := by
  have : d.toNat < l.length := by omega
  refine ⟨l[d.toNat], ?_, by simp [this]⟩
  unfold atI ixN
  rw [if_pos h, if_pos (by omega)]
  simp [this]
theorem ix_lst {l : List D} {d : Int} (h : 0 ≤ d) (h2 : d < l.length) : ∃ x, ixR (.lst l) (.int d) = .ok x ∧ x ∈ l := by
  obtain ⟨x, e, e2⟩ := atI_ok h h2
  exact ⟨x, by show R.ofO (atI l d) = _; rw [e]; rfl, List.mem_of_getElem? e2⟩
theorem ix_str {x : List Nat} {d : Int} (h : 0 ≤ d) (h2 : d < x.length) : ∃ c, ixR (.str x) (.int d) = .ok (.str [c]) ∧ x[d.toNat]? = some c := by
  obtain ⟨c, e, e2⟩ := atI_ok h h2
  refine ⟨c, ?_, e2⟩
  show (match atI x d with
    | some c => R.ok (D.str [c])
    | none => .no) = _
  rw [e]
theorem dat_strs (F : List (List Nat)) : (F.map D.str).all (D.dat 30) = true := by
  rw [List.all_eq_true]
  intro x hx
  obtain ⟨a, _, rfl⟩ := List.mem_map.mp hx
  exact dat_str a
theorem inSeq_str (x : List Nat) (F : List (List Nat)) : inSeq (.str x) (F.map .str) = decide (x ∈ F) := by
  unfold inSeq
  rw [List.any_map]
  induction F with
  | nil => rfl
  | cons y r ih =>
    rw [List.any_cons, ih]
    simp only [Function.comp_apply, D.eqv, List.mem_cons]
    by_cases e : y = x
    · subst e; simp
    · have : ¬ x = y := fun z => e z.symm
      simp [e, this]
theorem i_inSL (x : List Nat) (F : List (List Nat)) : cmR .inn (.str x) (.lst (F.map .str)) = .ok (decide (x ∈ F)) := by
  show (if (D.str x).dat 30 && (F.map D.str).all (D.dat 30) then R.ok (inSeq (.str x) (F.map .str)) else .no) = _
  rw [dat_strs, inSeq_str]
  simp [D.dat]
theorem i_ninSL (x : List Nat) (F : List (List Nat)) : cmR .nin (.str x) (.lst (F.map .str)) = .ok (!decide (x ∈ F)) := by
  show neg (cmR .inn (.str x) (.lst (F.map .str))) = _
  rw [i_inSL]; rfl
theorem r_law_menu (n : Nat) (ns : List Int) (at_ most kinds : Int) (hn : ns.length < 2 ^ 20) (h1 : 0 ≤ at_) (h2 : at_ ≤ 10000) (h3 : 0 ≤ most) (h4 : most ≤ 8) (h5 : 1 ≤ kinds) (h6 : kinds ≤ 8) :
    ∃ M, run TT (n + 2) 17 [.scr ns, .int at_, .int most, .int kinds] = .ok (mD M) ∧ LM most kinds M := by
  rw [runT (fd := fd17) rfl rfl rfl rfl]
  show ∃ M, endR (exec (wT (n + 1)) c17 [.sh (.scr ns), .sh (.int at_), .sh (.int most), .sh (.int kinds), .no, .no, .no, .no]) = .ok (mD M) ∧ _
  unfold c17
  obtain ⟨q, hq, hq1, hq2⟩ := drw_k n ns at_ (most + 1) hn h1 (by omega) (by omega)
  simp only [x_pass, x_seq, x_set, x_ex, x_ret, x_ife, x_fr, x_wh, x_brk, x_rz, e_k, e_v, e_o, e_nil, e_cons, e_tup, e_lst, e_dct, e_op, e_neg, e_not, e_cm, e_ch, e_and, e_or, e_ife, e_ix, e_sl, e_rev, e_b1, e_b2, e_b3, e_call, e_pick, e_isx, e_it, e_rg1, e_rg2, e_enum, e_zip, e_zips, e_items, e_lc, e_lc2, e_dc, e_dc2, g_0, g_s, s_0, s_s, sl_sh, so_l, so_d, k_ok, k_rz, out_ok, out_rz, endR_nx, endR_rt, endR_rz, then_nx, then_rt, then_rz, then_bk, b_bl, l_lst, t_one, t_two, w_one, w_two, two_tup, Bool.false_eq_true, ↓reduceIte, wT_f, i_len_str, i_len_lst, i_len_tup, i_eqI, i_neI, i_ltI, i_leI, i_gtI, i_geI, i_isN, i_nisN, i_isB, i_nisB, i_inS, i_ninS, i_itS, i_itT, i_itL, isND_non, isND_str, isND_tup, isND_lst, isND_int, isND_bl, calm_ok, all_map, any_map, op_add, op_sub, n_ok, Bool.not_true, Bool.not_false, decide_true, decide_false, i_mkL0, hq]
  rw [rng0 q hq1 (by omega)]
  simp only [x_pass, x_seq, x_set, x_ex, x_ret, x_ife, x_fr, x_wh, x_brk, x_rz, e_k, e_v, e_o, e_nil, e_cons, e_tup, e_lst, e_dct, e_op, e_neg, e_not, e_cm, e_ch, e_and, e_or, e_ife, e_ix, e_sl, e_rev, e_b1, e_b2, e_b3, e_call, e_pick, e_isx, e_it, e_rg1, e_rg2, e_enum, e_zip, e_zips, e_items, e_lc, e_lc2, e_dc, e_dc2, g_0, g_s, s_0, s_s, sl_sh, so_l, so_d, k_ok, k_rz, out_ok, out_rz, endR_nx, endR_rt, endR_rz, then_nx, then_rt, then_rz, then_bk, b_bl, l_lst, t_one, t_two, w_one, w_two, two_tup, Bool.false_eq_true, ↓reduceIte, wT_f, i_len_str, i_len_lst, i_len_tup, i_eqI, i_neI, i_ltI, i_leI, i_gtI, i_geI, i_isN, i_nisN, i_isB, i_nisB, i_inS, i_ninS, i_itS, i_itT, i_itL, isND_non, isND_str, isND_tup, isND_lst, isND_int, isND_bl, calm_ok, all_map, any_map, op_add, op_sub, n_ok, Bool.not_true, Bool.not_false, decide_true, decide_false]
  obtain ⟨ρ, e, F, s5, s6, s7, h, g1, g2, g3⟩ := forR_all (g := .one 5) (b := exec (wT (n + 1)) b17_2) (e := fun n : Nat => D.int n) (xs := List.range q.toNat) (ρ := [.sh (.scr ns), .sh (.int at_), .sh (.int most), .sh (.int kinds), .sh (.lst []), .no, .no, .no])
    (fun d ρ => ∃ (F : List (List Nat)) (s5 s6 s7 : Sl), ρ = [.sh (.scr ns), .sh (.int at_), .sh (.int most), .sh (.int kinds), .sh (.lst (F.map .str)), s5, s6, s7] ∧ F.length ≤ d.length ∧ F.Nodup ∧ ∀ x ∈ F, 1 ≤ x.length ∧ x.length ≤ 3 ∧ ∀ c ∈ x, 97 ≤ c ∧ (c : Int) < 97 + kinds)
    ⟨[], .no, .no, .no, rfl, by simp, by simp, by simp⟩ (by
      rintro d k r ρ hd ⟨F, s5, s6, s7, rfl, g1, g2, g3⟩
      have hk : (k : Int) < q := by
        have : k ∈ List.range q.toNat := by rw [← hd]; simp
        rw [List.mem_range] at this
        omega
      have hdl : d.length < 9 := by
        have := congrArg List.length hd
        simp at this
        omega
      obtain ⟨w, hw, hw1, hw2⟩ := drw_k n ns (at_ + 1 + 6 * k) 3 hn (by omega) (by omega) (by omega)
      have hmul : opR .mul (.int 6) (.int (k : Int)) = .ok (.int (6 * (k : Int))) := op_mul (.inl (by decide))
      obtain ⟨ρ', hρ', x, s7', rfl, hx1, hx2, hx3⟩ : ∃ ρ', forR (.one 7) (exec (wT (n + 1)) b17_1) ((List.range (1 + w).toNat).map fun n : Nat => D.int n) [.sh (.scr ns), .sh (.int at_), .sh (.int most), .sh (.int kinds), .sh (.lst (F.map .str)), .sh (.int k), .sh (.str []), s7] = .nx ρ' ∧ ∃ (x : List Nat) (s7' : Sl), ρ' = [.sh (.scr ns), .sh (.int at_), .sh (.int most), .sh (.int kinds), .sh (.lst (F.map .str)), .sh (.int k), .sh (.str x), s7'] ∧ 1 ≤ x.length ∧ x.length ≤ 3 ∧ ∀ c ∈ x, 97 ≤ c ∧ (c : Int) < 97 + kinds := by
        obtain ⟨ρ', e, x, s7', h, i1, i2⟩ := forR_all (g := .one 7) (b := exec (wT (n + 1)) b17_1) (e := fun n : Nat => D.int n) (xs := List.range (1 + w).toNat) (ρ := [.sh (.scr ns), .sh (.int at_), .sh (.int most), .sh (.int kinds), .sh (.lst (F.map .str)), .sh (.int k), .sh (.str []), s7])
          (fun d ρ => ∃ (x : List Nat) (s7' : Sl), ρ = [.sh (.scr ns), .sh (.int at_), .sh (.int most), .sh (.int kinds), .sh (.lst (F.map .str)), .sh (.int k), .sh (.str x), s7'] ∧ x.length = d.length ∧ ∀ c ∈ x, 97 ≤ c ∧ (c : Int) < 97 + kinds)
          ⟨[], s7, rfl, rfl, by simp⟩ (by
            rintro d j r ρ hd ⟨x, s7', rfl, i1, i2⟩
            have hj : (j : Int) < 1 + w := by
              have : j ∈ List.range (1 + w).toNat := by rw [← hd]; simp
              rw [List.mem_range] at this
              omega
            have hdl : d.length < 4 := by
              have := congrArg List.length hd
              simp at this
              omega
            obtain ⟨v, hv, hv1, hv2⟩ := drw_k n ns (at_ + 2 + 6 * k + j) kinds hn (by omega) (by omega) (by omega)
            obtain ⟨c, hc, hc2⟩ := ix_str (x := [97, 98, 99, 100, 101, 102, 103, 104]) hv1 (by simp; omega)
            have hc3 : c = 97 + v.toNat := by
              have : v.toNat < 8 := by omega
              have : v.toNat = 0 ∨ v.toNat = 1 ∨ v.toNat = 2 ∨ v.toNat = 3 ∨ v.toNat = 4 ∨ v.toNat = 5 ∨ v.toNat = 6 ∨ v.toNat = 7 := by omega
              rcases this with h | h | h | h | h | h | h | h <;> rw [h] at hc2 ⊢ <;> simp at hc2 <;> omega
            refine ⟨_, _, rfl, ?_, x ++ [c], .sh (.int j), rfl, by simp [i1], ?_⟩
            · unfold b17_1
              simp only [x_pass, x_seq, x_set, x_ex, x_ret, x_ife, x_fr, x_wh, x_brk, x_rz, e_k, e_v, e_o, e_nil, e_cons, e_tup, e_lst, e_dct, e_op, e_neg, e_not, e_cm, e_ch, e_and, e_or, e_ife, e_ix, e_sl, e_rev, e_b1, e_b2, e_b3, e_call, e_pick, e_isx, e_it, e_rg1, e_rg2, e_enum, e_zip, e_zips, e_items, e_lc, e_lc2, e_dc, e_dc2, g_0, g_s, s_0, s_s, sl_sh, so_l, so_d, k_ok, k_rz, out_ok, out_rz, endR_nx, endR_rt, endR_rz, then_nx, then_rt, then_rz, then_bk, b_bl, l_lst, t_one, t_two, w_one, w_two, two_tup, Bool.false_eq_true, ↓reduceIte, wT_f, i_len_str, i_len_lst, i_len_tup, i_eqI, i_neI, i_ltI, i_leI, i_gtI, i_geI, i_isN, i_nisN, i_isB, i_nisB, i_inS, i_ninS, i_itS, i_itT, i_itL, isND_non, isND_str, isND_tup, isND_lst, isND_int, isND_bl, calm_ok, all_map, any_map, op_add, op_sub, n_ok, Bool.not_true, Bool.not_false, decide_true, decide_false, hmul, hv, hc, i_addS]
              rw [i_mkS (by simp; omega)]
              simp only [x_pass, x_seq, x_set, x_ex, x_ret, x_ife, x_fr, x_wh, x_brk, x_rz, e_k, e_v, e_o, e_nil, e_cons, e_tup, e_lst, e_dct, e_op, e_neg, e_not, e_cm, e_ch, e_and, e_or, e_ife, e_ix, e_sl, e_rev, e_b1, e_b2, e_b3, e_call, e_pick, e_isx, e_it, e_rg1, e_rg2, e_enum, e_zip, e_zips, e_items, e_lc, e_lc2, e_dc, e_dc2, g_0, g_s, s_0, s_s, sl_sh, so_l, so_d, k_ok, k_rz, out_ok, out_rz, endR_nx, endR_rt, endR_rz, then_nx, then_rt, then_rz, then_bk, b_bl, l_lst, t_one, t_two, w_one, w_two, two_tup, Bool.false_eq_true, ↓reduceIte, wT_f, i_len_str, i_len_lst, i_len_tup, i_eqI, i_neI, i_ltI, i_leI, i_gtI, i_geI, i_isN, i_nisN, i_isB, i_nisB, i_inS, i_ninS, i_itS, i_itT, i_itL, isND_non, isND_str, isND_tup, isND_lst, isND_int, isND_bl, calm_ok, all_map, any_map, op_add, op_sub, n_ok, Bool.not_true, Bool.not_false, decide_true, decide_false]
            · intro e he
              rcases List.mem_append.mp he with he | he
              · exact i2 e he
              · simp at he
                subst he
                omega)
        refine ⟨ρ', e, x, s7', h, ?_, ?_, i2⟩
        · rw [i1, List.length_range]; omega
        · rw [i1, List.length_range]; omega
      by_cases hm : x ∈ F
      · refine ⟨_, _, rfl, ?_, F, .sh (.int k), .sh (.str x), s7', rfl, by rw [List.length_append]; omega, g2, g3⟩
        unfold b17_2
        simp only [x_pass, x_seq, x_set, x_ex, x_ret, x_ife, x_fr, x_wh, x_brk, x_rz, e_k, e_v, e_o, e_nil, e_cons, e_tup, e_lst, e_dct, e_op, e_neg, e_not, e_cm, e_ch, e_and, e_or, e_ife, e_ix, e_sl, e_rev, e_b1, e_b2, e_b3, e_call, e_pick, e_isx, e_it, e_rg1, e_rg2, e_enum, e_zip, e_zips, e_items, e_lc, e_lc2, e_dc, e_dc2, g_0, g_s, s_0, s_s, sl_sh, so_l, so_d, k_ok, k_rz, out_ok, out_rz, endR_nx, endR_rt, endR_rz, then_nx, then_rt, then_rz, then_bk, b_bl, l_lst, t_one, t_two, w_one, w_two, two_tup, Bool.false_eq_true, ↓reduceIte, wT_f, i_len_str, i_len_lst, i_len_tup, i_eqI, i_neI, i_ltI, i_leI, i_gtI, i_geI, i_isN, i_nisN, i_isB, i_nisB, i_inS, i_ninS, i_itS, i_itT, i_itL, isND_non, isND_str, isND_tup, isND_lst, isND_int, isND_bl, calm_ok, all_map, any_map, op_add, op_sub, n_ok, Bool.not_true, Bool.not_false, decide_true, decide_false, hmul, hw]
        rw [rng0 _ (by omega) (by omega)]
        simp only [x_pass, x_seq, x_set, x_ex, x_ret, x_ife, x_fr, x_wh, x_brk, x_rz, e_k, e_v, e_o, e_nil, e_cons, e_tup, e_lst, e_dct, e_op, e_neg, e_not, e_cm, e_ch, e_and, e_or, e_ife, e_ix, e_sl, e_rev, e_b1, e_b2, e_b3, e_call, e_pick, e_isx, e_it, e_rg1, e_rg2, e_enum, e_zip, e_zips, e_items, e_lc, e_lc2, e_dc, e_dc2, g_0, g_s, s_0, s_s, sl_sh, so_l, so_d, k_ok, k_rz, out_ok, out_rz, endR_nx, endR_rt, endR_rz, then_nx, then_rt, then_rz, then_bk, b_bl, l_lst, t_one, t_two, w_one, w_two, two_tup, Bool.false_eq_true, ↓reduceIte, wT_f, i_len_str, i_len_lst, i_len_tup, i_eqI, i_neI, i_ltI, i_leI, i_gtI, i_geI, i_isN, i_nisN, i_isB, i_nisB, i_inS, i_ninS, i_itS, i_itT, i_itL, isND_non, isND_str, isND_tup, isND_lst, isND_int, isND_bl, calm_ok, all_map, any_map, op_add, op_sub, n_ok, Bool.not_true, Bool.not_false, decide_true, decide_false]
        rw [hρ']
        simp only [x_pass, x_seq, x_set, x_ex, x_ret, x_ife, x_fr, x_wh, x_brk, x_rz, e_k, e_v, e_o, e_nil, e_cons, e_tup, e_lst, e_dct, e_op, e_neg, e_not, e_cm, e_ch, e_and, e_or, e_ife, e_ix, e_sl, e_rev, e_b1, e_b2, e_b3, e_call, e_pick, e_isx, e_it, e_rg1, e_rg2, e_enum, e_zip, e_zips, e_items, e_lc, e_lc2, e_dc, e_dc2, g_0, g_s, s_0, s_s, sl_sh, so_l, so_d, k_ok, k_rz, out_ok, out_rz, endR_nx, endR_rt, endR_rz, then_nx, then_rt, then_rz, then_bk, b_bl, l_lst, t_one, t_two, w_one, w_two, two_tup, Bool.false_eq_true, ↓reduceIte, wT_f, i_len_str, i_len_lst, i_len_tup, i_eqI, i_neI, i_ltI, i_leI, i_gtI, i_geI, i_isN, i_nisN, i_isB, i_nisB, i_inS, i_ninS, i_itS, i_itT, i_itL, isND_non, isND_str, isND_tup, isND_lst, isND_int, isND_bl, calm_ok, all_map, any_map, op_add, op_sub, n_ok, Bool.not_true, Bool.not_false, decide_true, decide_false, i_ninSL, decide_eq_true hm, i_mkL0, i_addL, List.append_nil]
        rw [i_mkL (by simp; omega)]
        simp only [x_pass, x_seq, x_set, x_ex, x_ret, x_ife, x_fr, x_wh, x_brk, x_rz, e_k, e_v, e_o, e_nil, e_cons, e_tup, e_lst, e_dct, e_op, e_neg, e_not, e_cm, e_ch, e_and, e_or, e_ife, e_ix, e_sl, e_rev, e_b1, e_b2, e_b3, e_call, e_pick, e_isx, e_it, e_rg1, e_rg2, e_enum, e_zip, e_zips, e_items, e_lc, e_lc2, e_dc, e_dc2, g_0, g_s, s_0, s_s, sl_sh, so_l, so_d, k_ok, k_rz, out_ok, out_rz, endR_nx, endR_rt, endR_rz, then_nx, then_rt, then_rz, then_bk, b_bl, l_lst, t_one, t_two, w_one, w_two, two_tup, Bool.false_eq_true, ↓reduceIte, wT_f, i_len_str, i_len_lst, i_len_tup, i_eqI, i_neI, i_ltI, i_leI, i_gtI, i_geI, i_isN, i_nisN, i_isB, i_nisB, i_inS, i_ninS, i_itS, i_itT, i_itL, isND_non, isND_str, isND_tup, isND_lst, isND_int, isND_bl, calm_ok, all_map, any_map, op_add, op_sub, n_ok, Bool.not_true, Bool.not_false, decide_true, decide_false]
      · refine ⟨_, _, rfl, ?_, F ++ [x], .sh (.int k), .sh (.str x), s7', rfl, by simp; omega, ?_, ?_⟩
        · unfold b17_2
          simp only [x_pass, x_seq, x_set, x_ex, x_ret, x_ife, x_fr, x_wh, x_brk, x_rz, e_k, e_v, e_o, e_nil, e_cons, e_tup, e_lst, e_dct, e_op, e_neg, e_not, e_cm, e_ch, e_and, e_or, e_ife, e_ix, e_sl, e_rev, e_b1, e_b2, e_b3, e_call, e_pick, e_isx, e_it, e_rg1, e_rg2, e_enum, e_zip, e_zips, e_items, e_lc, e_lc2, e_dc, e_dc2, g_0, g_s, s_0, s_s, sl_sh, so_l, so_d, k_ok, k_rz, out_ok, out_rz, endR_nx, endR_rt, endR_rz, then_nx, then_rt, then_rz, then_bk, b_bl, l_lst, t_one, t_two, w_one, w_two, two_tup, Bool.false_eq_true, ↓reduceIte, wT_f, i_len_str, i_len_lst, i_len_tup, i_eqI, i_neI, i_ltI, i_leI, i_gtI, i_geI, i_isN, i_nisN, i_isB, i_nisB, i_inS, i_ninS, i_itS, i_itT, i_itL, isND_non, isND_str, isND_tup, isND_lst, isND_int, isND_bl, calm_ok, all_map, any_map, op_add, op_sub, n_ok, Bool.not_true, Bool.not_false, decide_true, decide_false, hmul, hw]
          rw [rng0 _ (by omega) (by omega)]
          simp only [x_pass, x_seq, x_set, x_ex, x_ret, x_ife, x_fr, x_wh, x_brk, x_rz, e_k, e_v, e_o, e_nil, e_cons, e_tup, e_lst, e_dct, e_op, e_neg, e_not, e_cm, e_ch, e_and, e_or, e_ife, e_ix, e_sl, e_rev, e_b1, e_b2, e_b3, e_call, e_pick, e_isx, e_it, e_rg1, e_rg2, e_enum, e_zip, e_zips, e_items, e_lc, e_lc2, e_dc, e_dc2, g_0, g_s, s_0, s_s, sl_sh, so_l, so_d, k_ok, k_rz, out_ok, out_rz, endR_nx, endR_rt, endR_rz, then_nx, then_rt, then_rz, then_bk, b_bl, l_lst, t_one, t_two, w_one, w_two, two_tup, Bool.false_eq_true, ↓reduceIte, wT_f, i_len_str, i_len_lst, i_len_tup, i_eqI, i_neI, i_ltI, i_leI, i_gtI, i_geI, i_isN, i_nisN, i_isB, i_nisB, i_inS, i_ninS, i_itS, i_itT, i_itL, isND_non, isND_str, isND_tup, isND_lst, isND_int, isND_bl, calm_ok, all_map, any_map, op_add, op_sub, n_ok, Bool.not_true, Bool.not_false, decide_true, decide_false]
          rw [hρ']
          simp only [x_pass, x_seq, x_set, x_ex, x_ret, x_ife, x_fr, x_wh, x_brk, x_rz, e_k, e_v, e_o, e_nil, e_cons, e_tup, e_lst, e_dct, e_op, e_neg, e_not, e_cm, e_ch, e_and, e_or, e_ife, e_ix, e_sl, e_rev, e_b1, e_b2, e_b3, e_call, e_pick, e_isx, e_it, e_rg1, e_rg2, e_enum, e_zip, e_zips, e_items, e_lc, e_lc2, e_dc, e_dc2, g_0, g_s, s_0, s_s, sl_sh, so_l, so_d, k_ok, k_rz, out_ok, out_rz, endR_nx, endR_rt, endR_rz, then_nx, then_rt, then_rz, then_bk, b_bl, l_lst, t_one, t_two, w_one, w_two, two_tup, Bool.false_eq_true, ↓reduceIte, wT_f, i_len_str, i_len_lst, i_len_tup, i_eqI, i_neI, i_ltI, i_leI, i_gtI, i_geI, i_isN, i_nisN, i_isB, i_nisB, i_inS, i_ninS, i_itS, i_itT, i_itL, isND_non, isND_str, isND_tup, isND_lst, isND_int, isND_bl, calm_ok, all_map, any_map, op_add, op_sub, n_ok, Bool.not_true, Bool.not_false, decide_true, decide_false, i_ninSL, decide_eq_false hm, i_mkL1, i_addL]
          rw [i_mkL (by simp; omega)]
          simp only [x_pass, x_seq, x_set, x_ex, x_ret, x_ife, x_fr, x_wh, x_brk, x_rz, e_k, e_v, e_o, e_nil, e_cons, e_tup, e_lst, e_dct, e_op, e_neg, e_not, e_cm, e_ch, e_and, e_or, e_ife, e_ix, e_sl, e_rev, e_b1, e_b2, e_b3, e_call, e_pick, e_isx, e_it, e_rg1, e_rg2, e_enum, e_zip, e_zips, e_items, e_lc, e_lc2, e_dc, e_dc2, g_0, g_s, s_0, s_s, sl_sh, so_l, so_d, k_ok, k_rz, out_ok, out_rz, endR_nx, endR_rt, endR_rz, then_nx, then_rt, then_rz, then_bk, b_bl, l_lst, t_one, t_two, w_one, w_two, two_tup, Bool.false_eq_true, ↓reduceIte, wT_f, i_len_str, i_len_lst, i_len_tup, i_eqI, i_neI, i_ltI, i_leI, i_gtI, i_geI, i_isN, i_nisN, i_isB, i_nisB, i_inS, i_ninS, i_itS, i_itT, i_itL, isND_non, isND_str, isND_tup, isND_lst, isND_int, isND_bl, calm_ok, all_map, any_map, op_add, op_sub, n_ok, Bool.not_true, Bool.not_false, decide_true, decide_false, List.map_append, List.map_cons, List.map_nil]
        · rw [List.nodup_append]
          refine ⟨g2, by simp, fun a ha b hb => ?_⟩
          simp at hb
          subst hb
          rintro rfl
          exact hm ha
        · intro y hy
          rcases List.mem_append.mp hy with hy | hy
          · exact g3 y hy
          · simp at hy
            subst hy
            exact ⟨hx1, hx2, hx3⟩)
  have e' : forR (.one 5) (exec (wT (n + 1)) b17_2) ((List.range q.toNat).map fun n : Nat => D.int n) [.sh (.scr ns), .sh (.int at_), .sh (.int most), .sh (.int kinds), .sh (.lst []), .no, .no, .no] = .nx ρ := e
  rw [e', h]
  simp only [x_pass, x_seq, x_set, x_ex, x_ret, x_ife, x_fr, x_wh, x_brk, x_rz, e_k, e_v, e_o, e_nil, e_cons, e_tup, e_lst, e_dct, e_op, e_neg, e_not, e_cm, e_ch, e_and, e_or, e_ife, e_ix, e_sl, e_rev, e_b1, e_b2, e_b3, e_call, e_pick, e_isx, e_it, e_rg1, e_rg2, e_enum, e_zip, e_zips, e_items, e_lc, e_lc2, e_dc, e_dc2, g_0, g_s, s_0, s_s, sl_sh, so_l, so_d, k_ok, k_rz, out_ok, out_rz, endR_nx, endR_rt, endR_rz, then_nx, then_rt, then_rz, then_bk, b_bl, l_lst, t_one, t_two, w_one, w_two, two_tup, Bool.false_eq_true, ↓reduceIte, wT_f, i_len_str, i_len_lst, i_len_tup, i_eqI, i_neI, i_ltI, i_leI, i_gtI, i_geI, i_isN, i_nisN, i_isB, i_nisB, i_inS, i_ninS, i_itS, i_itT, i_itL, isND_non, isND_str, isND_tup, isND_lst, isND_int, isND_bl, calm_ok, all_map, any_map, op_add, op_sub, n_ok, Bool.not_true, Bool.not_false, decide_true, decide_false]
  refine ⟨F, rfl, ?_, g2, g3⟩
  rw [List.length_range] at g1
  omega
end Mip

set_option linter.all false
set_option maxRecDepth 100000
/-! plain 9: the first law -/
namespace Mip
open Mi
theorem parts_ne (M : List (List Nat)) : parts M ≠ [] := by
  have : ∀ (M : List (List Nat)) f, f ≠ [] → M.foldl pstep f ≠ [] := by
    intro M
    induction M with
    | nil => intro f h; exact h
    | cons x r ih =>
      intro f h
      rw [List.foldl_cons]
      refine ih _ ?_
      unfold pstep
      cases f with
      | nil => exact absurd rfl h
      | cons a f => simp
  exact this M [[]] (by simp)
theorem lm_az {most kinds : Int} {M : List (List Nat)} (h : LM most kinds M) (hk : kinds ≤ 26) : ∀ x ∈ M, ∀ c ∈ x, c ∈ az := by
  intro x hx c hc
  have h1 := (h.nm x hx).2.2 c hc
  have : 97 ≤ c ∧ c < 123 := by omega
  have key : ∀ c : Nat, c < 123 → 97 ≤ c → c ∈ az := by decide
  exact key c this.2 this.1
theorem lm_mn {most kinds : Int} {M : List (List Nat)} (h : LM most kinds M) (hk : kinds ≤ 26) (hm : most ≤ 8) : isMn M = true := by
  have h0 := lm_az h hk
  simp only [isMn, Bool.and_eq_true, decide_eq_true_eq, List.all_eq_true]
  refine ⟨⟨by have := h.len; omega, fun x hx => ?_⟩, h.nd⟩
  have h1 := h.nm x hx
  simp only [isNm, Bool.and_eq_true, decide_eq_true_eq, List.all_eq_true]
  exact ⟨⟨h1.1, by omega⟩, fun c hc => h0 x hx c hc⟩
theorem lm_short {most kinds : Int} {M : List (List Nat)} (h : LM most kinds M) (hm : most ≤ 8) : Short M :=
  ⟨by have := h.len; omega, fun x hx => (h.nm x hx).2.1⟩
/-! ### what is refused -/
theorem z_is_assignment (n : Nat) (o d : D) (h : Dat o) (hm : isMnD o = false) : run TT (n + 4) 8 [o, d] = .rz 1 := by
  rw [runT (fd := fd8) rfl rfl rfl rfl]
  show endR (exec (wT (n + 3)) c8 [.sh o, .sh d]) = _
  simp only [c8, x_pass, x_seq, x_set, x_ex, x_ret, x_ife, x_fr, x_wh, x_brk, x_rz, e_k, e_v, e_o, e_nil, e_cons, e_tup, e_lst, e_dct, e_op, e_neg, e_not, e_cm, e_ch, e_and, e_or, e_ife, e_ix, e_sl, e_rev, e_b1, e_b2, e_b3, e_call, e_pick, e_isx, e_it, e_rg1, e_rg2, e_enum, e_zip, e_zips, e_items, e_lc, e_lc2, e_dc, e_dc2, g_0, g_s, s_0, s_s, sl_sh, so_l, so_d, k_ok, k_rz, out_ok, out_rz, endR_nx, endR_rt, endR_rz, then_nx, then_rt, then_rz, then_bk, b_bl, l_lst, t_one, t_two, w_one, w_two, two_tup, Bool.false_eq_true, ↓reduceIte, wT_f, i_len_str, i_len_lst, i_len_tup, i_eqI, i_neI, i_ltI, i_leI, i_gtI, i_geI, i_isN, i_nisN, i_isB, i_nisB, i_inS, i_ninS, i_itS, i_itT, i_itL, isND_non, isND_str, isND_tup, isND_lst, isND_int, isND_bl, calm_ok, all_map, any_map, op_add, op_sub, n_ok, Bool.not_true, Bool.not_false, decide_true, decide_false]
  rw [r_check_menu n _ h, hm]
  simp only [x_pass, x_seq, x_set, x_ex, x_ret, x_ife, x_fr, x_wh, x_brk, x_rz, e_k, e_v, e_o, e_nil, e_cons, e_tup, e_lst, e_dct, e_op, e_neg, e_not, e_cm, e_ch, e_and, e_or, e_ife, e_ix, e_sl, e_rev, e_b1, e_b2, e_b3, e_call, e_pick, e_isx, e_it, e_rg1, e_rg2, e_enum, e_zip, e_zips, e_items, e_lc, e_lc2, e_dc, e_dc2, g_0, g_s, s_0, s_s, sl_sh, so_l, so_d, k_ok, k_rz, out_ok, out_rz, endR_nx, endR_rt, endR_rz, then_nx, then_rt, then_rz, then_bk, b_bl, l_lst, t_one, t_two, w_one, w_two, two_tup, Bool.false_eq_true, ↓reduceIte, wT_f, i_len_str, i_len_lst, i_len_tup, i_eqI, i_neI, i_ltI, i_leI, i_gtI, i_geI, i_isN, i_nisN, i_isB, i_nisB, i_inS, i_ninS, i_itS, i_itT, i_itL, isND_non, isND_str, isND_tup, isND_lst, isND_int, isND_bl, calm_ok, all_map, any_map, op_add, op_sub, n_ok, Bool.not_true, Bool.not_false, decide_true, decide_false]
theorem z_size (n : Nat) (o d : D) (h : Dat o) (hm : isMnD o = false) : run TT (n + 4) 13 [o, d] = .rz 1 := by
  rw [runT (fd := fd13) rfl rfl rfl rfl]
  show endR (exec (wT (n + 3)) c13 [.sh o, .sh d, .no]) = _
  simp only [c13, x_pass, x_seq, x_set, x_ex, x_ret, x_ife, x_fr, x_wh, x_brk, x_rz, e_k, e_v, e_o, e_nil, e_cons, e_tup, e_lst, e_dct, e_op, e_neg, e_not, e_cm, e_ch, e_and, e_or, e_ife, e_ix, e_sl, e_rev, e_b1, e_b2, e_b3, e_call, e_pick, e_isx, e_it, e_rg1, e_rg2, e_enum, e_zip, e_zips, e_items, e_lc, e_lc2, e_dc, e_dc2, g_0, g_s, s_0, s_s, sl_sh, so_l, so_d, k_ok, k_rz, out_ok, out_rz, endR_nx, endR_rt, endR_rz, then_nx, then_rt, then_rz, then_bk, b_bl, l_lst, t_one, t_two, w_one, w_two, two_tup, Bool.false_eq_true, ↓reduceIte, wT_f, i_len_str, i_len_lst, i_len_tup, i_eqI, i_neI, i_ltI, i_leI, i_gtI, i_geI, i_isN, i_nisN, i_isB, i_nisB, i_inS, i_ninS, i_itS, i_itT, i_itL, isND_non, isND_str, isND_tup, isND_lst, isND_int, isND_bl, calm_ok, all_map, any_map, op_add, op_sub, n_ok, Bool.not_true, Bool.not_false, decide_true, decide_false]
  rw [r_check_menu n _ h, hm]
  simp only [x_pass, x_seq, x_set, x_ex, x_ret, x_ife, x_fr, x_wh, x_brk, x_rz, e_k, e_v, e_o, e_nil, e_cons, e_tup, e_lst, e_dct, e_op, e_neg, e_not, e_cm, e_ch, e_and, e_or, e_ife, e_ix, e_sl, e_rev, e_b1, e_b2, e_b3, e_call, e_pick, e_isx, e_it, e_rg1, e_rg2, e_enum, e_zip, e_zips, e_items, e_lc, e_lc2, e_dc, e_dc2, g_0, g_s, s_0, s_s, sl_sh, so_l, so_d, k_ok, k_rz, out_ok, out_rz, endR_nx, endR_rt, endR_rz, then_nx, then_rt, then_rz, then_bk, b_bl, l_lst, t_one, t_two, w_one, w_two, two_tup, Bool.false_eq_true, ↓reduceIte, wT_f, i_len_str, i_len_lst, i_len_tup, i_eqI, i_neI, i_ltI, i_leI, i_gtI, i_geI, i_isN, i_nisN, i_isB, i_nisB, i_inS, i_ninS, i_itS, i_itT, i_itL, isND_non, isND_str, isND_tup, isND_lst, isND_int, isND_bl, calm_ok, all_map, any_map, op_add, op_sub, n_ok, Bool.not_true, Bool.not_false, decide_true, decide_false]
theorem z_cost (n : Nat) (o d : D) (h : Dat o) (hm : isMnD o = false) : run TT (n + 4) 14 [o, d] = .rz 1 := by
  rw [runT (fd := fd14) rfl rfl rfl rfl]
  show endR (exec (wT (n + 3)) c14 [.sh o, .sh d]) = _
  simp only [c14, x_pass, x_seq, x_set, x_ex, x_ret, x_ife, x_fr, x_wh, x_brk, x_rz, e_k, e_v, e_o, e_nil, e_cons, e_tup, e_lst, e_dct, e_op, e_neg, e_not, e_cm, e_ch, e_and, e_or, e_ife, e_ix, e_sl, e_rev, e_b1, e_b2, e_b3, e_call, e_pick, e_isx, e_it, e_rg1, e_rg2, e_enum, e_zip, e_zips, e_items, e_lc, e_lc2, e_dc, e_dc2, g_0, g_s, s_0, s_s, sl_sh, so_l, so_d, k_ok, k_rz, out_ok, out_rz, endR_nx, endR_rt, endR_rz, then_nx, then_rt, then_rz, then_bk, b_bl, l_lst, t_one, t_two, w_one, w_two, two_tup, Bool.false_eq_true, ↓reduceIte, wT_f, i_len_str, i_len_lst, i_len_tup, i_eqI, i_neI, i_ltI, i_leI, i_gtI, i_geI, i_isN, i_nisN, i_isB, i_nisB, i_inS, i_ninS, i_itS, i_itT, i_itL, isND_non, isND_str, isND_tup, isND_lst, isND_int, isND_bl, calm_ok, all_map, any_map, op_add, op_sub, n_ok, Bool.not_true, Bool.not_false, decide_true, decide_false]
  rw [r_check_menu n _ h, hm]
  simp only [x_pass, x_seq, x_set, x_ex, x_ret, x_ife, x_fr, x_wh, x_brk, x_rz, e_k, e_v, e_o, e_nil, e_cons, e_tup, e_lst, e_dct, e_op, e_neg, e_not, e_cm, e_ch, e_and, e_or, e_ife, e_ix, e_sl, e_rev, e_b1, e_b2, e_b3, e_call, e_pick, e_isx, e_it, e_rg1, e_rg2, e_enum, e_zip, e_zips, e_items, e_lc, e_lc2, e_dc, e_dc2, g_0, g_s, s_0, s_s, sl_sh, so_l, so_d, k_ok, k_rz, out_ok, out_rz, endR_nx, endR_rt, endR_rz, then_nx, then_rt, then_rz, then_bk, b_bl, l_lst, t_one, t_two, w_one, w_two, two_tup, Bool.false_eq_true, ↓reduceIte, wT_f, i_len_str, i_len_lst, i_len_tup, i_eqI, i_neI, i_ltI, i_leI, i_gtI, i_geI, i_isN, i_nisN, i_isB, i_nisB, i_inS, i_ninS, i_itS, i_itT, i_itL, isND_non, isND_str, isND_tup, isND_lst, isND_int, isND_bl, calm_ok, all_map, any_map, op_add, op_sub, n_ok, Bool.not_true, Bool.not_false, decide_true, decide_false]
theorem z_greedy (n : Nat) (o : D) (h : Dat o) (hm : isMnD o = false) : run TT (n + 4) 15 [o] = .rz 1 := by
  rw [runT (fd := fd15) rfl rfl rfl rfl]
  show endR (exec (wT (n + 3)) c15 [.sh o, .no, .no, .no, .no]) = _
  simp only [c15, x_pass, x_seq, x_set, x_ex, x_ret, x_ife, x_fr, x_wh, x_brk, x_rz, e_k, e_v, e_o, e_nil, e_cons, e_tup, e_lst, e_dct, e_op, e_neg, e_not, e_cm, e_ch, e_and, e_or, e_ife, e_ix, e_sl, e_rev, e_b1, e_b2, e_b3, e_call, e_pick, e_isx, e_it, e_rg1, e_rg2, e_enum, e_zip, e_zips, e_items, e_lc, e_lc2, e_dc, e_dc2, g_0, g_s, s_0, s_s, sl_sh, so_l, so_d, k_ok, k_rz, out_ok, out_rz, endR_nx, endR_rt, endR_rz, then_nx, then_rt, then_rz, then_bk, b_bl, l_lst, t_one, t_two, w_one, w_two, two_tup, Bool.false_eq_true, ↓reduceIte, wT_f, i_len_str, i_len_lst, i_len_tup, i_eqI, i_neI, i_ltI, i_leI, i_gtI, i_geI, i_isN, i_nisN, i_isB, i_nisB, i_inS, i_ninS, i_itS, i_itT, i_itL, isND_non, isND_str, isND_tup, isND_lst, isND_int, isND_bl, calm_ok, all_map, any_map, op_add, op_sub, n_ok, Bool.not_true, Bool.not_false, decide_true, decide_false]
  rw [r_check_menu n _ h, hm]
  simp only [x_pass, x_seq, x_set, x_ex, x_ret, x_ife, x_fr, x_wh, x_brk, x_rz, e_k, e_v, e_o, e_nil, e_cons, e_tup, e_lst, e_dct, e_op, e_neg, e_not, e_cm, e_ch, e_and, e_or, e_ife, e_ix, e_sl, e_rev, e_b1, e_b2, e_b3, e_call, e_pick, e_isx, e_it, e_rg1, e_rg2, e_enum, e_zip, e_zips, e_items, e_lc, e_lc2, e_dc, e_dc2, g_0, g_s, s_0, s_s, sl_sh, so_l, so_d, k_ok, k_rz, out_ok, out_rz, endR_nx, endR_rt, endR_rz, then_nx, then_rt, then_rz, then_bk, b_bl, l_lst, t_one, t_two, w_one, w_two, two_tup, Bool.false_eq_true, ↓reduceIte, wT_f, i_len_str, i_len_lst, i_len_tup, i_eqI, i_neI, i_ltI, i_leI, i_gtI, i_geI, i_isN, i_nisN, i_isB, i_nisB, i_inS, i_ninS, i_itS, i_itT, i_itL, isND_non, isND_str, isND_tup, isND_lst, isND_int, isND_bl, calm_ok, all_map, any_map, op_add, op_sub, n_ok, Bool.not_true, Bool.not_false, decide_true, decide_false]
theorem z_size2 (n : Nat) (M : List (List Nat)) (d : D) (hM : isMn M = true) (h : Dat d) (hd : hasA M d = false) : run TT (n + 5) 13 [mD M, d] = .rz 2 := by
  rw [runT (fd := fd13) rfl rfl rfl rfl]
  show endR (exec (wT (n + 4)) c13 [.sh (mD M), .sh d, .no]) = _
  simp only [c13, x_pass, x_seq, x_set, x_ex, x_ret, x_ife, x_fr, x_wh, x_brk, x_rz, e_k, e_v, e_o, e_nil, e_cons, e_tup, e_lst, e_dct, e_op, e_neg, e_not, e_cm, e_ch, e_and, e_or, e_ife, e_ix, e_sl, e_rev, e_b1, e_b2, e_b3, e_call, e_pick, e_isx, e_it, e_rg1, e_rg2, e_enum, e_zip, e_zips, e_items, e_lc, e_lc2, e_dc, e_dc2, g_0, g_s, s_0, s_s, sl_sh, so_l, so_d, k_ok, k_rz, out_ok, out_rz, endR_nx, endR_rt, endR_rz, then_nx, then_rt, then_rz, then_bk, b_bl, l_lst, t_one, t_two, w_one, w_two, two_tup, Bool.false_eq_true, ↓reduceIte, wT_f, i_len_str, i_len_lst, i_len_tup, i_eqI, i_neI, i_ltI, i_leI, i_gtI, i_geI, i_isN, i_nisN, i_isB, i_nisB, i_inS, i_ninS, i_itS, i_itT, i_itL, isND_non, isND_str, isND_tup, isND_lst, isND_int, isND_bl, calm_ok, all_map, any_map, op_add, op_sub, n_ok, Bool.not_true, Bool.not_false, decide_true, decide_false]
  rw [r_check_menu _ _ (dat_mD M), isMnD_mD, hM]
  simp only [x_pass, x_seq, x_set, x_ex, x_ret, x_ife, x_fr, x_wh, x_brk, x_rz, e_k, e_v, e_o, e_nil, e_cons, e_tup, e_lst, e_dct, e_op, e_neg, e_not, e_cm, e_ch, e_and, e_or, e_ife, e_ix, e_sl, e_rev, e_b1, e_b2, e_b3, e_call, e_pick, e_isx, e_it, e_rg1, e_rg2, e_enum, e_zip, e_zips, e_items, e_lc, e_lc2, e_dc, e_dc2, g_0, g_s, s_0, s_s, sl_sh, so_l, so_d, k_ok, k_rz, out_ok, out_rz, endR_nx, endR_rt, endR_rz, then_nx, then_rt, then_rz, then_bk, b_bl, l_lst, t_one, t_two, w_one, w_two, two_tup, Bool.false_eq_true, ↓reduceIte, wT_f, i_len_str, i_len_lst, i_len_tup, i_eqI, i_neI, i_ltI, i_leI, i_gtI, i_geI, i_isN, i_nisN, i_isB, i_nisB, i_inS, i_ninS, i_itS, i_itT, i_itL, isND_non, isND_str, isND_tup, isND_lst, isND_int, isND_bl, calm_ok, all_map, any_map, op_add, op_sub, n_ok, Bool.not_true, Bool.not_false, decide_true, decide_false]
  rw [r_check_assignment n M d h (isMn_len hM), hd]
  simp only [x_pass, x_seq, x_set, x_ex, x_ret, x_ife, x_fr, x_wh, x_brk, x_rz, e_k, e_v, e_o, e_nil, e_cons, e_tup, e_lst, e_dct, e_op, e_neg, e_not, e_cm, e_ch, e_and, e_or, e_ife, e_ix, e_sl, e_rev, e_b1, e_b2, e_b3, e_call, e_pick, e_isx, e_it, e_rg1, e_rg2, e_enum, e_zip, e_zips, e_items, e_lc, e_lc2, e_dc, e_dc2, g_0, g_s, s_0, s_s, sl_sh, so_l, so_d, k_ok, k_rz, out_ok, out_rz, endR_nx, endR_rt, endR_rz, then_nx, then_rt, then_rz, then_bk, b_bl, l_lst, t_one, t_two, w_one, w_two, two_tup, Bool.false_eq_true, ↓reduceIte, wT_f, i_len_str, i_len_lst, i_len_tup, i_eqI, i_neI, i_ltI, i_leI, i_gtI, i_geI, i_isN, i_nisN, i_isB, i_nisB, i_inS, i_ninS, i_itS, i_itT, i_itL, isND_non, isND_str, isND_tup, isND_lst, isND_int, isND_bl, calm_ok, all_map, any_map, op_add, op_sub, n_ok, Bool.not_true, Bool.not_false, decide_true, decide_false]
theorem z_cost2 (n : Nat) (M : List (List Nat)) (d : D) (hM : isMn M = true) (h : Dat d) (hd : hasA M d = false) : run TT (n + 5) 14 [mD M, d] = .rz 2 := by
  rw [runT (fd := fd14) rfl rfl rfl rfl]
  show endR (exec (wT (n + 4)) c14 [.sh (mD M), .sh d]) = _
  simp only [c14, x_pass, x_seq, x_set, x_ex, x_ret, x_ife, x_fr, x_wh, x_brk, x_rz, e_k, e_v, e_o, e_nil, e_cons, e_tup, e_lst, e_dct, e_op, e_neg, e_not, e_cm, e_ch, e_and, e_or, e_ife, e_ix, e_sl, e_rev, e_b1, e_b2, e_b3, e_call, e_pick, e_isx, e_it, e_rg1, e_rg2, e_enum, e_zip, e_zips, e_items, e_lc, e_lc2, e_dc, e_dc2, g_0, g_s, s_0, s_s, sl_sh, so_l, so_d, k_ok, k_rz, out_ok, out_rz, endR_nx, endR_rt, endR_rz, then_nx, then_rt, then_rz, then_bk, b_bl, l_lst, t_one, t_two, w_one, w_two, two_tup, Bool.false_eq_true, ↓reduceIte, wT_f, i_len_str, i_len_lst, i_len_tup, i_eqI, i_neI, i_ltI, i_leI, i_gtI, i_geI, i_isN, i_nisN, i_isB, i_nisB, i_inS, i_ninS, i_itS, i_itT, i_itL, isND_non, isND_str, isND_tup, isND_lst, isND_int, isND_bl, calm_ok, all_map, any_map, op_add, op_sub, n_ok, Bool.not_true, Bool.not_false, decide_true, decide_false]
  rw [r_check_menu _ _ (dat_mD M), isMnD_mD, hM]
  simp only [x_pass, x_seq, x_set, x_ex, x_ret, x_ife, x_fr, x_wh, x_brk, x_rz, e_k, e_v, e_o, e_nil, e_cons, e_tup, e_lst, e_dct, e_op, e_neg, e_not, e_cm, e_ch, e_and, e_or, e_ife, e_ix, e_sl, e_rev, e_b1, e_b2, e_b3, e_call, e_pick, e_isx, e_it, e_rg1, e_rg2, e_enum, e_zip, e_zips, e_items, e_lc, e_lc2, e_dc, e_dc2, g_0, g_s, s_0, s_s, sl_sh, so_l, so_d, k_ok, k_rz, out_ok, out_rz, endR_nx, endR_rt, endR_rz, then_nx, then_rt, then_rz, then_bk, b_bl, l_lst, t_one, t_two, w_one, w_two, two_tup, Bool.false_eq_true, ↓reduceIte, wT_f, i_len_str, i_len_lst, i_len_tup, i_eqI, i_neI, i_ltI, i_leI, i_gtI, i_geI, i_isN, i_nisN, i_isB, i_nisB, i_inS, i_ninS, i_itS, i_itT, i_itL, isND_non, isND_str, isND_tup, isND_lst, isND_int, isND_bl, calm_ok, all_map, any_map, op_add, op_sub, n_ok, Bool.not_true, Bool.not_false, decide_true, decide_false]
  rw [r_check_assignment n M d h (isMn_len hM), hd]
  simp only [x_pass, x_seq, x_set, x_ex, x_ret, x_ife, x_fr, x_wh, x_brk, x_rz, e_k, e_v, e_o, e_nil, e_cons, e_tup, e_lst, e_dct, e_op, e_neg, e_not, e_cm, e_ch, e_and, e_or, e_ife, e_ix, e_sl, e_rev, e_b1, e_b2, e_b3, e_call, e_pick, e_isx, e_it, e_rg1, e_rg2, e_enum, e_zip, e_zips, e_items, e_lc, e_lc2, e_dc, e_dc2, g_0, g_s, s_0, s_s, sl_sh, so_l, so_d, k_ok, k_rz, out_ok, out_rz, endR_nx, endR_rt, endR_rz, then_nx, then_rt, then_rz, then_bk, b_bl, l_lst, t_one, t_two, w_one, w_two, two_tup, Bool.false_eq_true, ↓reduceIte, wT_f, i_len_str, i_len_lst, i_len_tup, i_eqI, i_neI, i_ltI, i_leI, i_gtI, i_geI, i_isN, i_nisN, i_isB, i_nisB, i_inS, i_ninS, i_itS, i_itT, i_itL, isND_non, isND_str, isND_tup, isND_lst, isND_int, isND_bl, calm_ok, all_map, any_map, op_add, op_sub, n_ok, Bool.not_true, Bool.not_false, decide_true, decide_false]
theorem z_place (n : Nat) (o d : D) (h : Dat o) (hm : isNmD o = false) : run TT (n + 3) 11 [o, d] = .rz 3 := by
  rw [runT (fd := fd11) rfl rfl rfl rfl]
  show endR (exec (wT (n + 2)) c11 [.sh o, .sh d]) = _
  simp only [c11, x_pass, x_seq, x_set, x_ex, x_ret, x_ife, x_fr, x_wh, x_brk, x_rz, e_k, e_v, e_o, e_nil, e_cons, e_tup, e_lst, e_dct, e_op, e_neg, e_not, e_cm, e_ch, e_and, e_or, e_ife, e_ix, e_sl, e_rev, e_b1, e_b2, e_b3, e_call, e_pick, e_isx, e_it, e_rg1, e_rg2, e_enum, e_zip, e_zips, e_items, e_lc, e_lc2, e_dc, e_dc2, g_0, g_s, s_0, s_s, sl_sh, so_l, so_d, k_ok, k_rz, out_ok, out_rz, endR_nx, endR_rt, endR_rz, then_nx, then_rt, then_rz, then_bk, b_bl, l_lst, t_one, t_two, w_one, w_two, two_tup, Bool.false_eq_true, ↓reduceIte, wT_f, i_len_str, i_len_lst, i_len_tup, i_eqI, i_neI, i_ltI, i_leI, i_gtI, i_geI, i_isN, i_nisN, i_isB, i_nisB, i_inS, i_ninS, i_itS, i_itT, i_itL, isND_non, isND_str, isND_tup, isND_lst, isND_int, isND_bl, calm_ok, all_map, any_map, op_add, op_sub, n_ok, Bool.not_true, Bool.not_false, decide_true, decide_false]
  rw [r_check_name n _ h, hm]
  simp only [x_pass, x_seq, x_set, x_ex, x_ret, x_ife, x_fr, x_wh, x_brk, x_rz, e_k, e_v, e_o, e_nil, e_cons, e_tup, e_lst, e_dct, e_op, e_neg, e_not, e_cm, e_ch, e_and, e_or, e_ife, e_ix, e_sl, e_rev, e_b1, e_b2, e_b3, e_call, e_pick, e_isx, e_it, e_rg1, e_rg2, e_enum, e_zip, e_zips, e_items, e_lc, e_lc2, e_dc, e_dc2, g_0, g_s, s_0, s_s, sl_sh, so_l, so_d, k_ok, k_rz, out_ok, out_rz, endR_nx, endR_rt, endR_rz, then_nx, then_rt, then_rz, then_bk, b_bl, l_lst, t_one, t_two, w_one, w_two, two_tup, Bool.false_eq_true, ↓reduceIte, wT_f, i_len_str, i_len_lst, i_len_tup, i_eqI, i_neI, i_ltI, i_leI, i_gtI, i_geI, i_isN, i_nisN, i_isB, i_nisB, i_inS, i_ninS, i_itS, i_itT, i_itL, isND_non, isND_str, isND_tup, isND_lst, isND_int, isND_bl, calm_ok, all_map, any_map, op_add, op_sub, n_ok, Bool.not_true, Bool.not_false, decide_true, decide_false]
theorem z_letters (n : Nat) (o : D) (h : Dat o) (hm : isNmD o = false) : run TT (n + 3) 10 [o] = .rz 3 := by
  rw [runT (fd := fd10) rfl rfl rfl rfl]
  show endR (exec (wT (n + 2)) c10 [.sh o]) = _
  simp only [c10, x_pass, x_seq, x_set, x_ex, x_ret, x_ife, x_fr, x_wh, x_brk, x_rz, e_k, e_v, e_o, e_nil, e_cons, e_tup, e_lst, e_dct, e_op, e_neg, e_not, e_cm, e_ch, e_and, e_or, e_ife, e_ix, e_sl, e_rev, e_b1, e_b2, e_b3, e_call, e_pick, e_isx, e_it, e_rg1, e_rg2, e_enum, e_zip, e_zips, e_items, e_lc, e_lc2, e_dc, e_dc2, g_0, g_s, s_0, s_s, sl_sh, so_l, so_d, k_ok, k_rz, out_ok, out_rz, endR_nx, endR_rt, endR_rz, then_nx, then_rt, then_rz, then_bk, b_bl, l_lst, t_one, t_two, w_one, w_two, two_tup, Bool.false_eq_true, ↓reduceIte, wT_f, i_len_str, i_len_lst, i_len_tup, i_eqI, i_neI, i_ltI, i_leI, i_gtI, i_geI, i_isN, i_nisN, i_isB, i_nisB, i_inS, i_ninS, i_itS, i_itT, i_itL, isND_non, isND_str, isND_tup, isND_lst, isND_int, isND_bl, calm_ok, all_map, any_map, op_add, op_sub, n_ok, Bool.not_true, Bool.not_false, decide_true, decide_false]
  rw [r_check_name n _ h, hm]
  simp only [x_pass, x_seq, x_set, x_ex, x_ret, x_ife, x_fr, x_wh, x_brk, x_rz, e_k, e_v, e_o, e_nil, e_cons, e_tup, e_lst, e_dct, e_op, e_neg, e_not, e_cm, e_ch, e_and, e_or, e_ife, e_ix, e_sl, e_rev, e_b1, e_b2, e_b3, e_call, e_pick, e_isx, e_it, e_rg1, e_rg2, e_enum, e_zip, e_zips, e_items, e_lc, e_lc2, e_dc, e_dc2, g_0, g_s, s_0, s_s, sl_sh, so_l, so_d, k_ok, k_rz, out_ok, out_rz, endR_nx, endR_rt, endR_rz, then_nx, then_rt, then_rz, then_bk, b_bl, l_lst, t_one, t_two, w_one, w_two, two_tup, Bool.false_eq_true, ↓reduceIte, wT_f, i_len_str, i_len_lst, i_len_tup, i_eqI, i_neI, i_ltI, i_leI, i_gtI, i_geI, i_isN, i_nisN, i_isB, i_nisB, i_inS, i_ninS, i_itS, i_itT, i_itL, isND_non, isND_str, isND_tup, isND_lst, isND_int, isND_bl, calm_ok, all_map, any_map, op_add, op_sub, n_ok, Bool.not_true, Bool.not_false, decide_true, decide_false]
theorem z_place2 (n : Nat) (x : List Nat) (d : D) (h : isNm x = true) (hd : Dat d) (hm : isLet d = false) : run TT (n + 3) 11 [.str x, d] = .rz 4 := by
  rw [runT (fd := fd11) rfl rfl rfl rfl]
  show endR (exec (wT (n + 2)) c11 [.sh (.str x), .sh d]) = _
  simp only [c11, x_pass, x_seq, x_set, x_ex, x_ret, x_ife, x_fr, x_wh, x_brk, x_rz, e_k, e_v, e_o, e_nil, e_cons, e_tup, e_lst, e_dct, e_op, e_neg, e_not, e_cm, e_ch, e_and, e_or, e_ife, e_ix, e_sl, e_rev, e_b1, e_b2, e_b3, e_call, e_pick, e_isx, e_it, e_rg1, e_rg2, e_enum, e_zip, e_zips, e_items, e_lc, e_lc2, e_dc, e_dc2, g_0, g_s, s_0, s_s, sl_sh, so_l, so_d, k_ok, k_rz, out_ok, out_rz, endR_nx, endR_rt, endR_rz, then_nx, then_rt, then_rz, then_bk, b_bl, l_lst, t_one, t_two, w_one, w_two, two_tup, Bool.false_eq_true, ↓reduceIte, wT_f, i_len_str, i_len_lst, i_len_tup, i_eqI, i_neI, i_ltI, i_leI, i_gtI, i_geI, i_isN, i_nisN, i_isB, i_nisB, i_inS, i_ninS, i_itS, i_itT, i_itL, isND_non, isND_str, isND_tup, isND_lst, isND_int, isND_bl, calm_ok, all_map, any_map, op_add, op_sub, n_ok, Bool.not_true, Bool.not_false, decide_true, decide_false]
  rw [r_check_name n _ (dat_str x), show isNmD (.str x) = isNm x from rfl, h]
  simp only [x_pass, x_seq, x_set, x_ex, x_ret, x_ife, x_fr, x_wh, x_brk, x_rz, e_k, e_v, e_o, e_nil, e_cons, e_tup, e_lst, e_dct, e_op, e_neg, e_not, e_cm, e_ch, e_and, e_or, e_ife, e_ix, e_sl, e_rev, e_b1, e_b2, e_b3, e_call, e_pick, e_isx, e_it, e_rg1, e_rg2, e_enum, e_zip, e_zips, e_items, e_lc, e_lc2, e_dc, e_dc2, g_0, g_s, s_0, s_s, sl_sh, so_l, so_d, k_ok, k_rz, out_ok, out_rz, endR_nx, endR_rt, endR_rz, then_nx, then_rt, then_rz, then_bk, b_bl, l_lst, t_one, t_two, w_one, w_two, two_tup, Bool.false_eq_true, ↓reduceIte, wT_f, i_len_str, i_len_lst, i_len_tup, i_eqI, i_neI, i_ltI, i_leI, i_gtI, i_geI, i_isN, i_nisN, i_isB, i_nisB, i_inS, i_ninS, i_itS, i_itT, i_itL, isND_non, isND_str, isND_tup, isND_lst, isND_int, isND_bl, calm_ok, all_map, any_map, op_add, op_sub, n_ok, Bool.not_true, Bool.not_false, decide_true, decide_false]
  rw [r_is_letter _ _ hd, hm]
  simp only [x_pass, x_seq, x_set, x_ex, x_ret, x_ife, x_fr, x_wh, x_brk, x_rz, e_k, e_v, e_o, e_nil, e_cons, e_tup, e_lst, e_dct, e_op, e_neg, e_not, e_cm, e_ch, e_and, e_or, e_ife, e_ix, e_sl, e_rev, e_b1, e_b2, e_b3, e_call, e_pick, e_isx, e_it, e_rg1, e_rg2, e_enum, e_zip, e_zips, e_items, e_lc, e_lc2, e_dc, e_dc2, g_0, g_s, s_0, s_s, sl_sh, so_l, so_d, k_ok, k_rz, out_ok, out_rz, endR_nx, endR_rt, endR_rz, then_nx, then_rt, then_rz, then_bk, b_bl, l_lst, t_one, t_two, w_one, w_two, two_tup, Bool.false_eq_true, ↓reduceIte, wT_f, i_len_str, i_len_lst, i_len_tup, i_eqI, i_neI, i_ltI, i_leI, i_gtI, i_geI, i_isN, i_nisN, i_isB, i_nisB, i_inS, i_ninS, i_itS, i_itT, i_itL, isND_non, isND_str, isND_tup, isND_lst, isND_int, isND_bl, calm_ok, all_map, any_map, op_add, op_sub, n_ok, Bool.not_true, Bool.not_false, decide_true, decide_false]
/-- the suite of the law's except -/
def errN : Nat → Int
  | 1 => 0
  | 2 => 1
  | 3 => 2
  | _ => 3
theorem err_suite (n : Nat) (c : Nat) (hc : c = 1 ∨ c = 2 ∨ c = 3 ∨ c = 4) (s0 s1 s2 s3 s4 : Sl) : ∃ ρ, exec (suW (wT n) c) b21_2 [s0, s1, s2, s3, s4] = .rt (.int (errN c)) ρ := by
  rcases hc with rfl | rfl | rfl | rfl <;> exact ⟨_, rfl⟩
theorem err_of (n : Nat) (way : Int) (o t : D) (c : Nat) (hc : c = 1 ∨ c = 2 ∨ c = 3 ∨ c = 4)
    (h : exec (wT n) b21_1 [.sh (.int way), .sh o, .sh t, .no, .no] = .rz c [.sh (.int way), .sh o, .sh t, .no, .no]) :
    run TT (n + 1) 21 [.int way, o, t] = .ok (.int (errN c)) := by
  rw [runT (fd := fd21) rfl rfl rfl rfl]
  show endR (exec (wT n) c21 [.sh (.int way), .sh o, .sh t, .no, .no]) = _
  unfold c21
  rw [x_seq, x_try, h]
  obtain ⟨ρ2, h2⟩ := err_suite n c hc (.sh (.int way)) (.sh o) (.sh t) .no .no
  simp only [setS, h2, List.length_cons, List.length_nil, Nat.reduceAdd, Nat.reduceLT, x_pass, x_seq, x_set, x_ex, x_ret, x_ife, x_fr, x_wh, x_brk, x_rz, e_k, e_v, e_o, e_nil, e_cons, e_tup, e_lst, e_dct, e_op, e_neg, e_not, e_cm, e_ch, e_and, e_or, e_ife, e_ix, e_sl, e_rev, e_b1, e_b2, e_b3, e_call, e_pick, e_isx, e_it, e_rg1, e_rg2, e_enum, e_zip, e_zips, e_items, e_lc, e_lc2, e_dc, e_dc2, g_0, g_s, s_0, s_s, sl_sh, so_l, so_d, k_ok, k_rz, out_ok, out_rz, endR_nx, endR_rt, endR_rz, then_nx, then_rt, then_rz, then_bk, b_bl, l_lst, t_one, t_two, w_one, w_two, two_tup, Bool.false_eq_true, ↓reduceIte, wT_f, i_len_str, i_len_lst, i_len_tup, i_eqI, i_neI, i_ltI, i_leI, i_gtI, i_geI, i_isN, i_nisN, i_isB, i_nisB, i_inS, i_ninS, i_itS, i_itT, i_itL, isND_non, isND_str, isND_tup, isND_lst, isND_int, isND_bl, calm_ok, all_map, any_map, op_add, op_sub, n_ok, Bool.not_true, Bool.not_false, decide_true, decide_false]
theorem e0 (n : Nat) (o t : D) (h : Dat o) (hm : isMnD o = false) : run TT (n + 5) 21 [.int 0, o, t] = .ok (.int 0) := by
  refine err_of (n + 4) 0 o t 1 (.inl rfl) ?_
  unfold b21_1
  simp only [x_pass, x_seq, x_set, x_ex, x_ret, x_ife, x_fr, x_wh, x_brk, x_rz, e_k, e_v, e_o, e_nil, e_cons, e_tup, e_lst, e_dct, e_op, e_neg, e_not, e_cm, e_ch, e_and, e_or, e_ife, e_ix, e_sl, e_rev, e_b1, e_b2, e_b3, e_call, e_pick, e_isx, e_it, e_rg1, e_rg2, e_enum, e_zip, e_zips, e_items, e_lc, e_lc2, e_dc, e_dc2, g_0, g_s, s_0, s_s, sl_sh, so_l, so_d, k_ok, k_rz, out_ok, out_rz, endR_nx, endR_rt, endR_rz, then_nx, then_rt, then_rz, then_bk, b_bl, l_lst, t_one, t_two, w_one, w_two, two_tup, Bool.false_eq_true, ↓reduceIte, wT_f, i_len_str, i_len_lst, i_len_tup, i_eqI, i_neI, i_ltI, i_leI, i_gtI, i_geI, i_isN, i_nisN, i_isB, i_nisB, i_inS, i_ninS, i_itS, i_itT, i_itL, isND_non, isND_str, isND_tup, isND_lst, isND_int, isND_bl, calm_ok, all_map, any_map, op_add, op_sub, n_ok, Bool.not_true, Bool.not_false, decide_true, decide_false, show decide ((0 : Int) < 4) = true from rfl, show atI [8, 13, 14, 11] (0 : Int) = some 8 from rfl, z_is_assignment n o t h hm]
theorem e1 (n : Nat) (o t : D) (h : Dat o) (hm : isMnD o = false) : run TT (n + 5) 21 [.int 1, o, t] = .ok (.int 0) := by
  refine err_of (n + 4) 1 o t 1 (.inl rfl) ?_
  unfold b21_1
  simp only [x_pass, x_seq, x_set, x_ex, x_ret, x_ife, x_fr, x_wh, x_brk, x_rz, e_k, e_v, e_o, e_nil, e_cons, e_tup, e_lst, e_dct, e_op, e_neg, e_not, e_cm, e_ch, e_and, e_or, e_ife, e_ix, e_sl, e_rev, e_b1, e_b2, e_b3, e_call, e_pick, e_isx, e_it, e_rg1, e_rg2, e_enum, e_zip, e_zips, e_items, e_lc, e_lc2, e_dc, e_dc2, g_0, g_s, s_0, s_s, sl_sh, so_l, so_d, k_ok, k_rz, out_ok, out_rz, endR_nx, endR_rt, endR_rz, then_nx, then_rt, then_rz, then_bk, b_bl, l_lst, t_one, t_two, w_one, w_two, two_tup, Bool.false_eq_true, ↓reduceIte, wT_f, i_len_str, i_len_lst, i_len_tup, i_eqI, i_neI, i_ltI, i_leI, i_gtI, i_geI, i_isN, i_nisN, i_isB, i_nisB, i_inS, i_ninS, i_itS, i_itT, i_itL, isND_non, isND_str, isND_tup, isND_lst, isND_int, isND_bl, calm_ok, all_map, any_map, op_add, op_sub, n_ok, Bool.not_true, Bool.not_false, decide_true, decide_false, show decide ((1 : Int) < 4) = true from rfl, show atI [8, 13, 14, 11] (1 : Int) = some 13 from rfl, z_size n o t h hm]
theorem e2 (n : Nat) (o t : D) (h : Dat o) (hm : isMnD o = false) : run TT (n + 5) 21 [.int 2, o, t] = .ok (.int 0) := by
  refine err_of (n + 4) 2 o t 1 (.inl rfl) ?_
  unfold b21_1
  simp only [x_pass, x_seq, x_set, x_ex, x_ret, x_ife, x_fr, x_wh, x_brk, x_rz, e_k, e_v, e_o, e_nil, e_cons, e_tup, e_lst, e_dct, e_op, e_neg, e_not, e_cm, e_ch, e_and, e_or, e_ife, e_ix, e_sl, e_rev, e_b1, e_b2, e_b3, e_call, e_pick, e_isx, e_it, e_rg1, e_rg2, e_enum, e_zip, e_zips, e_items, e_lc, e_lc2, e_dc, e_dc2, g_0, g_s, s_0, s_s, sl_sh, so_l, so_d, k_ok, k_rz, out_ok, out_rz, endR_nx, endR_rt, endR_rz, then_nx, then_rt, then_rz, then_bk, b_bl, l_lst, t_one, t_two, w_one, w_two, two_tup, Bool.false_eq_true, ↓reduceIte, wT_f, i_len_str, i_len_lst, i_len_tup, i_eqI, i_neI, i_ltI, i_leI, i_gtI, i_geI, i_isN, i_nisN, i_isB, i_nisB, i_inS, i_ninS, i_itS, i_itT, i_itL, isND_non, isND_str, isND_tup, isND_lst, isND_int, isND_bl, calm_ok, all_map, any_map, op_add, op_sub, n_ok, Bool.not_true, Bool.not_false, decide_true, decide_false, show decide ((2 : Int) < 4) = true from rfl, show atI [8, 13, 14, 11] (2 : Int) = some 14 from rfl, z_cost n o t h hm]
theorem e4 (n : Nat) (o t : D) (h : Dat o) (hm : isMnD o = false) : run TT (n + 5) 21 [.int 4, o, t] = .ok (.int 0) := by
  refine err_of (n + 4) 4 o t 1 (.inl rfl) ?_
  unfold b21_1
  simp only [x_pass, x_seq, x_set, x_ex, x_ret, x_ife, x_fr, x_wh, x_brk, x_rz, e_k, e_v, e_o, e_nil, e_cons, e_tup, e_lst, e_dct, e_op, e_neg, e_not, e_cm, e_ch, e_and, e_or, e_ife, e_ix, e_sl, e_rev, e_b1, e_b2, e_b3, e_call, e_pick, e_isx, e_it, e_rg1, e_rg2, e_enum, e_zip, e_zips, e_items, e_lc, e_lc2, e_dc, e_dc2, g_0, g_s, s_0, s_s, sl_sh, so_l, so_d, k_ok, k_rz, out_ok, out_rz, endR_nx, endR_rt, endR_rz, then_nx, then_rt, then_rz, then_bk, b_bl, l_lst, t_one, t_two, w_one, w_two, two_tup, Bool.false_eq_true, ↓reduceIte, wT_f, i_len_str, i_len_lst, i_len_tup, i_eqI, i_neI, i_ltI, i_leI, i_gtI, i_geI, i_isN, i_nisN, i_isB, i_nisB, i_inS, i_ninS, i_itS, i_itT, i_itL, isND_non, isND_str, isND_tup, isND_lst, isND_int, isND_bl, calm_ok, all_map, any_map, op_add, op_sub, n_ok, Bool.not_true, Bool.not_false, decide_true, decide_false, show decide ((4 : Int) < 4) = false from rfl, show atI [15, 10] ((4 : Int) - 4) = some 15 from rfl, z_greedy n o h hm]
theorem f1 (n : Nat) (M : List (List Nat)) (t : D) (hM : isMn M = true) (h : Dat t) (hm : hasA M t = false) : run TT (n + 6) 21 [.int 1, mD M, t] = .ok (.int 1) := by
  refine err_of (n + 5) 1 _ t 2 (.inr (.inl rfl)) ?_
  unfold b21_1
  simp only [x_pass, x_seq, x_set, x_ex, x_ret, x_ife, x_fr, x_wh, x_brk, x_rz, e_k, e_v, e_o, e_nil, e_cons, e_tup, e_lst, e_dct, e_op, e_neg, e_not, e_cm, e_ch, e_and, e_or, e_ife, e_ix, e_sl, e_rev, e_b1, e_b2, e_b3, e_call, e_pick, e_isx, e_it, e_rg1, e_rg2, e_enum, e_zip, e_zips, e_items, e_lc, e_lc2, e_dc, e_dc2, g_0, g_s, s_0, s_s, sl_sh, so_l, so_d, k_ok, k_rz, out_ok, out_rz, endR_nx, endR_rt, endR_rz, then_nx, then_rt, then_rz, then_bk, b_bl, l_lst, t_one, t_two, w_one, w_two, two_tup, Bool.false_eq_true, ↓reduceIte, wT_f, i_len_str, i_len_lst, i_len_tup, i_eqI, i_neI, i_ltI, i_leI, i_gtI, i_geI, i_isN, i_nisN, i_isB, i_nisB, i_inS, i_ninS, i_itS, i_itT, i_itL, isND_non, isND_str, isND_tup, isND_lst, isND_int, isND_bl, calm_ok, all_map, any_map, op_add, op_sub, n_ok, Bool.not_true, Bool.not_false, decide_true, decide_false, show decide ((1 : Int) < 4) = true from rfl, show atI [8, 13, 14, 11] (1 : Int) = some 13 from rfl, z_size2 n M t hM h hm]
theorem f2 (n : Nat) (M : List (List Nat)) (t : D) (hM : isMn M = true) (h : Dat t) (hm : hasA M t = false) : run TT (n + 6) 21 [.int 2, mD M, t] = .ok (.int 1) := by
  refine err_of (n + 5) 2 _ t 2 (.inr (.inl rfl)) ?_
  unfold b21_1
  simp only [x_pass, x_seq, x_set, x_ex, x_ret, x_ife, x_fr, x_wh, x_brk, x_rz, e_k, e_v, e_o, e_nil, e_cons, e_tup, e_lst, e_dct, e_op, e_neg, e_not, e_cm, e_ch, e_and, e_or, e_ife, e_ix, e_sl, e_rev, e_b1, e_b2, e_b3, e_call, e_pick, e_isx, e_it, e_rg1, e_rg2, e_enum, e_zip, e_zips, e_items, e_lc, e_lc2, e_dc, e_dc2, g_0, g_s, s_0, s_s, sl_sh, so_l, so_d, k_ok, k_rz, out_ok, out_rz, endR_nx, endR_rt, endR_rz, then_nx, then_rt, then_rz, then_bk, b_bl, l_lst, t_one, t_two, w_one, w_two, two_tup, Bool.false_eq_true, ↓reduceIte, wT_f, i_len_str, i_len_lst, i_len_tup, i_eqI, i_neI, i_ltI, i_leI, i_gtI, i_geI, i_isN, i_nisN, i_isB, i_nisB, i_inS, i_ninS, i_itS, i_itT, i_itL, isND_non, isND_str, isND_tup, isND_lst, isND_int, isND_bl, calm_ok, all_map, any_map, op_add, op_sub, n_ok, Bool.not_true, Bool.not_false, decide_true, decide_false, show decide ((2 : Int) < 4) = true from rfl, show atI [8, 13, 14, 11] (2 : Int) = some 14 from rfl, z_cost2 n M t hM h hm]
theorem g3 (n : Nat) (o t : D) (h : Dat o) (hm : isNmD o = false) : run TT (n + 4) 21 [.int 3, o, t] = .ok (.int 2) := by
  refine err_of (n + 3) 3 _ t 3 (.inr (.inr (.inl rfl))) ?_
  unfold b21_1
  simp only [x_pass, x_seq, x_set, x_ex, x_ret, x_ife, x_fr, x_wh, x_brk, x_rz, e_k, e_v, e_o, e_nil, e_cons, e_tup, e_lst, e_dct, e_op, e_neg, e_not, e_cm, e_ch, e_and, e_or, e_ife, e_ix, e_sl, e_rev, e_b1, e_b2, e_b3, e_call, e_pick, e_isx, e_it, e_rg1, e_rg2, e_enum, e_zip, e_zips, e_items, e_lc, e_lc2, e_dc, e_dc2, g_0, g_s, s_0, s_s, sl_sh, so_l, so_d, k_ok, k_rz, out_ok, out_rz, endR_nx, endR_rt, endR_rz, then_nx, then_rt, then_rz, then_bk, b_bl, l_lst, t_one, t_two, w_one, w_two, two_tup, Bool.false_eq_true, ↓reduceIte, wT_f, i_len_str, i_len_lst, i_len_tup, i_eqI, i_neI, i_ltI, i_leI, i_gtI, i_geI, i_isN, i_nisN, i_isB, i_nisB, i_inS, i_ninS, i_itS, i_itT, i_itL, isND_non, isND_str, isND_tup, isND_lst, isND_int, isND_bl, calm_ok, all_map, any_map, op_add, op_sub, n_ok, Bool.not_true, Bool.not_false, decide_true, decide_false, show decide ((3 : Int) < 4) = true from rfl, show atI [8, 13, 14, 11] (3 : Int) = some 11 from rfl, z_place n o t h hm]
theorem g5 (n : Nat) (o t : D) (h : Dat o) (hm : isNmD o = false) : run TT (n + 4) 21 [.int 5, o, t] = .ok (.int 2) := by
  refine err_of (n + 3) 5 _ t 3 (.inr (.inr (.inl rfl))) ?_
  unfold b21_1
  simp only [x_pass, x_seq, x_set, x_ex, x_ret, x_ife, x_fr, x_wh, x_brk, x_rz, e_k, e_v, e_o, e_nil, e_cons, e_tup, e_lst, e_dct, e_op, e_neg, e_not, e_cm, e_ch, e_and, e_or, e_ife, e_ix, e_sl, e_rev, e_b1, e_b2, e_b3, e_call, e_pick, e_isx, e_it, e_rg1, e_rg2, e_enum, e_zip, e_zips, e_items, e_lc, e_lc2, e_dc, e_dc2, g_0, g_s, s_0, s_s, sl_sh, so_l, so_d, k_ok, k_rz, out_ok, out_rz, endR_nx, endR_rt, endR_rz, then_nx, then_rt, then_rz, then_bk, b_bl, l_lst, t_one, t_two, w_one, w_two, two_tup, Bool.false_eq_true, ↓reduceIte, wT_f, i_len_str, i_len_lst, i_len_tup, i_eqI, i_neI, i_ltI, i_leI, i_gtI, i_geI, i_isN, i_nisN, i_isB, i_nisB, i_inS, i_ninS, i_itS, i_itT, i_itL, isND_non, isND_str, isND_tup, isND_lst, isND_int, isND_bl, calm_ok, all_map, any_map, op_add, op_sub, n_ok, Bool.not_true, Bool.not_false, decide_true, decide_false, show decide ((5 : Int) < 4) = false from rfl, show atI [15, 10] ((5 : Int) - 4) = some 10 from rfl, z_letters n o h hm]
theorem h3 (n : Nat) (x : List Nat) (t : D) (h : isNm x = true) (ht : Dat t) (hm : isLet t = false) : run TT (n + 4) 21 [.int 3, .str x, t] = .ok (.int 3) := by
  refine err_of (n + 3) 3 _ t 4 (.inr (.inr (.inr rfl))) ?_
  unfold b21_1
  simp only [x_pass, x_seq, x_set, x_ex, x_ret, x_ife, x_fr, x_wh, x_brk, x_rz, e_k, e_v, e_o, e_nil, e_cons, e_tup, e_lst, e_dct, e_op, e_neg, e_not, e_cm, e_ch, e_and, e_or, e_ife, e_ix, e_sl, e_rev, e_b1, e_b2, e_b3, e_call, e_pick, e_isx, e_it, e_rg1, e_rg2, e_enum, e_zip, e_zips, e_items, e_lc, e_lc2, e_dc, e_dc2, g_0, g_s, s_0, s_s, sl_sh, so_l, so_d, k_ok, k_rz, out_ok, out_rz, endR_nx, endR_rt, endR_rz, then_nx, then_rt, then_rz, then_bk, b_bl, l_lst, t_one, t_two, w_one, w_two, two_tup, Bool.false_eq_true, ↓reduceIte, wT_f, i_len_str, i_len_lst, i_len_tup, i_eqI, i_neI, i_ltI, i_leI, i_gtI, i_geI, i_isN, i_nisN, i_isB, i_nisB, i_inS, i_ninS, i_itS, i_itT, i_itL, isND_non, isND_str, isND_tup, isND_lst, isND_int, isND_bl, calm_ok, all_map, any_map, op_add, op_sub, n_ok, Bool.not_true, Bool.not_false, decide_true, decide_false, show decide ((3 : Int) < 4) = true from rfl, show atI [8, 13, 14, 11] (3 : Int) = some 11 from rfl, z_place2 n x t h ht hm]
end Mip

set_option linter.all false
set_option maxRecDepth 100000
set_option maxHeartbeats 4000000
/-! plain 10: the first law -/
namespace Mip
open Mi
def oddL : List D := [.non, .lst [], .lst [.str [97]], .tup [.str [97], .str [97]], .tup [.str []], .tup [.str [65]], .tup [.str [97, 98, 99, 100, 101, 102, 103, 104, 105]], .tup [.str [97], .int 7], .str [97, 98],
  .tup [.str [97], .str [98], .str [99], .str [100], .str [101], .str [102], .str [103], .str [104], .str [105]], .tup [.tup [.str [97]]]]
theorem odd_no : ∀ d ∈ oddL, isMnD d = false := by decide +kernel
theorem odd_dat : ∀ d ∈ oddL, Dat d := by decide +kernel
theorem r_badmenu (n : Nat) (ns : List Int) (at_ : Int) (hn : ns.length < 2 ^ 20) (h1 : 0 ≤ at_) (h2 : at_ ≤ 10000) : ∃ d, run TT (n + 2) 20 [.scr ns, .int at_] = .ok d ∧ d ∈ oddL := by
  rw [runT (fd := fd20) rfl rfl rfl rfl]
  show ∃ d, endR (exec (wT (n + 1)) c20 [.sh (.scr ns), .sh (.int at_), .no]) = .ok d ∧ _
  obtain ⟨q, hq, hq1, hq2⟩ := drw_k n ns at_ 11 hn h1 (by omega) (by omega)
  obtain ⟨d, hd, hd2⟩ := ix_lst (l := oddL) hq1 (by show q < 11; exact hq2)
  refine ⟨d, ?_, hd2⟩
  unfold c20
  have e1 : b1R .tuple (.str [97, 98, 99, 100, 101, 102, 103, 104, 105]) = .ok (.tup [.str [97], .str [98], .str [99], .str [100], .str [101], .str [102], .str [103], .str [104], .str [105]]) := rfl
  simp only [x_pass, x_seq, x_set, x_ex, x_ret, x_ife, x_fr, x_wh, x_brk, x_rz, e_k, e_v, e_o, e_nil, e_cons, e_tup, e_lst, e_dct, e_op, e_neg, e_not, e_cm, e_ch, e_and, e_or, e_ife, e_ix, e_sl, e_rev, e_b1, e_b2, e_b3, e_call, e_pick, e_isx, e_it, e_rg1, e_rg2, e_enum, e_zip, e_zips, e_items, e_lc, e_lc2, e_dc, e_dc2, g_0, g_s, s_0, s_s, sl_sh, so_l, so_d, k_ok, k_rz, out_ok, out_rz, endR_nx, endR_rt, endR_rz, then_nx, then_rt, then_rz, then_bk, b_bl, l_lst, t_one, t_two, w_one, w_two, two_tup, Bool.false_eq_true, ↓reduceIte, wT_f, i_len_str, i_len_lst, i_len_tup, i_eqI, i_neI, i_ltI, i_leI, i_gtI, i_geI, i_isN, i_nisN, i_isB, i_nisB, i_inS, i_ninS, i_itS, i_itT, i_itL, isND_non, isND_str, isND_tup, isND_lst, isND_int, isND_bl, calm_ok, all_map, any_map, op_add, op_sub, n_ok, Bool.not_true, Bool.not_false, decide_true, decide_false, mkT, mkL, LIM_eq, List.length_cons, List.length_nil, Nat.reduceAdd, Nat.reduceLeDiff, i_addL, e1, List.cons_append, List.nil_append, hq]
  have hd' : ixR (.lst oddL) (.int q) = .ok d := hd
  unfold oddL at hd'
  rw [hd']
  simp only [x_pass, x_seq, x_set, x_ex, x_ret, x_ife, x_fr, x_wh, x_brk, x_rz, e_k, e_v, e_o, e_nil, e_cons, e_tup, e_lst, e_dct, e_op, e_neg, e_not, e_cm, e_ch, e_and, e_or, e_ife, e_ix, e_sl, e_rev, e_b1, e_b2, e_b3, e_call, e_pick, e_isx, e_it, e_rg1, e_rg2, e_enum, e_zip, e_zips, e_items, e_lc, e_lc2, e_dc, e_dc2, g_0, g_s, s_0, s_s, sl_sh, so_l, so_d, k_ok, k_rz, out_ok, out_rz, endR_nx, endR_rt, endR_rz, then_nx, then_rt, then_rz, then_bk, b_bl, l_lst, t_one, t_two, w_one, w_two, two_tup, Bool.false_eq_true, ↓reduceIte, wT_f, i_len_str, i_len_lst, i_len_tup, i_eqI, i_neI, i_ltI, i_leI, i_gtI, i_geI, i_isN, i_nisN, i_isB, i_nisB, i_inS, i_ninS, i_itS, i_itT, i_itL, isND_non, isND_str, isND_tup, isND_lst, isND_int, isND_bl, calm_ok, all_map, any_map, op_add, op_sub, n_ok, Bool.not_true, Bool.not_false, decide_true, decide_false]
theorem pick_of {l : List D} {P : D → Prop} (hP : ∀ d ∈ l, P d) {q : Int} (h : 0 ≤ q) (h2 : q < l.length) : ∃ x, ixR (.lst l) (.int q) = .ok x ∧ P x := by
  obtain ⟨x, e, hx⟩ := ix_lst h h2
  exact ⟨x, e, hP x hx⟩
theorem r_list_ix (xs : List D) (h : xs.length ≤ 16777216) : b1R .list (.tup xs) = .ok (.lst xs) := rfl
theorem hasA_lst (M : List (List Nat)) (xs : List D) : hasA M (.lst xs) = false := rfl
theorem atI_last {x : List Nat} (h : x ≠ []) : ∃ c, atI x (-1) = some c ∧ c ∈ x := by
  have hl : 1 ≤ x.length := by cases x <;> simp_all
  have e : atI x (-1) = x[x.length - 1]? := by
    unfold atI ixN
    rw [if_neg (by decide), if_pos (by omega)]
    have : ((-1 : Int) + x.length).toNat = x.length - 1 := by omega
    rw [this]
    rfl
  rw [e]
  have : x.length - 1 < x.length := by omega
  exact ⟨x[x.length - 1], by simp [this], List.getElem_mem _⟩
theorem i_itA (a : List (Option Nat)) : itemsR (aD a) = .ok (a.map oD) := opq rfl
theorem i_lenA (a : List (Option Nat)) : b1R .len (aD a) = .ok (.int a.length) := by
  unfold aD; rw [i_len_tup, List.length_map]
theorem i_itM (M : List (List Nat)) : itemsR (mD M) = .ok (M.map .str) := opq rfl
theorem i_lenM (M : List (List Nat)) : b1R .len (mD M) = .ok (.int M.length) := by
  unfold mD; rw [i_len_tup, List.length_map]
theorem lc_some (a : List (Option Nat)) : lcR (fun x => (if (!isND x) = true then R.ok (some x) else R.ok none : R (Option D))) (a.map oD) = .ok ((a.filter Option.isSome).map oD) := by
  rw [lcR_ifI (p := fun x => !isND x) (g := fun x => x) fun x _ => rfl, List.map_id', somes_oD]
/-- the drawn tuple -/
theorem drawn_tup (f : D → R D) (P : D → Prop) : ∀ (xs : List D), (∀ x ∈ xs, ∃ y, f x = .ok y ∧ P y) → ∃ ys, lcR (fun x => (f x).bind fun z => .ok (some z)) xs = .ok ys ∧ ys.length = xs.length ∧ ∀ y ∈ ys, P y
  | [], _ => ⟨[], rfl, rfl, by simp⟩
  | x :: r, h => by
    obtain ⟨y, e, hy⟩ := h x List.mem_cons_self
    obtain ⟨ys, e2, hl, hP⟩ := drawn_tup f P r fun z hz => h z (List.mem_cons_of_mem _ hz)
    refine ⟨y :: ys, ?_, by simp [hl], ?_⟩
    · rw [lcR, e]
      simp only [bind_ok]
      rw [e2]
      rfl
    · intro z hz
      rcases List.mem_cons.mp hz with rfl | hz
      · exact hy
      · exact hP z hz
theorem hasA_more (M : List (List Nat)) (a : List (Option Nat)) (o : Option Nat) (h : a.length = M.length) : hasA M (aD (a ++ [o])) = false := by
  cases e : hasA M (aD (a ++ [o])) with
  | false => rfl
  | true =>
    have := (hasA_iff.mp e).len
    simp at this
    omega
theorem r_err_told (n : Nat) (odd bad : D) (ho : Dat odd) (hm : isMnD odd = false) : lcR (fun x => (run TT (n + 5) 21 [x, odd, bad]).bind fun z => R.ok (some z)) [.int 0, .int 1, .int 2, .int 4] = .ok [.int 0, .int 0, .int 0, .int 0] := by
  simp only [lcR, e0 n odd bad ho hm, e1 n odd bad ho hm, e2 n odd bad ho hm, e4 n odd bad ho hm, bind_ok, optC]
theorem r_err_told2 (n : Nat) (M : List (List Nat)) (bad : D) (hM : isMn M = true) (ho : Dat bad) (hm : hasA M bad = false) : lcR (fun x => (run TT (n + 6) 21 [x, mD M, bad]).bind fun z => R.ok (some z)) [.int 1, .int 2] = .ok [.int 1, .int 1] := by
  simp only [lcR, f1 n M bad hM ho hm, f2 n M bad hM ho hm, bind_ok, optC]
def badL : List D := [.non, .tup [], .lst [.non], .tup [.str [122, 122]], .tup (reps [.str [122]] 9)]
def nameL : List D := [.non, .str [], .str [65], .str [97, 98, 99, 100, 101, 102, 103, 104, 105], .int 7, .tup [.str [97]]]
def letL : List D := [.non, .str [], .str [97, 98], .str [65], .int 7, .str [46]]
def ABC : List (List Nat) := [[97], [98], [99]]
theorem bad_ok : ∀ d ∈ badL, Dat d ∧ hasA ABC d = false := by decide +kernel
theorem name_ok : ∀ d ∈ nameL, Dat d ∧ isNmD d = false := by decide +kernel
theorem let_ok : ∀ d ∈ letL, Dat d ∧ isLet d = false := by decide +kernel
theorem i_mul9 : opR .mul (.tup [.str [122]]) (.int 9) = .ok (.tup (reps [.str [122]] 9)) := opq rfl
theorem turn_ok (n : Nat) (M : List (List Nat)) (hM : isMn M = true) (sc : Sl) (s2 s3 s4 s7 s8 s9 s10 s12 s13 : Sl) (x : List Nat) (hx : x ∈ M) (e3 : 122 ∉ x) (f : List (Option Nat)) (hf : f.length ≤ 8) (s6 s11 : Sl) :
    exec (wT (n + 3)) b22_1 [sc, .sh (mD M), s2, s3, s4, .sh (aD f), .sh (.str x), s7, s8, .no, s10, s11, s12, s13] = .nx [sc, .sh (mD M), s2, s3, s4, .sh (aD (f ++ [(lft x f).head?])), .sh (.str x), s7, s8, .no, s10, .sh (chD (lft x f)), s12, s13] := by
  have hN := isMn_nm hM x hx
  have hl := isNm_len hN
  have hz := isNm_az hN
  obtain ⟨c, hc, hc2⟩ := atI_last (x := x) (by intro e; rw [e] at hl; simp at hl)
  have ex : ixR (.str x) (.int (-1)) = .ok (.str [c]) := by
    show (match atI x (-1) with
      | some c => R.ok (D.str [c])
      | none => .no) = _
    rw [hc]
  unfold b22_1
  simp only [x_pass, x_seq, x_set, x_ex, x_ret, x_ife, x_fr, x_wh, x_brk, x_rz, e_k, e_v, e_o, e_nil, e_cons, e_tup, e_lst, e_dct, e_op, e_neg, e_not, e_cm, e_ch, e_and, e_or, e_ife, e_ix, e_sl, e_rev, e_b1, e_b2, e_b3, e_call, e_pick, e_isx, e_it, e_rg1, e_rg2, e_enum, e_zip, e_zips, e_items, e_lc, e_lc2, e_dc, e_dc2, g_0, g_s, s_0, s_s, sl_sh, so_l, so_d, k_ok, k_rz, out_ok, out_rz, endR_nx, endR_rt, endR_rz, then_nx, then_rt, then_rz, then_bk, b_bl, l_lst, t_one, t_two, w_one, w_two, two_tup, Bool.false_eq_true, ↓reduceIte, wT_f, i_len_str, i_len_lst, i_len_tup, i_eqI, i_neI, i_ltI, i_leI, i_gtI, i_geI, i_isN, i_nisN, i_isB, i_nisB, i_inS, i_ninS, i_itS, i_itT, i_itL, isND_non, isND_str, isND_tup, isND_lst, isND_int, isND_bl, calm_ok, all_map, any_map, op_add, op_sub, n_ok, Bool.not_true, Bool.not_false, decide_true, decide_false, i_ninA]
  rw [lcR_ifE (e := fun c => D.str [c]) (p := fun c => !decide (some c ∈ f)) (g := fun c => .str [c]) fun c _ => by simp only [x_pass, x_seq, x_set, x_ex, x_ret, x_ife, x_fr, x_wh, x_brk, x_rz, e_k, e_v, e_o, e_nil, e_cons, e_tup, e_lst, e_dct, e_op, e_neg, e_not, e_cm, e_ch, e_and, e_or, e_ife, e_ix, e_sl, e_rev, e_b1, e_b2, e_b3, e_call, e_pick, e_isx, e_it, e_rg1, e_rg2, e_enum, e_zip, e_zips, e_items, e_lc, e_lc2, e_dc, e_dc2, g_0, g_s, s_0, s_s, sl_sh, so_l, so_d, k_ok, k_rz, out_ok, out_rz, endR_nx, endR_rt, endR_rz, then_nx, then_rt, then_rz, then_bk, b_bl, l_lst, t_one, t_two, w_one, w_two, two_tup, Bool.false_eq_true, ↓reduceIte, wT_f, i_len_str, i_len_lst, i_len_tup, i_eqI, i_neI, i_ltI, i_leI, i_gtI, i_geI, i_isN, i_nisN, i_isB, i_nisB, i_inS, i_ninS, i_itS, i_itT, i_itL, isND_non, isND_str, isND_tup, isND_lst, isND_int, isND_bl, calm_ok, all_map, any_map, op_add, op_sub, n_ok, Bool.not_true, Bool.not_false, decide_true, decide_false, i_ninA]]
  simp only [x_pass, x_seq, x_set, x_ex, x_ret, x_ife, x_fr, x_wh, x_brk, x_rz, e_k, e_v, e_o, e_nil, e_cons, e_tup, e_lst, e_dct, e_op, e_neg, e_not, e_cm, e_ch, e_and, e_or, e_ife, e_ix, e_sl, e_rev, e_b1, e_b2, e_b3, e_call, e_pick, e_isx, e_it, e_rg1, e_rg2, e_enum, e_zip, e_zips, e_items, e_lc, e_lc2, e_dc, e_dc2, g_0, g_s, s_0, s_s, sl_sh, so_l, so_d, k_ok, k_rz, out_ok, out_rz, endR_nx, endR_rt, endR_rz, then_nx, then_rt, then_rz, then_bk, b_bl, l_lst, t_one, t_two, w_one, w_two, two_tup, Bool.false_eq_true, ↓reduceIte, wT_f, i_len_str, i_len_lst, i_len_tup, i_eqI, i_neI, i_ltI, i_leI, i_gtI, i_geI, i_isN, i_nisN, i_isB, i_nisB, i_inS, i_ninS, i_itS, i_itT, i_itL, isND_non, isND_str, isND_tup, isND_lst, isND_int, isND_bl, calm_ok, all_map, any_map, op_add, op_sub, n_ok, Bool.not_true, Bool.not_false, decide_true, decide_false, i_mkL1, i_addL]
  rw [show (x.filter fun c => !decide (some c ∈ f)) = lft x f from rfl, i_mkL (by
    have : (lft x f).length ≤ x.length := List.length_filter_le _ _
    simp; omega)]
  have e1 : ixR (.lst ((lft x f).map (fun c => D.str [c]) ++ [.non])) (.int 0) = .ok (oD (lft x f).head?) := by
    rw [i_ixL0]
    cases lft x f <;> rfl
  simp only [x_pass, x_seq, x_set, x_ex, x_ret, x_ife, x_fr, x_wh, x_brk, x_rz, e_k, e_v, e_o, e_nil, e_cons, e_tup, e_lst, e_dct, e_op, e_neg, e_not, e_cm, e_ch, e_and, e_or, e_ife, e_ix, e_sl, e_rev, e_b1, e_b2, e_b3, e_call, e_pick, e_isx, e_it, e_rg1, e_rg2, e_enum, e_zip, e_zips, e_items, e_lc, e_lc2, e_dc, e_dc2, g_0, g_s, s_0, s_s, sl_sh, so_l, so_d, k_ok, k_rz, out_ok, out_rz, endR_nx, endR_rt, endR_rz, then_nx, then_rt, then_rz, then_bk, b_bl, l_lst, t_one, t_two, w_one, w_two, two_tup, Bool.false_eq_true, ↓reduceIte, wT_f, i_len_str, i_len_lst, i_len_tup, i_eqI, i_neI, i_ltI, i_leI, i_gtI, i_geI, i_isN, i_nisN, i_isB, i_nisB, i_inS, i_ninS, i_itS, i_itT, i_itL, isND_non, isND_str, isND_tup, isND_lst, isND_int, isND_bl, calm_ok, all_map, any_map, op_add, op_sub, n_ok, Bool.not_true, Bool.not_false, decide_true, decide_false, e1, i_mkT1]
  have e2 : opR .add (aD f) (.tup [oD (lft x f).head?]) = .ok (aD (f ++ [(lft x f).head?])) := by
    unfold aD
    rw [i_addT, aD_app, i_mkT (by simp; omega)]
  simp only [x_pass, x_seq, x_set, x_ex, x_ret, x_ife, x_fr, x_wh, x_brk, x_rz, e_k, e_v, e_o, e_nil, e_cons, e_tup, e_lst, e_dct, e_op, e_neg, e_not, e_cm, e_ch, e_and, e_or, e_ife, e_ix, e_sl, e_rev, e_b1, e_b2, e_b3, e_call, e_pick, e_isx, e_it, e_rg1, e_rg2, e_enum, e_zip, e_zips, e_items, e_lc, e_lc2, e_dc, e_dc2, g_0, g_s, s_0, s_s, sl_sh, so_l, so_d, k_ok, k_rz, out_ok, out_rz, endR_nx, endR_rt, endR_rz, then_nx, then_rt, then_rz, then_bk, b_bl, l_lst, t_one, t_two, w_one, w_two, two_tup, Bool.false_eq_true, ↓reduceIte, wT_f, i_len_str, i_len_lst, i_len_tup, i_eqI, i_neI, i_ltI, i_leI, i_gtI, i_geI, i_isN, i_nisN, i_isB, i_nisB, i_inS, i_ninS, i_itS, i_itT, i_itL, isND_non, isND_str, isND_tup, isND_lst, isND_int, isND_bl, calm_ok, all_map, any_map, op_add, op_sub, n_ok, Bool.not_true, Bool.not_false, decide_true, decide_false, e2, r_letters n x hN, i_sset x (isNm_4000 hN), i_ne_refl (dat_ch (lts x)), chD]
  simp only [ex, r_place n x c hN (hz c hc2), if_pos hc2, x_pass, x_seq, x_set, x_ex, x_ret, x_ife, x_fr, x_wh, x_brk, x_rz, e_k, e_v, e_o, e_nil, e_cons, e_tup, e_lst, e_dct, e_op, e_neg, e_not, e_cm, e_ch, e_and, e_or, e_ife, e_ix, e_sl, e_rev, e_b1, e_b2, e_b3, e_call, e_pick, e_isx, e_it, e_rg1, e_rg2, e_enum, e_zip, e_zips, e_items, e_lc, e_lc2, e_dc, e_dc2, g_0, g_s, s_0, s_s, sl_sh, so_l, so_d, k_ok, k_rz, out_ok, out_rz, endR_nx, endR_rt, endR_rz, then_nx, then_rt, then_rz, then_bk, b_bl, l_lst, t_one, t_two, w_one, w_two, two_tup, Bool.false_eq_true, ↓reduceIte, wT_f, i_len_str, i_len_lst, i_len_tup, i_eqI, i_neI, i_ltI, i_leI, i_gtI, i_geI, i_isN, i_nisN, i_isB, i_nisB, i_inS, i_ninS, i_itS, i_itT, i_itL, isND_non, isND_str, isND_tup, isND_lst, isND_int, isND_bl, calm_ok, all_map, any_map, op_add, op_sub, n_ok, Bool.not_true, Bool.not_false, decide_true, decide_false, i_recv_index, i_index hc2, r_place n x 122 hN (by decide), if_neg e3]
theorem dat_bl (b : Bool) : Dat (.bl b) := by simp [Dat, D.dat]
theorem R.bind_assoc {α β γ : Type} (r : R α) (f : α → R β) (g : β → R γ) : (r.bind f).bind g = r.bind fun x => (f x).bind g := by cases r <;> rfl
theorem law_k01 (n : Nat) (ns : List Int) (hn : ns.length ≤ 63) : run TT (n + 7) 22 [.scr ns] = .ok (.bl true) := by
  have hn2 : ns.length < 2 ^ 20 := by omega
  rw [runT (fd := fd22) rfl rfl rfl rfl]
  show endR (exec (wT (n + 6)) c22 [.sh (.scr ns), .no, .no, .no, .no, .no, .no, .no, .no, .no, .no, .no, .no, .no]) = _
  obtain ⟨M, eM, hL⟩ := r_law_menu (n + 4) ns 10 5 5 hn2 (by decide) (by decide) (by decide) (by decide) (by decide) (by decide)
  have hM := lm_mn hL (by decide) (by decide)
  have hz := lm_az hL (by decide)
  have hS := lm_short hL (by decide)
  have eP := r_partial (n + 5) M hS
  have pl : 0 < (parts M).length := List.length_pos_iff.mpr (parts_ne M)
  obtain ⟨q1, eq1, q1a, q1b⟩ := drw_k (n + 5) ns 1 (parts M).length hn2 (by decide) (by decide) (by omega)
  obtain ⟨row, eR, hrow⟩ := ix_lst (l := (parts M).map aD) q1a (by rw [List.length_map]; exact q1b)
  obtain ⟨a, ha, rfl⟩ := List.mem_map.mp hrow
  have hA := (mem_parts _ rfl hz).mp ha
  -- the drawn tuple
  have mk : ∀ k : Nat, ∃ y : Int × D, k < M.length → run TT (n + 6) 16 [.scr ns, .int (60 + k), .int 7] = .ok (.int y.1) ∧ ixR (.lst [.non, .str [97], .str [98], .str [99], .str [122], .str [97, 98], .int 7]) (.int y.1) = .ok y.2 ∧ y.2.dat 29 = true := fun k => by
    by_cases hk : k < M.length
    · have := isMn_len hM
      obtain ⟨q, eq, qa, qb⟩ := drw_k (n + 5) ns (60 + k) 7 hn2 (by omega) (by omega) (by decide)
      obtain ⟨d, hd, hd2⟩ := pick_of (l := [.non, .str [97], .str [98], .str [99], .str [122], .str [97, 98], .int 7]) (P := fun d => d.dat 29 = true) (by decide +kernel) qa qb
      exact ⟨(q, d), fun _ => ⟨eq, hd, hd2⟩⟩
    · exact ⟨(0, .non), fun h => absurd h hk⟩
  obtain ⟨g, hg⟩ := Classical.skolem.mp mk
  have dY : Dat (.tup ((List.range M.length).map fun k => (g k).2)) := by
    show D.dat 30 (.tup _) = true
    simp only [D.dat, List.all_eq_true]
    intro x hx
    obtain ⟨k, hk, rfl⟩ := List.mem_map.mp hx
    exact (hg k (List.mem_range.mp hk)).2.2
  -- what is refused
  obtain ⟨odd, eO, hO⟩ := r_badmenu (n + 4) ns 2 hn2 (by decide) (by decide)
  obtain ⟨q3, eq3, q3a, q3b⟩ := drw_k (n + 5) ns 3 5 hn2 (by decide) (by decide) (by decide)
  obtain ⟨q4, eq4, q4a, q4b⟩ := drw_k (n + 5) ns 4 6 hn2 (by decide) (by decide) (by decide)
  obtain ⟨q5, eq5, q5a, q5b⟩ := drw_k (n + 5) ns 5 6 hn2 (by decide) (by decide) (by decide)
  obtain ⟨bad, eB, hB⟩ := ix_lst (l := badL) q3a q3b
  obtain ⟨nam, eN, hN⟩ := ix_lst (l := nameL) q4a q4b
  obtain ⟨lt, eT, hT⟩ := ix_lst (l := letL) q5a q5b
  unfold badL at eB
  unfold nameL at eN
  unfold letL at eT
  have oD1 := odd_dat odd hO
  have oM := odd_no odd hO
  have toldA := r_err_told (n + 1) odd bad oD1 oM
  have toldB := r_err_told2 n ABC bad (by decide +kernel) (bad_ok bad hB).1 (bad_ok bad hB).2
  have abc : D.tup [.str [97], .str [98], .str [99]] = mD ABC := rfl
  have wM : (wT (n + 6)).toCl.f 17 [.scr ns, .int 10, .int 5, .int 5] = .ok (mD M) := eM
  have wP : (wT (n + 6)).toCl.f 19 [mD M] = .ok (.lst ((parts M).map aD)) := eP
  have w1 : (wT (n + 6)).toCl.f 16 [.scr ns, .int 1, .int (parts M).length] = .ok (.int q1) := eq1
  have wI : ∀ M, (wT (n + 6)).toCl.f 2 [mD M] = .ok (.bl (isMn M)) := fun M => r_is_menu' _ M
  have wI2 : (wT (n + 6)).toCl.f 2 [odd] = .ok (.bl false) := by rw [← oM]; exact r_is_menu _ odd oD1
  have wA : ∀ d, Dat d → (wT (n + 6)).toCl.f 8 [mD M, d] = .ok (.bl (hasA M d)) := fun d h => r_is_assignment _ M d h hM
  have wC : (wT (n + 6)).toCl.f 14 [mD M, aD a] = .ok (.int (costA M a)) := r_cost _ M a hM hA
  have wC2 : (wT (n + 6)).toCl.f 18 [mD M, aD a] = .ok (.int (costA M a)) := r_law_cost _ M a hA
  have wS : (wT (n + 6)).toCl.f 13 [mD M, aD a] = .ok (.int (sizeA a)) := r_size _ M a hM hA
  have wD : ∀ x, x < M.length → (wT (n + 6)).toCl.f 16 [.scr ns, .int (60 + x), .int 7] = .ok (.int (g x).1) := fun x h => (hg x h).1
  have wG : (wT (n + 6)).toCl.f 15 [mD M] = .ok (aD (grd M)) := r_greedy _ M hM
  have wO : (wT (n + 6)).toCl.f 20 [.scr ns, .int 2] = .ok odd := eO
  have w3 : (wT (n + 6)).toCl.f 16 [.scr ns, .int 3, .int 5] = .ok (.int q3) := eq3
  have w4 : (wT (n + 6)).toCl.f 16 [.scr ns, .int 4, .int 6] = .ok (.int q4) := eq4
  have w5 : (wT (n + 6)).toCl.f 16 [.scr ns, .int 5, .int 6] = .ok (.int q5) := eq5
  have wE3 : (wT (n + 6)).toCl.f 21 [.int 3, nam, lt] = .ok (.int 2) := g3 (n + 2) nam lt (name_ok nam hN).1 (name_ok nam hN).2
  have wE5 : (wT (n + 6)).toCl.f 21 [.int 5, nam, .int 0] = .ok (.int 2) := g5 (n + 2) nam (.int 0) (name_ok nam hN).1 (name_ok nam hN).2
  have wE4 : (wT (n + 6)).toCl.f 21 [.int 3, .str [97, 98], lt] = .ok (.int 3) := h3 (n + 2) [97, 98] lt (by decide +kernel) (let_ok lt hT).1 (let_ok lt hT).2
  have wTA : lcR (fun x => ((wT (n + 6)).toCl.f 21 [x, odd, bad]).bind fun z => R.ok (some z)) [.int 0, .int 1, .int 2, .int 4] = .ok [.int 0, .int 0, .int 0, .int 0] := toldA
  have wTB : lcR (fun x => ((wT (n + 6)).toCl.f 21 [x, mD ABC, bad]).bind fun z => R.ok (some z)) [.int 1, .int 2] = .ok [.int 1, .int 1] := toldB
  have wTu := turn_ok (n + 3) M hM
  have hg2 := fun x h => (hg x h).2
  rw [show n + 3 + 3 = n + 6 from rfl] at wTu
  clear eM eP eq1 eO eq3 eq4 eq5 toldA toldB hg mk
  generalize wT (n + 6) = w at *
  unfold c22
  simp only [x_pass, x_seq, x_set, x_ex, x_ret, x_ife, x_fr, x_wh, x_brk, x_rz, e_k, e_v, e_o, e_nil, e_cons, e_tup, e_lst, e_dct, e_op, e_neg, e_not, e_cm, e_ch, e_and, e_or, e_ife, e_ix, e_sl, e_rev, e_b1, e_b2, e_b3, e_call, e_pick, e_isx, e_it, e_rg1, e_rg2, e_enum, e_zip, e_zips, e_items, e_lc, e_lc2, e_dc, e_dc2, g_0, g_s, s_0, s_s, sl_sh, so_l, so_d, k_ok, k_rz, out_ok, out_rz, endR_nx, endR_rt, endR_rz, then_nx, then_rt, then_rz, then_bk, b_bl, l_lst, t_one, t_two, w_one, w_two, two_tup, Bool.false_eq_true, ↓reduceIte, wT_f, i_len_str, i_len_lst, i_len_tup, i_eqI, i_neI, i_ltI, i_leI, i_gtI, i_geI, i_isN, i_nisN, i_isB, i_nisB, i_inS, i_ninS, i_itS, i_itT, i_itL, isND_non, isND_str, isND_tup, isND_lst, isND_int, isND_bl, calm_ok, all_map, any_map, op_add, op_sub, n_ok, Bool.not_true, Bool.not_false, decide_true, decide_false, wM, wP, List.length_map, w1, eR, wI, hM, wA _ (dat_aD a), hasA_of hA, beq_self_eq_true, wC, wC2, wS, i_itA, i_lenM, lc_some, sizeA]
  rw [rng0 _ (by omega) (by have := isMn_len hM; omega)]
  simp only [x_pass, x_seq, x_set, x_ex, x_ret, x_ife, x_fr, x_wh, x_brk, x_rz, e_k, e_v, e_o, e_nil, e_cons, e_tup, e_lst, e_dct, e_op, e_neg, e_not, e_cm, e_ch, e_and, e_or, e_ife, e_ix, e_sl, e_rev, e_b1, e_b2, e_b3, e_call, e_pick, e_isx, e_it, e_rg1, e_rg2, e_enum, e_zip, e_zips, e_items, e_lc, e_lc2, e_dc, e_dc2, g_0, g_s, s_0, s_s, sl_sh, so_l, so_d, k_ok, k_rz, out_ok, out_rz, endR_nx, endR_rt, endR_rz, then_nx, then_rt, then_rz, then_bk, b_bl, l_lst, t_one, t_two, w_one, w_two, two_tup, Bool.false_eq_true, ↓reduceIte, wT_f, i_len_str, i_len_lst, i_len_tup, i_eqI, i_neI, i_ltI, i_leI, i_gtI, i_geI, i_isN, i_nisN, i_isB, i_nisB, i_inS, i_ninS, i_itS, i_itT, i_itL, isND_non, isND_str, isND_tup, isND_lst, isND_int, isND_bl, calm_ok, all_map, any_map, op_add, op_sub, n_ok, Bool.not_true, Bool.not_false, decide_true, decide_false, Int.toNat_natCast]
  rw [lcR_all (e := fun k : Nat => D.int k) (g := fun k => (g k).2) fun k hk => by
    have h := hg2 k (List.mem_range.mp hk)
    have h' := wD k (List.mem_range.mp hk)
    simp only [x_pass, x_seq, x_set, x_ex, x_ret, x_ife, x_fr, x_wh, x_brk, x_rz, e_k, e_v, e_o, e_nil, e_cons, e_tup, e_lst, e_dct, e_op, e_neg, e_not, e_cm, e_ch, e_and, e_or, e_ife, e_ix, e_sl, e_rev, e_b1, e_b2, e_b3, e_call, e_pick, e_isx, e_it, e_rg1, e_rg2, e_enum, e_zip, e_zips, e_items, e_lc, e_lc2, e_dc, e_dc2, g_0, g_s, s_0, s_s, sl_sh, so_l, so_d, k_ok, k_rz, out_ok, out_rz, endR_nx, endR_rt, endR_rz, then_nx, then_rt, then_rz, then_bk, b_bl, l_lst, t_one, t_two, w_one, w_two, two_tup, Bool.false_eq_true, ↓reduceIte, wT_f, i_len_str, i_len_lst, i_len_tup, i_eqI, i_neI, i_ltI, i_leI, i_gtI, i_geI, i_isN, i_nisN, i_isB, i_nisB, i_inS, i_ninS, i_itS, i_itT, i_itL, isND_non, isND_str, isND_tup, isND_lst, isND_int, isND_bl, calm_ok, all_map, any_map, op_add, op_sub, n_ok, Bool.not_true, Bool.not_false, decide_true, decide_false, mkL, LIM_eq, List.length_cons, List.length_nil, Nat.reduceAdd, Nat.reduceLeDiff, h', h.1]]
  simp only [x_pass, x_seq, x_set, x_ex, x_ret, x_ife, x_fr, x_wh, x_brk, x_rz, e_k, e_v, e_o, e_nil, e_cons, e_tup, e_lst, e_dct, e_op, e_neg, e_not, e_cm, e_ch, e_and, e_or, e_ife, e_ix, e_sl, e_rev, e_b1, e_b2, e_b3, e_call, e_pick, e_isx, e_it, e_rg1, e_rg2, e_enum, e_zip, e_zips, e_items, e_lc, e_lc2, e_dc, e_dc2, g_0, g_s, s_0, s_s, sl_sh, so_l, so_d, k_ok, k_rz, out_ok, out_rz, endR_nx, endR_rt, endR_rz, then_nx, then_rt, then_rz, then_bk, b_bl, l_lst, t_one, t_two, w_one, w_two, two_tup, Bool.false_eq_true, ↓reduceIte, wT_f, i_len_str, i_len_lst, i_len_tup, i_eqI, i_neI, i_ltI, i_leI, i_gtI, i_geI, i_isN, i_nisN, i_isB, i_nisB, i_inS, i_ninS, i_itS, i_itT, i_itL, isND_non, isND_str, isND_tup, isND_lst, isND_int, isND_bl, calm_ok, all_map, any_map, op_add, op_sub, n_ok, Bool.not_true, Bool.not_false, decide_true, decide_false]
  have tupL : ∀ l : List D, b1R .tuple (.lst l) = .ok (.tup l) := fun _ => rfl
  have lstT : b1R .list (aD a) = .ok (.lst (a.map oD)) := rfl
  have dL : Dat (.lst (a.map oD)) := by simp [Dat, D.dat, dat_oD]
  have addN : opR .add (aD a) (.tup [.non]) = .ok (aD (a ++ [none])) := by
    show mkT (a.map oD ++ [oD none]) = _
    rw [aD_app, i_mkT (by have := hA.len; have := isMn_len hM; simp; omega)]
    rfl
  simp only [x_pass, x_seq, x_set, x_ex, x_ret, x_ife, x_fr, x_wh, x_brk, x_rz, e_k, e_v, e_o, e_nil, e_cons, e_tup, e_lst, e_dct, e_op, e_neg, e_not, e_cm, e_ch, e_and, e_or, e_ife, e_ix, e_sl, e_rev, e_b1, e_b2, e_b3, e_call, e_pick, e_isx, e_it, e_rg1, e_rg2, e_enum, e_zip, e_zips, e_items, e_lc, e_lc2, e_dc, e_dc2, g_0, g_s, s_0, s_s, sl_sh, so_l, so_d, k_ok, k_rz, out_ok, out_rz, endR_nx, endR_rt, endR_rz, then_nx, then_rt, then_rz, then_bk, b_bl, l_lst, t_one, t_two, w_one, w_two, two_tup, Bool.false_eq_true, ↓reduceIte, wT_f, i_len_str, i_len_lst, i_len_tup, i_eqI, i_neI, i_ltI, i_leI, i_gtI, i_geI, i_isN, i_nisN, i_isB, i_nisB, i_inS, i_ninS, i_itS, i_itT, i_itL, isND_non, isND_str, isND_tup, isND_lst, isND_int, isND_bl, calm_ok, all_map, any_map, op_add, op_sub, n_ok, Bool.not_true, Bool.not_false, decide_true, decide_false, tupL, lstT, wA _ dY, in_parts hz dY, i_ne_refl (dat_bl _), wA _ dL, hasA_lst, i_mkT1, addN, wA _ (dat_aD (a ++ [none])), hasA_more M a none hA.len, i_mkT0, i_itM]
  have hA2 : ∀ d x r, d ++ x :: r = M → (grd d).length ≤ 8 := fun d x r hd => by
    rw [grd_len]
    have := isMn_len hM
    rw [← hd] at this
    simp at this
    omega
  obtain ⟨ρ, e, s6, s11, h⟩ := forR_all (g := .one 6) (b := exec w b22_1) (e := D.str) (xs := M) (ρ := [.sh (.scr ns), .sh (mD M), .sh (.lst ((parts M).map aD)), .sh (aD a), .sh (.tup ((List.range M.length).map fun k => (g k).2)), .sh (.tup []), .no, .no, .no, .no, .no, .no, .no, .no])
    (fun d ρ => ∃ s6 s11, ρ = [.sh (.scr ns), .sh (mD M), .sh (.lst ((parts M).map aD)), .sh (aD a), .sh (.tup ((List.range M.length).map fun k => (g k).2)), .sh (aD (grd d)), s6, .no, .no, .no, .no, s11, .no, .no]) ⟨.no, .no, rfl⟩ (by
      rintro d x r ρ hd ⟨s6, s11, rfl⟩
      have hx : x ∈ M := by rw [← hd]; simp
      have e3 : 122 ∉ x := fun h => by
        have := (hL.nm x hx).2.2 122 h
        omega
      have := wTu (.sh (.scr ns)) (.sh (.lst ((parts M).map aD))) (.sh (aD a)) (.sh (.tup ((List.range M.length).map fun k => (g k).2))) .no .no .no .no .no .no x hx e3 (grd d) (hA2 d x r hd) s6 s11
      rw [← grd_snoc] at this
      exact ⟨_, _, rfl, this, _, _, rfl⟩)
  rw [e, h]
  have t8 : b1R .tuple (.str [97, 98, 99, 100, 101, 102, 103, 104]) = .ok (mD [[97], [98], [99], [100], [101], [102], [103], [104]]) := rfl
  have t1 : D.tup [.str [97, 98, 99, 100, 101, 102, 103, 104]] = mD [[97, 98, 99, 100, 101, 102, 103, 104]] := rfl
  have m8 : isMn [[97], [98], [99], [100], [101], [102], [103], [104]] = true := by decide +kernel
  have m1 : isMn [[97, 98, 99, 100, 101, 102, 103, 104]] = true := by decide +kernel
  simp only [x_pass, x_seq, x_set, x_ex, x_ret, x_ife, x_fr, x_wh, x_brk, x_rz, e_k, e_v, e_o, e_nil, e_cons, e_tup, e_lst, e_dct, e_op, e_neg, e_not, e_cm, e_ch, e_and, e_or, e_ife, e_ix, e_sl, e_rev, e_b1, e_b2, e_b3, e_call, e_pick, e_isx, e_it, e_rg1, e_rg2, e_enum, e_zip, e_zips, e_items, e_lc, e_lc2, e_dc, e_dc2, g_0, g_s, s_0, s_s, sl_sh, so_l, so_d, k_ok, k_rz, out_ok, out_rz, endR_nx, endR_rt, endR_rz, then_nx, then_rt, then_rz, then_bk, b_bl, l_lst, t_one, t_two, w_one, w_two, two_tup, Bool.false_eq_true, ↓reduceIte, wT_f, i_len_str, i_len_lst, i_len_tup, i_eqI, i_neI, i_ltI, i_leI, i_gtI, i_geI, i_isN, i_nisN, i_isB, i_nisB, i_inS, i_ninS, i_itS, i_itT, i_itL, isND_non, isND_str, isND_tup, isND_lst, isND_int, isND_bl, calm_ok, all_map, any_map, op_add, op_sub, n_ok, Bool.not_true, Bool.not_false, decide_true, decide_false, wG, i_ne_refl (dat_aD _), t8, i_mkT1, t1, wI, m8, m1, wO]
  simp only [x_pass, x_seq, x_set, x_ex, x_ret, x_ife, x_fr, x_wh, x_brk, x_rz, e_k, e_v, e_o, e_nil, e_cons, e_tup, e_lst, e_dct, e_op, e_neg, e_not, e_cm, e_ch, e_and, e_or, e_ife, e_ix, e_sl, e_rev, e_b1, e_b2, e_b3, e_call, e_pick, e_isx, e_it, e_rg1, e_rg2, e_enum, e_zip, e_zips, e_items, e_lc, e_lc2, e_dc, e_dc2, g_0, g_s, s_0, s_s, sl_sh, so_l, so_d, k_ok, k_rz, out_ok, out_rz, endR_nx, endR_rt, endR_rz, then_nx, then_rt, then_rz, then_bk, b_bl, l_lst, t_one, t_two, w_one, w_two, two_tup, Bool.false_eq_true, ↓reduceIte, wT_f, i_len_str, i_len_lst, i_len_tup, i_eqI, i_neI, i_ltI, i_leI, i_gtI, i_geI, i_isN, i_nisN, i_isB, i_nisB, i_inS, i_ninS, i_itS, i_itT, i_itL, isND_non, isND_str, isND_tup, isND_lst, isND_int, isND_bl, calm_ok, all_map, any_map, op_add, op_sub, n_ok, Bool.not_true, Bool.not_false, decide_true, decide_false, i_mkT0, i_mkL1, i_mkT1, i_mul9, mkL, mkT, LIM_eq, List.length_cons, List.length_nil, Nat.reduceAdd, Nat.reduceLeDiff, w3, eB, w4, eN, w5, eT]
  rw [wTA]
  simp only [x_pass, x_seq, x_set, x_ex, x_ret, x_ife, x_fr, x_wh, x_brk, x_rz, e_k, e_v, e_o, e_nil, e_cons, e_tup, e_lst, e_dct, e_op, e_neg, e_not, e_cm, e_ch, e_and, e_or, e_ife, e_ix, e_sl, e_rev, e_b1, e_b2, e_b3, e_call, e_pick, e_isx, e_it, e_rg1, e_rg2, e_enum, e_zip, e_zips, e_items, e_lc, e_lc2, e_dc, e_dc2, g_0, g_s, s_0, s_s, sl_sh, so_l, so_d, k_ok, k_rz, out_ok, out_rz, endR_nx, endR_rt, endR_rz, then_nx, then_rt, then_rz, then_bk, b_bl, l_lst, t_one, t_two, w_one, w_two, two_tup, Bool.false_eq_true, ↓reduceIte, wT_f, i_len_str, i_len_lst, i_len_tup, i_eqI, i_neI, i_ltI, i_leI, i_gtI, i_geI, i_isN, i_nisN, i_isB, i_nisB, i_inS, i_ninS, i_itS, i_itT, i_itL, isND_non, isND_str, isND_tup, isND_lst, isND_int, isND_bl, calm_ok, all_map, any_map, op_add, op_sub, n_ok, Bool.not_true, Bool.not_false, decide_true, decide_false, mkL, mkT, LIM_eq, List.length_cons, List.length_nil, Nat.reduceAdd, Nat.reduceLeDiff, i_addL, List.cons_append, List.nil_append, abc]
  rw [wTB]
  simp only [x_pass, x_seq, x_set, x_ex, x_ret, x_ife, x_fr, x_wh, x_brk, x_rz, e_k, e_v, e_o, e_nil, e_cons, e_tup, e_lst, e_dct, e_op, e_neg, e_not, e_cm, e_ch, e_and, e_or, e_ife, e_ix, e_sl, e_rev, e_b1, e_b2, e_b3, e_call, e_pick, e_isx, e_it, e_rg1, e_rg2, e_enum, e_zip, e_zips, e_items, e_lc, e_lc2, e_dc, e_dc2, g_0, g_s, s_0, s_s, sl_sh, so_l, so_d, k_ok, k_rz, out_ok, out_rz, endR_nx, endR_rt, endR_rz, then_nx, then_rt, then_rz, then_bk, b_bl, l_lst, t_one, t_two, w_one, w_two, two_tup, Bool.false_eq_true, ↓reduceIte, wT_f, i_len_str, i_len_lst, i_len_tup, i_eqI, i_neI, i_ltI, i_leI, i_gtI, i_geI, i_isN, i_nisN, i_isB, i_nisB, i_inS, i_ninS, i_itS, i_itT, i_itL, isND_non, isND_str, isND_tup, isND_lst, isND_int, isND_bl, calm_ok, all_map, any_map, op_add, op_sub, n_ok, Bool.not_true, Bool.not_false, decide_true, decide_false, i_addL, List.cons_append, List.nil_append, mkL, LIM_eq, List.length_cons, List.length_nil, Nat.reduceAdd, Nat.reduceLeDiff, wE3, wE5, wE4]
  have mul4 : opR .mul (.lst [.int 0]) (.int 4) = .ok (.lst [.int 0, .int 0, .int 0, .int 0]) := rfl
  simp only [mul4, x_pass, x_seq, x_set, x_ex, x_ret, x_ife, x_fr, x_wh, x_brk, x_rz, e_k, e_v, e_o, e_nil, e_cons, e_tup, e_lst, e_dct, e_op, e_neg, e_not, e_cm, e_ch, e_and, e_or, e_ife, e_ix, e_sl, e_rev, e_b1, e_b2, e_b3, e_call, e_pick, e_isx, e_it, e_rg1, e_rg2, e_enum, e_zip, e_zips, e_items, e_lc, e_lc2, e_dc, e_dc2, g_0, g_s, s_0, s_s, sl_sh, so_l, so_d, k_ok, k_rz, out_ok, out_rz, endR_nx, endR_rt, endR_rz, then_nx, then_rt, then_rz, then_bk, b_bl, l_lst, t_one, t_two, w_one, w_two, two_tup, Bool.false_eq_true, ↓reduceIte, wT_f, i_len_str, i_len_lst, i_len_tup, i_eqI, i_neI, i_ltI, i_leI, i_gtI, i_geI, i_isN, i_nisN, i_isB, i_nisB, i_inS, i_ninS, i_itS, i_itT, i_itL, isND_non, isND_str, isND_tup, isND_lst, isND_int, isND_bl, calm_ok, all_map, any_map, op_add, op_sub, n_ok, Bool.not_true, Bool.not_false, decide_true, decide_false, i_addL, List.cons_append, List.nil_append, mkL, LIM_eq, List.length_cons, List.length_nil, Nat.reduceAdd, Nat.reduceLeDiff]
  rw [i_eq_refl (by decide +kernel)]
  simp only [x_pass, x_seq, x_set, x_ex, x_ret, x_ife, x_fr, x_wh, x_brk, x_rz, e_k, e_v, e_o, e_nil, e_cons, e_tup, e_lst, e_dct, e_op, e_neg, e_not, e_cm, e_ch, e_and, e_or, e_ife, e_ix, e_sl, e_rev, e_b1, e_b2, e_b3, e_call, e_pick, e_isx, e_it, e_rg1, e_rg2, e_enum, e_zip, e_zips, e_items, e_lc, e_lc2, e_dc, e_dc2, g_0, g_s, s_0, s_s, sl_sh, so_l, so_d, k_ok, k_rz, out_ok, out_rz, endR_nx, endR_rt, endR_rz, then_nx, then_rt, then_rz, then_bk, b_bl, l_lst, t_one, t_two, w_one, w_two, two_tup, Bool.false_eq_true, ↓reduceIte, wT_f, i_len_str, i_len_lst, i_len_tup, i_eqI, i_neI, i_ltI, i_leI, i_gtI, i_geI, i_isN, i_nisN, i_isB, i_nisB, i_inS, i_ninS, i_itS, i_itT, i_itL, isND_non, isND_str, isND_tup, isND_lst, isND_int, isND_bl, calm_ok, all_map, any_map, op_add, op_sub, n_ok, Bool.not_true, Bool.not_false, decide_true, decide_false, wI2]
  rfl
end Mip

set_option Elab.async false
set_option linter.all false
set_option maxRecDepth 100000
set_option maxHeartbeats 0
/-! the head of the law, printed by head.py -/
namespace Mi.k01
open PySem L2 PySem.Spec PyProof.Rows
def top (i : Nat) : Stmt := PySem.Challenge.pw_menuletters_k01_menus.main.body.getD i (.Pass ⟨0, 0, 0, 0⟩)
def n0 : Dfn := ⟨0, "is_letter", top 10, ["value"], ["value"]⟩
def n1 : Dfn := ⟨1, "is_name", top 11, ["value", "sign"], ["value"]⟩
def n2 : Dfn := ⟨2, "is_menu", top 12, ["candidate", "name"], ["candidate"]⟩
def n3 : Dfn := ⟨3, "fits", top 13, ["name", "letter"], ["name", "letter"]⟩
def n4 : Dfn := ⟨4, "has_assignment", top 14, ["menu", "candidate", "used", "letter", "name"], ["menu", "candidate"]⟩
def n5 : Dfn := ⟨5, "check_menu", top 15, ["value"], ["value"]⟩
def n6 : Dfn := ⟨6, "check_name", top 16, ["value"], ["value"]⟩
def n7 : Dfn := ⟨7, "check_assignment", top 17, ["menu", "value"], ["menu", "value"]⟩
def n8 : Dfn := ⟨8, "is_assignment", top 18, ["menu", "candidate"], ["menu", "candidate"]⟩
def n9 : Dfn := ⟨9, "letters_of", top 19, ["name"], ["name"]⟩
def n10 : Dfn := ⟨10, "letters", top 20, ["name"], ["name"]⟩
def n11 : Dfn := ⟨11, "place", top 21, ["name", "letter"], ["name", "letter"]⟩
def n12 : Dfn := ⟨12, "cost_of", top 22, ["menu", "assignment", "name", "letter"], ["menu", "assignment"]⟩
def n13 : Dfn := ⟨13, "size", top 23, ["menu", "assignment", "letter"], ["menu", "assignment"]⟩
def n14 : Dfn := ⟨14, "cost", top 24, ["menu", "assignment"], ["menu", "assignment"]⟩
def n15 : Dfn := ⟨15, "greedy", top 25, ["menu", "found", "name", "left", "letter"], ["menu"]⟩
def n16 : Dfn := ⟨16, "_law_drawn", top 27, ["_law_script", "_law_k", "_law_many", "_law_cell", "_law_turn", "_law_rest"], ["_law_script", "_law_k", "_law_many"]⟩
def n17 : Dfn := ⟨17, "_law_menu", top 28, ["_law_script", "_law_at", "_law_most", "_law_kinds", "_law_found", "_law_k", "_law_name", "_law_n"], ["_law_script", "_law_at", "_law_most", "_law_kinds"]⟩
def n18 : Dfn := ⟨18, "_law_cost", top 29, ["_law_menu_here", "_law_assignment", "_law_found", "_law_name", "_law_letter"], ["_law_menu_here", "_law_assignment"]⟩
def n19 : Dfn := ⟨19, "_law_partial", top 30, ["_law_menu_here", "_law_found", "_law_name", "_law_longer", "_law_some", "_law_letter"], ["_law_menu_here"]⟩
def n20 : Dfn := ⟨20, "_law_badmenu", top 31, ["_law_script", "_law_at", "_law_bad"], ["_law_script", "_law_at"]⟩
def n21 : Dfn := ⟨21, "_law_error", top 32, ["_law_way", "_law_one", "_law_two", "e", "_law_flags"], ["_law_way", "_law_one", "_law_two"]⟩
def n22 : Dfn := ⟨22, "law", top 33, ["_law_script", "_law_menu_here", "_law_rows", "_law_row", "_law_drawn_here", "_law_found", "_law_name", "_law_odd", "_law_bad", "_law_letter", "_law_told", "_law_left", "_law_way", "_law_k"], ["_law_script"]⟩
def nm : Nms := { defs := [n0, n1, n2, n3, n4, n5, n6, n7, n8, n9, n10, n11, n12, n13, n14, n15, n16, n17, n18, n19, n20, n21, n22], clss := [(0, "MenuError"), (1, "InvalidMenu"), (2, "InvalidAssignment"), (3, "InvalidName"), (4, "InvalidLetter")], cons := [("LETTERS", .str [97, 98, 99, 100, 101, 102, 103, 104, 105, 106, 107, 108, 109, 110, 111, 112, 113, 114, 115, 116, 117, 118, 119, 120, 121, 122]), ("MAX_ENTRIES", .int 8), ("MAX_NAME", .int 8)], bts := ["len", "list", "tuple", "sum", "min", "max", "all", "any", "sorted", "set", "isinstance", "int", "bool", "str", "range", "zip", "enumerate", "dict"] }
theorem ok0 : DfnOk Mip.TT nm n0 := dfnOk (fd := Mip.fd0) rfl ⟨rfl, rfl, rfl, by decide +kernel, rfl, by decide +kernel, by decide +kernel⟩ (by decide) rfl rfl rfl (by decide +kernel) fun _ _ _ _ _ _ us hl => match us, hl with | [_], _ => rfl
theorem ok1 : DfnOk Mip.TT nm n1 := dfnOk (fd := Mip.fd1) rfl ⟨rfl, rfl, rfl, by decide +kernel, rfl, by decide +kernel, by decide +kernel⟩ (by decide) rfl rfl rfl (by decide +kernel) fun _ _ _ _ _ _ us hl => match us, hl with | [_], _ => rfl
theorem ok2 : DfnOk Mip.TT nm n2 := dfnOk (fd := Mip.fd2) rfl ⟨rfl, rfl, rfl, by decide +kernel, rfl, by decide +kernel, by decide +kernel⟩ (by decide) rfl rfl rfl (by decide +kernel) fun _ _ _ _ _ _ us hl => match us, hl with | [_], _ => rfl
theorem ok3 : DfnOk Mip.TT nm n3 := dfnOk (fd := Mip.fd3) rfl ⟨rfl, rfl, rfl, by decide +kernel, rfl, by decide +kernel, by decide +kernel⟩ (by decide) rfl rfl rfl (by decide +kernel) fun _ _ _ _ _ _ us hl => match us, hl with | [_, _], _ => rfl
theorem ok4 : DfnOk Mip.TT nm n4 := dfnOk (fd := Mip.fd4) rfl ⟨rfl, rfl, rfl, by decide +kernel, rfl, by decide +kernel, by decide +kernel⟩ (by decide) rfl rfl rfl (by decide +kernel) fun _ _ _ _ _ _ us hl => match us, hl with | [_, _], _ => rfl
theorem ok5 : DfnOk Mip.TT nm n5 := dfnOk (fd := Mip.fd5) rfl ⟨rfl, rfl, rfl, by decide +kernel, rfl, by decide +kernel, by decide +kernel⟩ (by decide) rfl rfl rfl (by decide +kernel) fun _ _ _ _ _ _ us hl => match us, hl with | [_], _ => rfl
theorem ok6 : DfnOk Mip.TT nm n6 := dfnOk (fd := Mip.fd6) rfl ⟨rfl, rfl, rfl, by decide +kernel, rfl, by decide +kernel, by decide +kernel⟩ (by decide) rfl rfl rfl (by decide +kernel) fun _ _ _ _ _ _ us hl => match us, hl with | [_], _ => rfl
theorem ok7 : DfnOk Mip.TT nm n7 := dfnOk (fd := Mip.fd7) rfl ⟨rfl, rfl, rfl, by decide +kernel, rfl, by decide +kernel, by decide +kernel⟩ (by decide) rfl rfl rfl (by decide +kernel) fun _ _ _ _ _ _ us hl => match us, hl with | [_, _], _ => rfl
theorem ok8 : DfnOk Mip.TT nm n8 := dfnOk (fd := Mip.fd8) rfl ⟨rfl, rfl, rfl, by decide +kernel, rfl, by decide +kernel, by decide +kernel⟩ (by decide) rfl rfl rfl (by decide +kernel) fun _ _ _ _ _ _ us hl => match us, hl with | [_, _], _ => rfl
theorem ok9 : DfnOk Mip.TT nm n9 := dfnOk (fd := Mip.fd9) rfl ⟨rfl, rfl, rfl, by decide +kernel, rfl, by decide +kernel, by decide +kernel⟩ (by decide) rfl rfl rfl (by decide +kernel) fun _ _ _ _ _ _ us hl => match us, hl with | [_], _ => rfl
theorem ok10 : DfnOk Mip.TT nm n10 := dfnOk (fd := Mip.fd10) rfl ⟨rfl, rfl, rfl, by decide +kernel, rfl, by decide +kernel, by decide +kernel⟩ (by decide) rfl rfl rfl (by decide +kernel) fun _ _ _ _ _ _ us hl => match us, hl with | [_], _ => rfl
theorem ok11 : DfnOk Mip.TT nm n11 := dfnOk (fd := Mip.fd11) rfl ⟨rfl, rfl, rfl, by decide +kernel, rfl, by decide +kernel, by decide +kernel⟩ (by decide) rfl rfl rfl (by decide +kernel) fun _ _ _ _ _ _ us hl => match us, hl with | [_, _], _ => rfl
theorem ok12 : DfnOk Mip.TT nm n12 := dfnOk (fd := Mip.fd12) rfl ⟨rfl, rfl, rfl, by decide +kernel, rfl, by decide +kernel, by decide +kernel⟩ (by decide) rfl rfl rfl (by decide +kernel) fun _ _ _ _ _ _ us hl => match us, hl with | [_, _], _ => rfl
theorem ok13 : DfnOk Mip.TT nm n13 := dfnOk (fd := Mip.fd13) rfl ⟨rfl, rfl, rfl, by decide +kernel, rfl, by decide +kernel, by decide +kernel⟩ (by decide) rfl rfl rfl (by decide +kernel) fun _ _ _ _ _ _ us hl => match us, hl with | [_, _], _ => rfl
theorem ok14 : DfnOk Mip.TT nm n14 := dfnOk (fd := Mip.fd14) rfl ⟨rfl, rfl, rfl, by decide +kernel, rfl, by decide +kernel, by decide +kernel⟩ (by decide) rfl rfl rfl (by decide +kernel) fun _ _ _ _ _ _ us hl => match us, hl with | [_, _], _ => rfl
theorem ok15 : DfnOk Mip.TT nm n15 := dfnOk (fd := Mip.fd15) rfl ⟨rfl, rfl, rfl, by decide +kernel, rfl, by decide +kernel, by decide +kernel⟩ (by decide) rfl rfl rfl (by decide +kernel) fun _ _ _ _ _ _ us hl => match us, hl with | [_], _ => rfl
theorem ok16 : DfnOk Mip.TT nm n16 := dfnOk (fd := Mip.fd16) rfl ⟨rfl, rfl, rfl, by decide +kernel, rfl, by decide +kernel, by decide +kernel⟩ (by decide) rfl rfl rfl (by decide +kernel) fun _ _ _ _ _ _ us hl => match us, hl with | [_, _, _], _ => rfl
theorem ok17 : DfnOk Mip.TT nm n17 := dfnOk (fd := Mip.fd17) rfl ⟨rfl, rfl, rfl, by decide +kernel, rfl, by decide +kernel, by decide +kernel⟩ (by decide) rfl rfl rfl (by decide +kernel) fun _ _ _ _ _ _ us hl => match us, hl with | [_, _, _, _], _ => rfl
theorem ok18 : DfnOk Mip.TT nm n18 := dfnOk (fd := Mip.fd18) rfl ⟨rfl, rfl, rfl, by decide +kernel, rfl, by decide +kernel, by decide +kernel⟩ (by decide) rfl rfl rfl (by decide +kernel) fun _ _ _ _ _ _ us hl => match us, hl with | [_, _], _ => rfl
theorem ok19 : DfnOk Mip.TT nm n19 := dfnOk (fd := Mip.fd19) rfl ⟨rfl, rfl, rfl, by decide +kernel, rfl, by decide +kernel, by decide +kernel⟩ (by decide) rfl rfl rfl (by decide +kernel) fun _ _ _ _ _ _ us hl => match us, hl with | [_], _ => rfl
theorem ok20 : DfnOk Mip.TT nm n20 := dfnOk (fd := Mip.fd20) rfl ⟨rfl, rfl, rfl, by decide +kernel, rfl, by decide +kernel, by decide +kernel⟩ (by decide) rfl rfl rfl (by decide +kernel) fun _ _ _ _ _ _ us hl => match us, hl with | [_, _], _ => rfl
theorem ok21 : DfnOk Mip.TT nm n21 := dfnOk (fd := Mip.fd21) rfl ⟨rfl, rfl, rfl, by decide +kernel, rfl, by decide +kernel, by decide +kernel⟩ (by decide) rfl rfl rfl (by decide +kernel) fun _ _ _ _ _ _ us hl => match us, hl with | [_, _, _], _ => rfl
theorem ok22 : DfnOk Mip.TT nm n22 := dfnOk (fd := Mip.fd22) rfl ⟨rfl, rfl, rfl, by decide +kernel, rfl, by decide +kernel, by decide +kernel⟩ (by decide) rfl rfl rfl (by decide +kernel) fun _ _ _ _ _ _ us hl => match us, hl with | [_], _ => rfl
theorem oks : ∀ d ∈ nm.defs, DfnOk Mip.TT nm d := fun d hd => by
  simp only [nm, List.mem_cons, List.not_mem_nil, or_false] at hd
  rcases hd with rfl | rfl | rfl | rfl | rfl | rfl | rfl | rfl | rfl | rfl | rfl | rfl | rfl | rfl | rfl | rfl | rfl | rfl | rfl | rfl | rfl | rfl | rfl
  · exact ok0
  · exact ok1
  · exact ok2
  · exact ok3
  · exact ok4
  · exact ok5
  · exact ok6
  · exact ok7
  · exact ok8
  · exact ok9
  · exact ok10
  · exact ok11
  · exact ok12
  · exact ok13
  · exact ok14
  · exact ok15
  · exact ok16
  · exact ok17
  · exact ok18
  · exact ok19
  · exact ok20
  · exact ok21
  · exact ok22
def names0 : List PySem.Str := ["MenuError", "InvalidMenu", "InvalidAssignment", "InvalidName", "InvalidLetter", "LETTERS", "MAX_ENTRIES", "MAX_NAME", "_law_badmenu", "_law_cost", "_law_drawn", "_law_error", "_law_menu", "_law_partial", "check_assignment", "check_menu", "check_name", "cost", "cost_of", "fits", "greedy", "has_assignment", "is_assignment", "is_letter", "is_menu", "is_name", "letters", "letters_of", "place", "size"]
def names : List PySem.Str := names0
abbrev R : PySem.W.OpenRow := PySem.W.OpenLaw.row PySem.Challenge.rw_menuletters_k01_menus
abbrev hk : PySem.W.Hook := hookM 4 nm
def ob (s : PySem.W.SharedT) : AlM := obsM 4 nm (HandSHeadRun.getT s)
theorem ob_eq (s : PySem.W.SharedT) : ob s = hk.obs s.abs := obsM_eq (HandSHeadRun.getT_eq s)
theorem run (w : World) : HandSHeadRun.RunEq R (PySem.W.view R.prog [33]) hk ob 4000 names w := by
  intro os
  kernel_rfl
end Mi.k01
open PySem PySem.W PySem.Calls PyProof.Rows
theorem Mi.k01.holds (k : Nat) (hk : k < 200) (plain : ∀ ns : List Int, ns.length ≤ 63 → Mi.run Mip.TT k 22 [.scr ns] = .ok (.bl true)) : PySem.Challenge.rw_menuletters_k01_menus.Holds := by
  w_on; o_law
  refine HandSHeadRun.head_any (r := OpenLaw.row PySem.Challenge.rw_menuletters_k01_menus)
    (q := view (OpenLaw.row PySem.Challenge.rw_menuletters_k01_menus).prog [33])
    (H := Mi.k01.hk) (ob := Mi.k01.ob) (M := 4000) (loose := Mi.k01.names)
    (d := HandSHeadRun.topDef (OpenLaw.row PySem.Challenge.rw_menuletters_k01_menus).prog 33) (kwd := [])
    Mi.k01.ob_eq (by kernel_rfl) (fun s => by kernel_rfl) Mi.k01.run (by kernel_rfl) (by kernel_rfl) (by kernel_rfl) (by rfl)
    (by first | assumption | decide +kernel) (by decide +kernel) ⟨rfl, rfl, rfl, rfl, rfl, by decide +kernel⟩ ?hw ?hc
  case hw => w_witness2
  case hc =>
    refine Mi.walk_law (l := PySem.Challenge.rw_menuletters_k01_menus) (n := 63) (k := k) (x := "_law_script") rfl (by decide) (by kernel_rfl) ⟨rfl, by show 301 + 3 * k + 5 < 1000; omega, by show 4 + 16 * k + 200 < 9900; omega⟩ ?F
    intro w mg fa h Y G hmg0
    obtain ⟨K, KX, c, q⟩ := Y
    obtain ⟨fd, F, gl, hF⟩ := Mi.Nms.law (P := (PySem.Challenge.rw_menuletters_k01_menus).prog) (w := w) KX G c q (by decide +kernel) (by decide +kernel) (by decide +kernel) Mi.k01.oks (dl := Mi.k01.n22) (by unfold Mi.k01.nm; simp) k
    have hmg : mg ("law" : PySem.Str) = some (.ref fa) := by
      have e : (HandSHeadRun.topDef (OpenLaw.row PySem.Challenge.rw_menuletters_k01_menus).prog 33).name = ("law" : PySem.Str) := by kernel_rfl
      rw [← e]
      exact hmg0
    have ea := hmg.symm.trans gl
    injection ea with ea
    injection ea with ea
    rw [← ea] at hF F
    have b := L2.FunD.bindsA (ps := ["_law_script"]) F fun _ _ _ _ _ _ us hl => match us, hl with | [_], _ => rfl
    exact ⟨K, fd, _, _, KX, fun s v => b s [v] rfl, plain, hF⟩

set_option maxRecDepth 100000 in
set_option maxHeartbeats 8000000 in
theorem PySem.Challenge.cw_menuletters_k01_menus_holds : PySem.Challenge.rw_menuletters_k01_menus.Holds := by
  exact Mi.k01.holds 7 (by decide) fun ns h => Mip.law_k01 0 ns h
