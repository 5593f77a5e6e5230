import PyProof.Rows.All
import Wide.All
import OpenK.AllK
import Wide.FinOn
import HandS.ForMost
import HandS.Wide
import HandS.WideBits
import HandS.TupAny
import HandS.TupMul
import HandS.Style
import HandS.Deep
import PyProof.ListMulRoad
import PyProof.FactsAll.tuple_2
import HandS.Flow
import HandS.NoneIn
import HandS.TupLen
import HandS.WordsDict
import HandS.IsInst
import HandS.RaiseMore
import KE.DataMinMax
import KE.DataAny
import KE.KTupSum
import KE.SortData
import PyProof.ReprBulk
import PyProof.Rows.TupReads
import HandS.Codes
import HandS.Zip
import HandS.Iter
import KE.KTurns
import HandS.Comp
import HandS.Conv
import HandS.More
import HandS.SetFor
import HandS.TupSets
import KE.GoesMore
import KE.GoesEnum
import KE.KIndexWalk
import KE.KItemsList
import HandS.DictComp
import HandS.EndBits
import HandS.HeadHook2
import HandS.HeadEnd
import HandS.Exc
import HandS.ExcInit
import KE.KExcSuper
import KE.KSuper
import HandS.ExcBuiltin
import HandS.ExcIs
import HandS.HeadHook4
import KE.KStateDown
import HandS.Head0
import HandS.Head1
import HandS.Head2
import HandS.Ends
import HandS.Words
import HandS.WordsExc
import HandS.Defaults
import HandS.HeadHook1
import PySem.Challenge.RW_nearlists_k93_whole_focus_and_reflected
set_option Elab.async false
/-! NSem: a small evaluator for the part of Python that the program and the laws are written in. Values are trees, lists and dicts stand in a store. Pure Lean. -/
set_option autoImplicit false
namespace N

/-- a value: scalars, tuples; ref n: the object n of the store; lst: a list told as a tree (never a live value); rep d: the text that repr gives of the tree d -/
inductive D where
  | non | bl (b : Bool) | int (i : Int) | str (s : List Nat) | tup (xs : List D) | lst (xs : List D) | ref (n : Nat) | rep (d : D)

mutual
def D.eqv : D → D → Bool
  | .non, .non => true
  | .bl a, .bl b => a == b
  | .int a, .int b => decide (a = b)
  | .str a, .str b => decide (a = b)
  | .tup a, .tup b => D.eqvs a b
  | .lst a, .lst b => D.eqvs a b
  | .ref a, .ref b => a == b
  | .rep a, .rep b => D.eqv a b
  | _, _ => false
def D.eqvs : List D → List D → Bool
  | [], [] => true
  | a :: as, b :: bs => D.eqv a b && D.eqvs as bs
  | _, _ => false
end
mutual
theorem D.eqv_iff : ∀ a b : D, D.eqv a b = true ↔ a = b
  | .non, b => by cases b <;> simp [D.eqv]
  | .bl a, b => by cases b <;> simp [D.eqv]
  | .int a, b => by cases b <;> simp [D.eqv]
  | .str a, b => by cases b <;> simp [D.eqv]
  | .ref a, b => by cases b <;> simp [D.eqv]
  | .tup a, b => by cases b <;> simp [D.eqv, D.eqvs_iff]
  | .lst a, b => by cases b <;> simp [D.eqv, D.eqvs_iff]
  | .rep a, b => by cases b <;> simp [D.eqv, D.eqv_iff]
theorem D.eqvs_iff : ∀ a b : List D, D.eqvs a b = true ↔ a = b
  | [], b => by cases b <;> simp [D.eqvs]
  | x :: xs, b => by cases b <;> simp [D.eqvs, D.eqv_iff, D.eqvs_iff]
end
instance : DecidableEq D := fun a b => decidable_of_iff _ (D.eqv_iff a b)

/-- what stands in the store. scr: the law's script, read only; ftp: a tuple that is known as an object, too -/
inductive O where
  | lst (xs : List D) | dct (kvs : List (D × D)) | set (xs : List D) | scr (ns : List Int) | ftp (xs : List D) | dead
  deriving DecidableEq

abbrev Sto := List O
abbrev Env := List (Option D)
abbrev Fn := List D → Sto → Option (D × Sto)

/-! ### references -/
mutual
/-- every reference in it is below n -/
def D.lo (n : Nat) : D → Bool
  | .ref m => decide (m < n)
  | .tup xs => D.los n xs
  | .lst xs => D.los n xs
  | _ => true
def D.los (n : Nat) : List D → Bool
  | [] => true
  | x :: xs => D.lo n x && D.los n xs
end
mutual
def D.shift (k : Nat) : D → D
  | .ref m => .ref (m + k)
  | .tup xs => .tup (D.shifts k xs)
  | .lst xs => .lst (D.shifts k xs)
  | d => d
def D.shifts (k : Nat) : List D → List D
  | [] => []
  | x :: xs => D.shift k x :: D.shifts k xs
end
def O.lo (n : Nat) : O → Bool
  | .lst xs => D.los n xs
  | .dct kvs => kvs.all fun p => D.lo n p.1 && D.lo n p.2
  | .set xs => D.los n xs
  | .ftp xs => D.los n xs
  | _ => true
def O.shift (k : Nat) : O → O
  | .lst xs => .lst (D.shifts k xs)
  | .dct kvs => .dct (kvs.map fun p => (D.shift k p.1, D.shift k p.2))
  | .set xs => .set (D.shifts k xs)
  | .ftp xs => .ftp (D.shifts k xs)
  | o => o

/-! ### trees of values -/
def mapO {α β : Type} (f : α → Option β) : List α → Option (List β)
  | [] => some []
  | x :: xs => match f x with
    | none => none
    | some y => match mapO f xs with
      | none => none
      | some ys => some (y :: ys)
/-- the tree of a value; n bounds the depth -/
def rd : Nat → Sto → D → Option D
  | _, _, .non => some .non
  | _, _, .bl b => some (.bl b)
  | _, _, .int i => some (.int i)
  | _, _, .str s => some (.str s)
  | n + 1, S, .tup xs => (mapO (rd n S) xs).map .tup
  | n + 1, S, .ref a => match S[a]? with
    | some (.lst xs) => (mapO (rd n S) xs).map .lst
    | some (.ftp xs) => (mapO (rd n S) xs).map .tup
    | _ => none
  | _, _, _ => none
/-- the depth to which trees are read -/
abbrev RD : Nat := 60
mutual
/-- == of trees as Python has it (True is 1) -/
def D.pyeq : D → D → Bool
  | .non, .non => true
  | .bl a, .bl b => a == b
  | .bl a, .int j => decide ((if a then 1 else 0) = j)
  | .int i, .bl b => decide (i = (if b then 1 else 0))
  | .int a, .int b => decide (a = b)
  | .str a, .str b => decide (a = b)
  | .tup a, .tup b => D.pyeqs a b
  | .lst a, .lst b => D.pyeqs a b
  | _, _ => false
def D.pyeqs : List D → List D → Bool
  | [], [] => true
  | a :: as, b :: bs => D.pyeq a b && D.pyeqs as bs
  | _, _ => false
end
/-- signs that a tree's texts may have -/
def okStr (s : List Nat) : Bool := s.all fun c => decide (c < 55296)
mutual
def D.okS : D → Bool
  | .str s => okStr s
  | .tup xs => D.okSs xs
  | .lst xs => D.okSs xs
  | _ => true
def D.okSs : List D → Bool
  | [] => true
  | x :: xs => D.okS x && D.okSs xs
end
mutual
/-- the size of a tree's text -/
def D.bulk : D → Nat
  | .str s => s.length
  | .tup xs => D.bulks xs
  | .lst xs => D.bulks xs
  | _ => 0
def D.bulks : List D → Nat
  | [] => 0
  | x :: xs => D.bulk x + 1 + D.bulks xs
end
mutual
/-- the ints are short -/
def D.shw : D → Bool
  | .int i => decide (i.natAbs.log2 < 320)
  | .tup xs => D.shws xs
  | .lst xs => D.shws xs
  | _ => true
def D.shws : List D → Bool
  | [] => true
  | x :: xs => D.shw x && D.shws xs
end
/-- a == b -/
def eqV (S : Sto) : D → D → Option Bool
  | .int i, .int j => some (decide (i = j))
  | .str x, .str y => some (decide (x = y))
  | .bl x, .bl y => some (decide (x = y))
  | .non, .non => some true
  | .rep x, .rep y => if D.eqv x y then some true else none
  | a, b => match rd RD S a, rd RD S b with
    | some x, some y => if D.okS x && D.okS y then some (D.pyeq x y) else none
    | _, _ => none

/-! ### operators -/
inductive Op2 | add | sub | mul | fdiv | mod | pow | shl | shr | band | bor | bxor
  deriving DecidableEq
inductive Cmp | eq | ne | lt | le | gt | ge | is | isnt | inn | nin
  deriving DecidableEq
abbrev line : Nat := 16777216
def new (S : Sto) (o : O) : Option (D × Sto) := some (.ref S.length, S ++ [o])
def mulOk (i j : Int) : Bool := decide (i.natAbs < 18446744073709551616) || (decide (j.natAbs < 18446744073709551616) || decide (i.natAbs.log2 + j.natAbs.log2 < 1000000))
def powOk (i j : Int) : Bool := decide (0 ≤ j) && (decide (j ≤ 1000000) && decide (i.natAbs < 18446744073709551616))
def divOk (j : Int) : Bool := decide (0 < j) && decide (j.natAbs.log2 < 9000)
def repL (k : Int) (xs : List D) : List D := (List.replicate k.toNat xs).flatten
def binI (S : Sto) : Op2 → D → D → Option (D × Sto)
  | .add, .int i, .int j => some (.int (i + j), S)
  | .add, .tup xs, .tup ys => if xs.length + ys.length ≤ line then some (.tup (xs ++ ys), S) else none
  | .add, .ref m, .ref n => match S[m]?, S[n]? with
    | some (.lst xs), some (.lst ys) => if xs.length + ys.length ≤ line then new S (.lst (xs ++ ys)) else none
    | _, _ => none
  | .add, .str x, .str y => if x.length + y.length ≤ line then some (.str (x ++ y), S) else none
  | .sub, .int i, .int j => some (.int (i - j), S)
  | .mul, .int i, .int j => if mulOk i j then some (.int (i * j), S) else none
  | .mul, .tup xs, .int k => if decide (xs.length ≤ 1000) && (decide (-1000000 ≤ k) && decide (k ≤ 1000)) then some (.tup (repL k xs), S) else none
  | .mul, .ref m, .int k => match S[m]? with
    | some (.lst xs) => if decide (k ≤ 1000000) && (decide (-1000000 ≤ k) && decide (xs.length * k.toNat ≤ line)) then new S (.lst (repL k xs)) else none
    | _ => none
  | .fdiv, .int i, .int j => if divOk j then some (.int (i / j), S) else none
  | .mod, .int i, .int j => if decide (0 < j) then some (.int (i % j), S) else none
  | .pow, .int i, .int j => if powOk i j then some (.int (i ^ j.toNat), S) else none
  | .shl, .int i, .int j => if powOk i j then some (.int (i * 2 ^ j.toNat), S) else none
  | .shr, .int i, .int j => if decide (0 ≤ j) then some (.int (i / 2 ^ j.toNat), S) else none
  | .band, .int i, .int j => if decide (0 ≤ i) && decide (0 ≤ j) then some (.int (i.toNat &&& j.toNat : Nat), S) else none
  | .bor, .int i, .int j => if decide (0 ≤ i) && decide (0 ≤ j) then some (.int (i.toNat ||| j.toNat : Nat), S) else none
  | .bxor, .int i, .int j => if decide (0 ≤ i) && decide (0 ≤ j) then some (.int (i.toNat ^^^ j.toNat : Nat), S) else none
  | _, _, _ => none

/-- truth -/
def tru (S : Sto) : D → Option Bool
  | .non => some false
  | .bl b => some b
  | .int i => some (decide (i ≠ 0))
  | .tup xs => some (!xs.isEmpty)
  | .ref n => match S[n]? with
    | some (.lst xs) => some (!xs.isEmpty)
    | _ => none
  | _ => none

/-- a dict's value -/
def dget (kvs : List (D × D)) (k : D) : Option D := (kvs.find? fun p => D.eqv p.1 k).map (·.2)
def dput (kvs : List (D × D)) (k v : D) : List (D × D) :=
  if kvs.any fun p => D.eqv p.1 k then kvs.map fun p => if D.eqv p.1 k then (p.1, v) else p else kvs ++ [(k, v)]
def pairsD : List D → Option (List (D × D))
  | [] => some []
  | [_] => none
  | x :: y :: r => (pairsD r).map ((x, y) :: ·)
def dputs (kvs ps : List (D × D)) : List (D × D) := ps.foldl (fun acc p => dput acc p.1 p.2) kvs
/-- a key of a dict: an int, a text; tuples of these -/
def keyK : D → Bool
  | .int _ => true
  | .str _ => true
  | _ => false
def keyT : D → Bool
  | .tup xs => xs.all keyK
  | _ => false
/-- the keys of a dict are all of one of both kinds, and so is k -/
def keysOk (kvs : List (D × D)) (k : D) : Bool := match kvs with
  | [] => keyK k || keyT k
  | p :: _ => (keyK p.1 && keyK k) || (keyT p.1 && keyT k)

def anyEq (S : Sto) (x : D) : List D → Option Bool
  | [] => some false
  | y :: ys => match eqV S y x with
    | none => none
    | some true => some true
    | some false => anyEq S x ys
/-- all trees of the items, and of x: x in items -/
def inI (S : Sto) (x c : D) : Option Bool := match c with
  | .tup _ => match rd RD S c, rd RD S x with
    | some (.tup ts), some t => if D.okSs ts && D.okS t then some (ts.any fun y => D.pyeq y t) else none
    | _, _ => none
  | .ref n => match S[n]? with
    | some (.lst _) => match rd RD S c, rd RD S x with
      | some (.lst ts), some t => if D.okSs ts && D.okS t then some (ts.any fun y => D.pyeq y t) else none
      | _, _ => none
    | some (.dct kvs) => if keysOk kvs x then some (dget kvs x).isSome else none
    | _ => none
  | _ => none
def cmpI (S : Sto) : Cmp → D → D → Option Bool
  | .eq, a, b => eqV S a b
  | .ne, a, b => (eqV S a b).map (!·)
  | .lt, .int i, .int j => some (decide (i < j))
  | .le, .int i, .int j => some (decide (i ≤ j))
  | .gt, .int i, .int j => some (decide (j < i))
  | .ge, .int i, .int j => some (decide (j ≤ i))
  | .is, a, .non => some (decide (a = .non))
  | .isnt, a, .non => some (!decide (a = .non))
  | .is, .bl a, .bl b => some (decide (a = b))
  | .isnt, .bl a, .bl b => some (!decide (a = b))
  | .inn, a, b => inI S a b
  | .nin, a, b => (inI S a b).map (!·)
  | _, _, _ => none

/-! ### subscripts, slices -/
def ixN (n : Nat) (i : Int) : Option Nat := if 0 ≤ i then (if i < n then some i.toNat else none) else if -(n : Int) ≤ i then some (i + n).toNat else none
def idxI (S : Sto) : D → D → Option D
  | .tup xs, .int i => (ixN xs.length i).bind fun j => xs[j]?
  | .ref n, .int i => match S[n]? with
    | some (.lst xs) => (ixN xs.length i).bind fun j => xs[j]?
    | some (.dct kvs) => if keysOk kvs (.int i) then dget kvs (.int i) else none
    | _ => none
  | .ref n, k => match S[n]? with
    | some (.dct kvs) => if keysOk kvs k then dget kvs k else none
    | _ => none
  | _, _ => none
/-- an end of a slice by ones, d where it is not written -/
def sIx (n d : Nat) : Option Int → Nat
  | none => d
  | some i => if i < 0 then (i + n).toNat else min i.toNat n
def cut {α : Type} (xs : List α) (lo hi : Option Int) : List α := (xs.drop (sIx xs.length 0 lo)).take (sIx xs.length xs.length hi - sIx xs.length 0 lo)
def optI : D → Option (Option Int)
  | .non => some none
  | .int i => some (some i)
  | _ => none
/-- xs[lo:hi:st]: by ones; from the end whole or down to a written place above 0 -/
def slc {α : Type} (xs : List α) (lo hi st : Option Int) : Option (List α) := match st with
  | none => some (cut xs lo hi)
  | some st => if st = 1 then some (cut xs lo hi) else if st = -1 then (match lo, hi with
    | none, none => some xs.reverse
    | none, some j => if 0 ≤ j then some (xs.drop (j.toNat + 1)).reverse else none
    | _, _ => none) else none
def slcI (S : Sto) (a lo hi st : D) : Option (D × Sto) := match optI lo, optI hi, optI st with
  | some lo, some hi, some st => match a with
    | .tup xs => match slc xs lo hi st with
      | some ys => some (.tup ys, S)
      | none => none
    | .ref n => match S[n]? with
      | some (.lst xs) => match slc xs lo hi st with
        | some ys => new S (.lst ys)
        | none => none
      | some (.scr ns) => match slc ns lo hi st with
        | some ys => new S (.lst (ys.map .int))
        | none => none
      | some (.ftp xs) => if decide (st = none) then (if decide (sIx xs.length 0 lo = 0 ∧ sIx xs.length xs.length hi = xs.length) then some (.ref n, S) else new S (.ftp (cut xs lo hi))) else none
      | _ => none
    | _ => none
  | _, _, _ => none
/-- o[i] = v -/
def setI (S : Sto) (o i v : D) : Option Sto := match o with
  | .ref n => match S[n]? with
    | some (.lst xs) => match i with
      | .int i => (ixN xs.length i).map fun j => S.set n (.lst (xs.set j v))
      | _ => none
    | some (.dct kvs) => if keysOk kvs i && decide (kvs.length < line) then some (S.set n (.dct (dput kvs i v))) else none
    | _ => none
  | _ => none

/-! ### built-ins -/
inductive Ty | int | bool | str | tuple | list
  deriving DecidableEq
inductive Blt | len | abs | max | min | sum | all | any | int | str | tuple | list | sorted | repr | isi (t : Ty) | set | ftuple
  deriving DecidableEq
def intsD : List D → Option (List Int)
  | [] => some []
  | .int i :: xs => (intsD xs).map (i :: ·)
  | _ :: _ => none
def boolsD : List D → Option (List Bool)
  | [] => some []
  | .bl i :: xs => (boolsD xs).map (i :: ·)
  | _ :: _ => none
def maxI : List Int → Int
  | [] => 0
  | x :: xs => xs.foldl (fun a b => if b > a then b else a) x
def minI : List Int → Int
  | [] => 0
  | x :: xs => xs.foldl (fun a b => if b < a then b else a) x
/-- the items of a list or a tuple -/
def itemsI (S : Sto) : D → Option (List D)
  | .tup xs => some xs
  | .ref n => match S[n]? with
    | some (.lst xs) => some xs
    | _ => none
  | _ => none
def isiI (S : Sto) : Ty → D → Option Bool
  | .int, .int _ => some true
  | .int, .bl _ => some true
  | .bool, .bl _ => some true
  | .str, .str _ => some true
  | .tuple, .tup _ => some true
  | .list, .ref n => match S[n]? with
    | some (.lst _) => some true
    | _ => none
  | _, .ref n => match S[n]? with
    | some (.lst _) => some false
    | _ => none
  | _, .rep _ => none
  | _, .lst _ => none
  | _, _ => some false
/-! the order of trees of one kind -/
mutual
def D.lt : D → D → Option Bool
  | .int i, .int j => some (decide (i < j))
  | .str x, .str y => some (decide (x < y))
  | .tup xs, .tup ys => D.lts xs ys
  | _, _ => none
def D.lts : List D → List D → Option Bool
  | [], [] => some false
  | [], _ :: _ => some true
  | _ :: _, [] => some false
  | x :: xs, y :: ys => if D.eqv x y then D.lts xs ys else D.lt x y
end
def lenI (S : Sto) : List D → Option (D × Sto)
  | [.str s] => if s.length ≤ line then some (.int s.length, S) else none
  | [.ref n] => match S[n]? with
    | some (.lst xs) => some (.int xs.length, S)
    | some (.scr xs) => some (.int xs.length, S)
    | some (.dct xs) => some (.int xs.length, S)
    | some (.set xs) => some (.int xs.length, S)
    | _ => none
  | [.tup xs] => some (.int xs.length, S)
  | _ => none
def absI (S : Sto) : List D → Option (D × Sto)
  | [.int i] => some (.int (if i < 0 then -i else i), S)
  | _ => none
def maxB (S : Sto) : List D → Option (D × Sto)
  | [.int i, .int j] => some (.int (if j > i then j else i), S)
  | [a] => match (itemsI S a).bind intsD with
    | some (x :: xs) => some (.int (maxI (x :: xs)), S)
    | _ => none
  | _ => none
def minB (S : Sto) : List D → Option (D × Sto)
  | [.int i, .int j] => some (.int (if j < i then j else i), S)
  | [a] => match (itemsI S a).bind intsD with
    | some (x :: xs) => some (.int (minI (x :: xs)), S)
    | _ => none
  | _ => none
def sumB (S : Sto) : List D → Option (D × Sto)
  | [a] => match (itemsI S a).bind intsD with
    | some xs => some (.int xs.sum, S)
    | none => none
  | _ => none
def allB (S : Sto) : List D → Option (D × Sto)
  | [a] => match (itemsI S a).bind boolsD with
    | some xs => some (.bl (xs.all id), S)
    | none => none
  | _ => none
def anyB (S : Sto) : List D → Option (D × Sto)
  | [a] => match (itemsI S a).bind boolsD with
    | some xs => some (.bl (xs.any id), S)
    | none => none
  | _ => none
def intB (S : Sto) : List D → Option (D × Sto)
  | [.int i] => some (.int i, S)
  | [.bl b] => some (.int (if b then 1 else 0), S)
  | _ => none
def tupB (S : Sto) : List D → Option (D × Sto)
  | [a] => match itemsI S a with
    | some xs => some (.tup xs, S)
    | none => none
  | _ => none
def lstB (S : Sto) : List D → Option (D × Sto)
  | [a] => match itemsI S a with
    | some xs => new S (.lst xs)
    | none => none
  | _ => none
def repB (S : Sto) : List D → Option (D × Sto)
  | [a] => match rd RD S a with
    | some t => if D.okS t && (D.shw t && decide (D.bulk t ≤ 50000)) then some (.rep t, S) else none
    | none => none
  | _ => none
def isiB (S : Sto) (t : Ty) : List D → Option (D × Sto)
  | [a] => match isiI S t a with
    | some b => some (.bl b, S)
    | none => none
  | _ => none
/-- tuple(xs) of a list: a tuple known as an object -/
def ftpB (S : Sto) : List D → Option (D × Sto)
  | [.ref n] => match S[n]? with
    | some (.lst xs) => new S (.ftp xs)
    | _ => none
  | _ => none
def insI (x : Int) : List Int → List Int
  | [] => [x]
  | y :: ys => if x ≤ y then x :: y :: ys else y :: insI x ys
/-- ints, ascending -/
def sortI (xs : List Int) : List Int := xs.foldr insI []
mutual
/-- the order of trees alike -/
def D.ltb : D → D → Bool
  | .int i, .int j => decide (i < j)
  | .tup xs, .tup ys => D.ltbs xs ys
  | _, _ => false
def D.ltbs : List D → List D → Bool
  | [], [] => false
  | [], _ :: _ => true
  | _ :: _, [] => false
  | x :: xs, y :: ys => if D.eqv x y then D.ltbs xs ys else D.ltb x y
end
mutual
/-- trees of ints that can be put in order -/
def D.alk : D → D → Bool
  | .int _, .int _ => true
  | .tup xs, .tup ys => D.alks xs ys
  | _, _ => false
def D.alks : List D → List D → Bool
  | [], _ => true
  | _, [] => true
  | x :: xs, y :: ys => D.alk x y && D.alks xs ys
end
/-- a row of ints, not bare -/
def rowD : D → Bool
  | .tup (x :: xs) => (intsD (x :: xs)).isSome
  | _ => false
/-- a tuple, not bare -/
def nbD : D → Bool
  | .tup (_ :: _) => true
  | _ => false
/-- trees, ascending -/
def sortD (xs : List D) : List D := xs.mergeSort fun a b => !D.ltb b a
def srtOk (xs : List D) : Bool := xs.all rowD || (xs.all nbD && xs.all fun x => xs.all fun y => D.alk x y)
/-- sorted(xs), xs a list -/
def srtB (S : Sto) : List D → Option (D × Sto)
  | [.ref n] => match S[n]? with
    | some (.lst xs) => match intsD xs with
      | some ns => new S (.lst ((sortI ns).map .int))
      | none => match mapO (rd RD S) xs with
        | none => none
        | some ts => if decide (ts = xs) && srtOk xs then new S (.lst (sortD xs)) else none
    | _ => none
  | _ => none
def bltI (S : Sto) (b : Blt) (ds : List D) : Option (D × Sto) := match b with
  | .len => lenI S ds
  | .abs => absI S ds
  | .max => maxB S ds
  | .min => minB S ds
  | .sum => sumB S ds
  | .all => allB S ds
  | .any => anyB S ds
  | .int => intB S ds
  | .tuple => tupB S ds
  | .list => lstB S ds
  | .repr => repB S ds
  | .isi t => isiB S t ds
  | .str => none
  | .sorted => srtB S ds
  | .set => none
  | .ftuple => ftpB S ds

def rowsD : List D → Option (List (List Int))
  | [] => some []
  | .tup xs :: r => match intsD xs with
    | none => none
    | some ns => (rowsD r).map (ns :: ·)
  | _ :: _ => none
/-- each once -/
def nub {α : Type} [DecidableEq α] : List α → List α
  | [] => []
  | x :: xs => if x ∈ xs then nub xs else x :: nub xs
/-- len(set(xs)): ints; a short list of rows of ints -/
def setlenI (S : Sto) (x : D) : Option Nat := match itemsI S x with
  | none => none
  | some xs => match intsD xs with
    | some ns => if decide (ns.length ≤ 4000) then some (nub ns).length else none
    | none => match x with
      | .ref _ => match rowsD xs with
        | some rs => if decide (rs.length < 64) then some (nub rs).length else none
        | none => none
      | _ => none
/-! ### the program's text -/
inductive Mth | append | extend | insert | pop | count | index | get | tcount | tindex
  deriving DecidableEq
inductive Ex where
  | abs | non | bl (b : Bool) | int (i : Int) | str (s : List Nat)
  | var (i : Nat) | glo (x : List Nat) (v : D)
  | bin (op : Op2) (a b : Ex) | neg (a : Ex) | not (a : Ex) | and (a : Ex) (es : List Ex) | or (a : Ex) (es : List Ex)
  | cmp (a : Ex) (os : List Cmp) (bs : List Ex) | ife (c a b : Ex)
  | tup (es : List Ex) | lst (es : List Ex) | idx (a i : Ex) | slc (a lo hi st : Ex)
  | call (x : List Nat) (f : Fn) (es : List Ex)
  | callk (x : List Nat) (ks : List (List Nat)) (f : Fn) (perm : List Nat) (es : List Ex)
  | blt (b : Blt) (es : List Ex) | setlen (a : Ex) | meth (m : Mth) (o : Ex) (es : List Ex)
  | rngT (es : List Ex) | rngL (es : List Ex)
  | comp (elt tg it c : Ex) (own : List Nat)
  | dcomp (k v tg it c : Ex) (own : List Nat)
  /-- key, value, key, value, .. -/
  | dict (kvs : List Ex)
  /- what is walked -/
  | wk (a : Ex) | rng (es : List Ex) | enum (a : Ex) | enumz (a b : Ex) | zip (a b : Ex) | items (a : Ex) | values (a : Ex)
  /- targets -/
  | tgN (i : Nat) | tgT (ts : List Ex) | tgS (o i : Ex)
inductive St where
  | asg (t : Ex) (e : Ex) | ex (e : Ex) | ife (c : Ex) (a b : List St) | forS (t it : Ex) (b : List St) | wh (fuel : Nat) (c : Ex) (b : List St)
  | ret (e : Ex) | retN | brk | pass | never

mutual
/-- the names that a target sets -/
def slots : Ex → List Nat
  | .tgN i => [i]
  | .tgT ts => slotss ts
  | _ => []
def slotss : List Ex → List Nat
  | [] => []
  | t :: ts => slots t ++ slotss ts
end
/-! ### runs -/
abbrev RE := Option (D × Sto)
/-- how a call is done: arguments without references run over an empty store -/
def callI (f : Fn) (ds : List D) (S : Sto) : RE :=
  if D.los 0 ds then
    match f ds [] with
    | some (d, S1) => if D.lo 0 d then some (d, S) else some (D.shift S.length d, S ++ S1.map (O.shift S.length))
    | none => none
  else match f ds S with
    | some (d, S1) => if D.lo S.length d && (S1.take S.length).all (O.lo S.length) then some (d, S1.take S.length) else some (d, S1)
    | none => none
def guardOk (S : Sto) (g : List (Nat × O)) : Bool := g.all fun p => decide (S[p.1]? = some p.2)
def wipe (e : Env) : List Nat → Env
  | [] => e
  | v :: vs => (wipe e vs).set v none
/-- [elt for tg in xs if c] -/
def compL (bind : D → Env → Sto → Option (Env × Sto)) (c : Env → Sto → Option (Bool × Sto)) (elt : Env → Sto → RE) (g : List (Nat × O)) (e : Env) : List D → Sto → Option (List D × Sto)
  | [], S => if guardOk S g then some ([], S) else none
  | x :: xs, S => if guardOk S g then
      match bind x e S with
      | none => none
      | some (e1, S1) => match c e1 S1 with
        | none => none
        | some (false, S2) => compL bind c elt g e xs S2
        | some (true, S2) => match elt e1 S2 with
          | none => none
          | some (y, S3) => match compL bind c elt g e xs S3 with
            | none => none
            | some (ys, S4) => some (y :: ys, S4)
    else none
/-- {k: v for tg in xs if c} -/
def dcompL (bind : D → Env → Sto → Option (Env × Sto)) (c : Env → Sto → Option (Bool × Sto)) (k v : Env → Sto → RE) (g : List (Nat × O)) (e : Env) : List D → List (D × D) → Sto → Option (List (D × D) × Sto)
  | [], a, S => if guardOk S g then some (a, S) else none
  | x :: xs, a, S => if guardOk S g then
      match bind x e S with
      | none => none
      | some (e1, S1) => match c e1 S1 with
        | none => none
        | some (false, S2) => dcompL bind c k v g e xs a S2
        | some (true, S2) => match k e1 S2 with
          | none => none
          | some (y, S3) => match v e1 S3 with
            | none => none
            | some (z, S4) => if keysOk a y && decide (a.length < line) then dcompL bind c k v g e xs (dput a y z) S4 else none
    else none
inductive Fl where
  | nx | brk | rt (d : D)
abbrev RS := Option (Fl × Env × Sto)
def forL (bind : D → Env → Sto → Option (Env × Sto)) (body : Env → Sto → RS) (g : List (Nat × O)) : List D → Env → Sto → RS
  | [], e, S => if guardOk S g then some (.nx, e, S) else none
  | x :: xs, e, S => if guardOk S g then
      match bind x e S with
      | none => none
      | some (e1, S1) => match body e1 S1 with
        | some (.nx, e2, S2) => forL bind body g xs e2 S2
        | some (.brk, e2, S2) => some (.nx, e2, S2)
        | some (.rt d, e2, S2) => some (.rt d, e2, S2)
        | none => none
    else none
def whL (c : Env → Sto → Option (Bool × Sto)) (body : Env → Sto → RS) : Nat → Env → Sto → RS
  | 0, _, _ => none
  | n + 1, e, S => match c e S with
    | none => none
    | some (false, S1) => some (.nx, e, S1)
    | some (true, S1) => match body e S1 with
      | some (.nx, e2, S2) => whL c body n e2 S2
      | some (.brk, e2, S2) => some (.nx, e2, S2)
      | some (.rt d, e2, S2) => some (.rt d, e2, S2)
      | none => none
def rngV (lo hi st : Int) : List D :=
  if st = 1 then (List.range (hi - lo).toNat).map fun k => .int (lo + (k : Nat)) else
  if st = -1 then (List.range (lo - hi).toNat).map fun k => .int (lo - (k : Nat)) else []
def rngI : List D → Option (List D)
  | [.int hi] => if decide (-1000000000 ≤ hi) && decide (hi ≤ line) then some (rngV 0 hi 1) else none
  | [.int lo, .int hi] => if decide (-1000000000 ≤ lo) && (decide (lo ≤ 1000000000) && (decide (-1000000000 ≤ hi) && (decide (hi ≤ 1000000000) && decide (hi - lo ≤ line)))) then some (rngV lo hi 1) else none
  | [.int lo, .int hi, .int st] => if decide (st = -1) && (decide (-1000000000 ≤ lo) && (decide (lo ≤ 1000000000) && (decide (-1000000000 ≤ hi) && (decide (hi ≤ 1000000000) && decide (lo - hi ≤ line))))) then some (rngV lo hi (-1)) else none
  | _ => none
def thenT (r : RE) : Option (Bool × Sto) := match r with
  | some (d, S) => (tru S d).map fun b => (b, S)
  | none => none
def pick (perm : List Nat) (ds : List D) : List D := perm.filterMap fun i => ds[i]?
/-- what a for walks: the items, what has to stay -/
abbrev RI := Option (List D × List (Nat × O) × Sto)
def rowV (n : Nat) (S : Sto) : Option (List D × List (Nat × O)) := match S[n]? with
  | some (.lst xs) => some (xs, [(n, .lst xs)])
  | some (.scr ns) => some (ns.map .int, [(n, .scr ns)])
  | _ => none
def walkV (d : D) (S : Sto) : Option (List D × List (Nat × O)) := match d with
  | .tup xs => some (xs, [])
  | .ref n => rowV n S
  | _ => none
def enumV (xs : List D) : List D := (xs.zipIdx).map fun p => .tup [.int (p.2 : Nat), p.1]
def zipV (xs ys : List D) : List D := (xs.zip ys).map fun p => .tup [p.1, p.2]
/-- enumerate of a list -/
def enumL (d : D) (S : Sto) : Option (List D × List (Nat × O)) := match d with
  | .ref n => match rowV n S with
    | none => none
    | some (xs, g) => some (enumV xs, g)
  | _ => none
/-- enumerate of a list, a tuple -/
def enumI (d : D) (S : Sto) : Option (List D × List (Nat × O)) := match d with
  | .tup xs => some (enumV xs, [])
  | d => enumL d S
/-- a dict that stays -/
def dictI (d : D) (S : Sto) : Option (List (D × D) × List (Nat × O)) := match d with
  | .ref n => match S[n]? with
    | some (.dct kvs) => some (kvs, [(n, .dct kvs)])
    | _ => none
  | _ => none
/-- zip of lists, tuples -/
def zipI (x y : D) (S : Sto) : Option (List D × List (Nat × O)) := match x, y with
  | .tup xs, .tup ys => some (zipV xs ys, [])
  | .ref m, .ref n => match rowV m S, rowV n S with
    | some (xs, g), some (ys, h) => some (zipV xs ys, g ++ h)
    | _, _ => none
  | .tup xs, .ref n => match rowV n S with
    | some (ys, h) => some (zipV xs ys, h)
    | none => none
  | .ref m, .tup ys => match rowV m S with
    | some (xs, g) => some (zipV xs ys, g)
    | none => none
  | _, _ => none
/-- zip of two tuples -/
def zipT : D → D → Option (List D)
  | .tup xs, .tup ys => some (zipV xs ys)
  | _, _ => none
def appM (S : Sto) : D → List D → RE
  | .ref n, [x] => match S[n]? with
    | some (.lst xs) => if decide (xs.length < line) then some (.non, S.set n (.lst (xs ++ [x]))) else none
    | _ => none
  | _, _ => none
def extM (S : Sto) : D → List D → RE
  | .ref n, [.ref m] => match S[n]?, S[m]? with
    | some (.lst xs), some (.lst ys) => if decide (xs.length + ys.length ≤ line) then some (.non, S.set n (.lst (xs ++ ys))) else none
    | _, _ => none
  | _, _ => none
def insM (S : Sto) : D → List D → RE
  | .ref n, [.int i, x] => match S[n]? with
    | some (.lst xs) => if decide (xs.length < line) && (decide (0 ≤ i) && decide (i < 9223372036854775808)) then some (.non, S.set n (.lst (xs.take i.toNat ++ [x] ++ xs.drop i.toNat))) else none
    | _ => none
  | _, _ => none
def popM (S : Sto) : D → List D → RE
  | .ref n, [] => match S[n]? with
    | some (.lst xs) => match xs.getLast? with
      | some x => some (x, S.set n (.lst xs.dropLast))
      | none => none
    | _ => none
  | .ref n, [.int i] => match S[n]? with
    | some (.lst xs) => match ixN xs.length i with
      | some j => match xs[j]? with
        | some x => some (x, S.set n (.lst (xs.eraseIdx j)))
        | none => none
      | none => none
    | _ => none
  | _, _ => none
def getM (S : Sto) : D → List D → RE
  | .ref n, [k] => match S[n]? with
    | some (.dct kvs) => if keysOk kvs k then some ((dget kvs k).getD .non, S) else none
    | _ => none
  | .ref n, [k, z] => match S[n]? with
    | some (.dct kvs) => if keysOk kvs k then some ((dget kvs k).getD z, S) else none
    | _ => none
  | _, _ => none
/-- xs.count(x) of a list of ints -/
def cntM (S : Sto) : D → List D → RE
  | .ref n, [.int i] => match S[n]? with
    | some (.lst xs) => match intsD xs with
      | some ns => some (.int (ns.count i : Nat), S)
      | none => none
    | _ => none
  | _, _ => none
/-- of a tuple of ints -/
def cntT (S : Sto) : D → List D → RE
  | .ref n, [.int i] => match S[n]? with
    | some (.ftp xs) => match intsD xs with
      | some ns => some (.int (ns.count i : Nat), S)
      | none => none
    | _ => none
  | _, _ => none
/-- xs.index(x) of a list of ints that has it -/
def idxM (S : Sto) : D → List D → RE
  | .ref n, [.int i] => match S[n]? with
    | some (.lst xs) => match intsD xs with
      | some ns => if decide (i ∈ ns) then some (.int (ns.idxOf i : Nat), S) else none
      | none => none
    | _ => none
  | _, _ => none
/-- of a tuple of ints -/
def idxT (S : Sto) : D → List D → RE
  | .ref n, [.int i] => match S[n]? with
    | some (.ftp xs) => match intsD xs with
      | some ns => if decide (i ∈ ns) then some (.int (ns.idxOf i : Nat), S) else none
      | none => none
    | _ => none
  | _, _ => none
/-- the thing whose method it is -/
def methT (S : Sto) (m : Mth) : D → Bool
  | .ref n => match S[n]? with
    | some (.lst _) => decide (m ≠ .get ∧ m ≠ .tcount ∧ m ≠ .tindex)
    | some (.ftp _) => decide (m = .tcount ∨ m = .tindex)
    | some (.dct _) => decide (m = .get)
    | _ => false
  | _ => false
def methI (S : Sto) (m : Mth) (o : D) (ds : List D) : RE := match m with
  | .append => appM S o ds
  | .extend => extM S o ds
  | .insert => insM S o ds
  | .pop => popM S o ds
  | .get => getM S o ds
  | .count => cntM S o ds
  | .index => idxM S o ds
  | .tcount => cntT S o ds
  | .tindex => idxT S o ds
mutual
def evalE : Ex → Env → Sto → RE
  | .abs, _, S => some (.non, S)
  | .non, _, S => some (.non, S)
  | .bl b, _, S => some (.bl b, S)
  | .int i, _, S => some (.int i, S)
  | .str x, _, S => some (.str x, S)
  | .var i, e, S => match e[i]? with
    | some (some d) => some (d, S)
    | _ => none
  | .glo _ v, _, S => some (v, S)
  | .bin op a b, e, S => match evalE a e S with
    | none => none
    | some (x, S1) => match evalE b e S1 with
      | none => none
      | some (y, S2) => binI S2 op x y
  | .neg a, e, S => match evalE a e S with
    | some (.int i, S1) => some (.int (-i), S1)
    | _ => none
  | .not a, e, S => match thenT (evalE a e S) with
    | some (b, S1) => some (.bl (!b), S1)
    | none => none
  | .and a es, e, S => match evalE a e S with
    | none => none
    | some (d, S1) => evalAnd es d e S1
  | .or a es, e, S => match evalE a e S with
    | none => none
    | some (d, S1) => evalOr es d e S1
  | .cmp a os bs, e, S => match evalE a e S with
    | none => none
    | some (x, S1) => match evalC os bs e x true S1 with
      | none => none
      | some (b, S2) => some (.bl b, S2)
  | .ife c a b, e, S => match thenT (evalE c e S) with
    | none => none
    | some (true, S1) => evalE a e S1
    | some (false, S1) => evalE b e S1
  | .tup es, e, S => match evalEs es e S with
    | none => none
    | some (ds, S1) => some (.tup ds, S1)
  | .lst es, e, S => match evalEs es e S with
    | none => none
    | some (ds, S1) => new S1 (.lst ds)
  | .idx a i, e, S => match evalE a e S with
    | none => none
    | some (x, S1) => match evalE i e S1 with
      | none => none
      | some (y, S2) => match idxI S2 x y with
        | none => none
        | some d => some (d, S2)
  | .slc a lo hi st, e, S => match evalE a e S with
    | none => none
    | some (x, S1) => match evalE lo e S1 with
      | none => none
      | some (l, S2) => match evalE hi e S2 with
        | none => none
        | some (h, S3) => match evalE st e S3 with
          | none => none
          | some (t, S4) => slcI S4 x l h t
  | .call _ f es, e, S => match evalEs es e S with
    | none => none
    | some (ds, S1) => callI f ds S1
  | .callk _ _ f perm es, e, S => match evalEs es e S with
    | none => none
    | some (ds, S1) => callI f (pick perm ds) S1
  | .blt b es, e, S => match evalEs es e S with
    | none => none
    | some (ds, S1) => bltI S1 b ds
  | .setlen a, e, S => match evalE a e S with
    | none => none
    | some (x, S1) => match setlenI S1 x with
      | none => none
      | some n => some (.int (n : Nat), S1)
  | .meth m o es, e, S => match evalE o e S with
    | none => none
    | some (x, S1) => if methT S1 m x then match evalEs es e S1 with
        | none => none
        | some (ds, S2) => methI S2 m x ds
      else none
  | .rngT es, e, S => match evalEs es e S with
    | none => none
    | some (ds, S1) => match rngI ds with
      | none => none
      | some xs => some (.tup xs, S1)
  | .rngL es, e, S => match evalEs es e S with
    | none => none
    | some (ds, S1) => match rngI ds with
      | none => none
      | some xs => new S1 (.lst xs)
  | .comp elt tg it c own, e, S => match evalIt it e S with
    | none => none
    | some (xs, g, S1) => if decide (xs.length ≤ line) then match compL (bindT tg) (fun e S => thenT (evalE c e S)) (evalE elt) g (wipe e own) xs S1 with
      | none => none
      | some (ys, S2) => new S2 (.lst ys)
      else none
  | .dcomp k v tg it c own, e, S => match evalIt it e S with
    | none => none
    | some (xs, g, S1) => if decide (xs.length ≤ line) then match dcompL (bindT tg) (fun e S => thenT (evalE c e S)) (evalE k) (evalE v) g (wipe e own) xs [] S1 with
      | none => none
      | some (kvs, S2) => new S2 (.dct kvs)
      else none
  | .dict kvs, e, S => match evalEs kvs e S with
    | none => none
    | some (ds, S1) => match pairsD ds with
      | none => none
      | some ps => if ps.all fun p => keyK p.1 then new S1 (.dct (dputs [] ps)) else none
  | _, _, _ => none
def evalEs : List Ex → Env → Sto → Option (List D × Sto)
  | [], _, S => some ([], S)
  | x :: xs, e, S => match evalE x e S with
    | none => none
    | some (d, S1) => match evalEs xs e S1 with
      | none => none
      | some (ds, S2) => some (d :: ds, S2)
def evalAnd : List Ex → D → Env → Sto → RE
  | [], d, _, S => some (d, S)
  | x :: xs, d, e, S => match tru S d with
    | none => none
    | some false => some (d, S)
    | some true => match evalE x e S with
      | none => none
      | some (d1, S1) => evalAnd xs d1 e S1
def evalOr : List Ex → D → Env → Sto → RE
  | [], d, _, S => some (d, S)
  | x :: xs, d, e, S => match tru S d with
    | none => none
    | some true => some (d, S)
    | some false => match evalE x e S with
      | none => none
      | some (d1, S1) => evalOr xs d1 e S1
def evalC : List Cmp → List Ex → Env → D → Bool → Sto → Option (Bool × Sto)
  | o :: os, b :: bs, e, x, c, S => match c with
    | false => some (false, S)
    | true => match evalE b e S with
      | none => none
      | some (y, S1) => match cmpI S1 o x y with
        | none => none
        | some c1 => evalC os bs e y c1 S1
  | [], [], _, _, c, S => some (c, S)
  | _, _, _, _, _, _ => none
def evalIt : Ex → Env → Sto → RI
  | .rng es, e, S => match evalEs es e S with
    | none => none
    | some (ds, S1) => match rngI ds with
      | none => none
      | some xs => some (xs, [], S1)
  | .enum a, e, S => match evalE a e S with
    | none => none
    | some (x, S1) => match enumI x S1 with
      | none => none
      | some (xs, g) => some (xs, g, S1)
  | .zip a b, e, S => match evalE a e S with
    | none => none
    | some (x, S1) => match evalE b e S1 with
      | none => none
      | some (y, S2) => match zipI x y S2 with
        | none => none
        | some (xs, g) => some (xs, g, S2)
  | .enumz a b, e, S => match evalE a e S with
    | none => none
    | some (x, S1) => match evalE b e S1 with
      | none => none
      | some (y, S2) => match zipT x y with
        | none => none
        | some xs => some (enumV xs, [], S2)
  | .items a, e, S => match evalE a e S with
    | none => none
    | some (x, S1) => match dictI x S1 with
      | none => none
      | some (kvs, g) => some (kvs.map fun p => .tup [p.1, p.2], g, S1)
  | .values a, e, S => match evalE a e S with
    | none => none
    | some (x, S1) => match dictI x S1 with
      | none => none
      | some (kvs, g) => some (kvs.map (·.2), g, S1)
  | .wk a, e, S => match evalE a e S with
    | none => none
    | some (x, S1) => match walkV x S1 with
      | none => none
      | some (xs, g) => some (xs, g, S1)
  | _, _, _ => none
def bindT : Ex → D → Env → Sto → Option (Env × Sto)
  | .tgN i, d, e, S => some (e.set i (some d), S)
  | .tgT ts, d, e, S => match itemsI S d with
    | none => none
    | some ds => bindTs ts ds e S
  | .tgS o i, d, e, S => match evalE o e S with
    | none => none
    | some (x, S1) => match evalE i e S1 with
      | none => none
      | some (y, S2) => match setI S2 x y d with
        | none => none
        | some S3 => some (e, S3)
  | _, _, _, _ => none
def bindTs : List Ex → List D → Env → Sto → Option (Env × Sto)
  | [], [], e, S => some (e, S)
  | t :: ts, d :: ds, e, S => match bindT t d e S with
    | none => none
    | some (e1, S1) => bindTs ts ds e1 S1
  | _, _, _, _ => none
end
mutual
def execS : St → Env → Sto → RS
  | .asg t x, e, S => match evalE x e S with
    | none => none
    | some (d, S1) => match bindT t d e S1 with
      | none => none
      | some (e1, S2) => some (.nx, e1, S2)
  | .ex x, e, S => match evalE x e S with
    | none => none
    | some (_, S1) => some (.nx, e, S1)
  | .ife c a b, e, S => match thenT (evalE c e S) with
    | none => none
    | some (true, S1) => execSs a e S1
    | some (false, S1) => execSs b e S1
  | .forS t it b, e, S => match evalIt it e S with
    | none => none
    | some (xs, g, S1) => forL (bindT t) (execSs b) g xs e S1
  | .wh fuel c b, e, S => whL (fun e S => thenT (evalE c e S)) (execSs b) fuel e S
  | .ret x, e, S => match evalE x e S with
    | none => none
    | some (d, S1) => some (.rt d, e, S1)
  | .retN, e, S => some (.rt .non, e, S)
  | .brk, e, S => some (.brk, e, S)
  | .pass, e, S => some (.nx, e, S)
  | .never, _, _ => none
def execSs : List St → Env → Sto → RS
  | [], e, S => some (.nx, e, S)
  | s :: ss, e, S => match execS s e S with
    | some (.nx, e1, S1) => execSs ss e1 S1
    | r => r
end
/-- a def with n names, the parameters first -/
def runF (n k : Nat) (body : List St) : Fn := fun ds S =>
  if ds.length = k then
    match execSs body (ds.map some ++ List.replicate (n - k) none) S with
    | some (.rt d, _, S1) => some (d, S1)
    | some (.nx, _, S1) => some (.non, S1)
    | _ => none
  else none
end N
set_option autoImplicit false
set_option Elab.async false
set_option linter.all false
set_option maxRecDepth 100000
namespace N
open PySem L2

def sOf (s : List Nat) : Str := ⟨s.toArray⟩
mutual
def toPy : D → PyData
  | .bl b => .bool b
  | .int i => .int i
  | .str s => .str (sOf s)
  | .tup xs => .tuple (toPys xs)
  | .lst xs => .list (toPys xs)
  | _ => .none
def toPys : List D → List PyData
  | [] => []
  | x :: xs => toPy x :: toPys xs
end

mutual
/-- the value v stands for d; ρ tells where the store's places lie -/
inductive VR (ρ : List Addr) (H : Hp) : D → V → Prop
  | non : VR ρ H .non .non
  | bl (b : Bool) : VR ρ H (.bl b) (.bl b)
  | int (i : Int) : VR ρ H (.int i) (.int i)
  | str (s : List Nat) : VR ρ H (.str s) (.str (sOf s))
  | tup {xs : List D} {a : Addr} {vs : List V} : H a = some (.tup vs) → VRs ρ H xs vs → VR ρ H (.tup xs) (.ref a)
  | ref {n : Nat} {a : Addr} : ρ[n]? = some a → VR ρ H (.ref n) (.ref a)
  | rep {d : D} : VR ρ H (.rep d) (.str (toPy d).shown)
inductive VRs (ρ : List Addr) (H : Hp) : List D → List V → Prop
  | nil : VRs ρ H [] []
  | cons {x : D} {v : V} {xs : List D} {vs : List V} : VR ρ H x v → VRs ρ H xs vs → VRs ρ H (x :: xs) (v :: vs)
end

/-- how the step from H to H' (places ρ, then ρ') went: what is not a mutable thing of ρ's is kept -/
structure Go (ρ : List Addr) (H : Hp) (ρ' : List Addr) (H' : Hp) : Prop where
  ext : ∃ δ, ρ' = ρ ++ δ ∧ ∀ p ∈ δ, H p = none
  fr : ∀ a o, H a = some o → ¬ (a ∈ ρ ∧ Mut (some o)) → H' a = some o
  th : ∀ a, H a ≠ none → H' a ≠ none

section
variable {ρ ρ' ρ1 ρ2 δ : List Addr} {H H' H1 H2 : Hp}
theorem Go.refl : Go ρ H ρ H := ⟨⟨[], by simp, by simp⟩, fun _ _ e _ => e, fun _ e => e⟩
theorem Go.trans (a : Go ρ H ρ1 H1) (b : Go ρ1 H1 ρ2 H2) : Go ρ H ρ2 H2 := by
  obtain ⟨δ1, e1, n1⟩ := a.ext
  obtain ⟨δ2, e2, n2⟩ := b.ext
  refine ⟨⟨δ1 ++ δ2, by rw [e2, e1, List.append_assoc], fun p hp => ?_⟩, fun c o h n => ?_, fun c h => b.th c (a.th c h)⟩
  · rcases List.mem_append.mp hp with z | z
    · exact n1 p z
    · cases q : H p with
      | none => rfl
      | some o => exact absurd (n2 p z) (a.th p (by rw [q]; simp))
  · refine b.fr c o (a.fr c o h n) fun ⟨z, m⟩ => ?_
    rw [e1] at z
    rcases List.mem_append.mp z with z | z
    · exact n ⟨z, m⟩
    · rw [n1 c z] at h; cases h
/-- a new thing stands at p -/
theorem Go.laid {p : Addr} {o : HO} (hp : H p = none) : Go ρ H ρ (upd H p o) :=
  ⟨⟨[], by simp, by simp⟩, fun a u e _ => by rw [upd_ne (ne_of_none e hp)]; exact e, fun a e => by
    by_cases h : a = p
    · rw [h, upd_same]; simp
    · rw [upd_ne h]; exact e⟩
theorem Go.more {p : Addr} {o : HO} (hp : H p = none) : Go ρ H (ρ ++ [p]) (upd H p o) :=
  ⟨⟨[p], rfl, by simpa using hp⟩, (Go.laid (ρ := ρ) hp).fr, (Go.laid (ρ := ρ) hp).th⟩
/-- a mutable thing of ρ's is changed -/
theorem Go.write {a : Addr} {o o' : HO} (ha : a ∈ ρ) (e : H a = some o) (m : Mut (some o)) : Go ρ H ρ (upd H a o') :=
  ⟨⟨[], by simp, by simp⟩, fun b u q n => by
    by_cases h : b = a
    · subst h; rw [e] at q; cases q; exact absurd ⟨ha, m⟩ n
    · rw [upd_ne h]; exact q, fun b q => by
    by_cases h : b = a
    · rw [h, upd_same]; simp
    · rw [upd_ne h]; exact q⟩

theorem Go.tup (g : Go ρ H ρ' H') {a : Addr} {vs : List V} (e : H a = some (.tup vs)) : H' a = some (.tup vs) := g.fr a _ e fun z => z.2
theorem Go.at_ (g : Go ρ H ρ' H') {n : Nat} {a : Addr} (e : ρ[n]? = some a) : ρ'[n]? = some a := by
  obtain ⟨δ, rfl, _⟩ := g.ext
  rw [List.getElem?_append_left (List.getElem?_eq_some_iff.mp e).1]; exact e
mutual
theorem VR.go (g : Go ρ H ρ' H') : ∀ {d : D} {v : V}, VR ρ H d v → VR ρ' H' d v
  | _, _, .non => .non
  | _, _, .bl b => .bl b
  | _, _, .int i => .int i
  | _, _, .str s => .str s
  | _, _, .tup e r => .tup (g.tup e) (VRs.go g r)
  | _, _, .ref e => .ref (g.at_ e)
  | _, _, .rep => .rep
theorem VRs.go (g : Go ρ H ρ' H') : ∀ {d : List D} {v : List V}, VRs ρ H d v → VRs ρ' H' d v
  | _, _, .nil => .nil
  | _, _, .cons a b => .cons (VR.go g a) (VRs.go g b)
end
mutual
/-- a value without references beyond n -/
theorem VR.lo : ∀ {d : D} {v : V}, VR (ρ ++ δ) H d v → D.lo ρ.length d = true → VR ρ H d v
  | _, _, .non, _ => .non
  | _, _, .bl b, _ => .bl b
  | _, _, .int i, _ => .int i
  | _, _, .str s, _ => .str s
  | _, _, .tup e r, h => .tup e (VRs.lo r (by simpa [D.lo] using h))
  | _, _, .ref (n := n) e, h => by
    have h' : n < ρ.length := by simpa [D.lo] using h
    rw [List.getElem?_append_left h'] at e
    exact .ref e
  | _, _, .rep, _ => .rep
theorem VRs.lo : ∀ {d : List D} {v : List V}, VRs (ρ ++ δ) H d v → D.los ρ.length d = true → VRs ρ H d v
  | _, _, .nil, _ => .nil
  | _, _, .cons a b, h => .cons (VR.lo a (Bool.and_eq_true_iff.mp (by simpa only [D.los] using h)).1) (VRs.lo b (Bool.and_eq_true_iff.mp (by simpa only [D.los] using h)).2)
end
mutual
theorem VR.shift : ∀ {d : D} {v : V}, VR δ H d v → VR (ρ ++ δ) H (D.shift ρ.length d) v
  | _, _, .non => .non
  | _, _, .bl b => .bl b
  | _, _, .int i => .int i
  | _, _, .str s => .str s
  | _, _, .tup e r => .tup e (VRs.shift r)
  | _, _, .ref (n := n) e => .ref (n := n + ρ.length) (by rw [List.getElem?_append_right (Nat.le_add_left _ _), Nat.add_sub_cancel]; exact e)
  | _, _, .rep => .rep
theorem VRs.shift : ∀ {d : List D} {v : List V}, VRs δ H d v → VRs (ρ ++ δ) H (D.shifts ρ.length d) v
  | _, _, .nil => .nil
  | _, _, .cons a b => .cons (VR.shift a) (VRs.shift b)
end
mutual
theorem VR.cat : ∀ {d : D} {v : V}, VR ρ H d v → VR (ρ ++ δ) H d v
  | _, _, .non => .non
  | _, _, .bl b => .bl b
  | _, _, .int i => .int i
  | _, _, .str s => .str s
  | _, _, .tup e r => .tup e (VRs.cat r)
  | _, _, .ref e => .ref (by rw [List.getElem?_append_left (List.getElem?_eq_some_iff.mp e).1]; exact e)
  | _, _, .rep => .rep
theorem VRs.cat : ∀ {d : List D} {v : List V}, VRs ρ H d v → VRs (ρ ++ δ) H d v
  | _, _, .nil => .nil
  | _, _, .cons a b => .cons (VR.cat a) (VRs.cat b)
end
/-- a value without references -/
theorem VR.pure {d : D} {v : V} (r : VR δ H d v) (h : D.lo 0 d = true) : VR ρ H d v := by
  have q : VR ([] ++ δ) H d v := r
  have q' : VR [] H d v := q.lo h
  exact q'.cat (δ := ρ)
theorem VRs.pure {d : List D} {v : List V} (r : VRs δ H d v) (h : D.los 0 d = true) : VRs ρ H d v := by
  have q : VRs ([] ++ δ) H d v := r
  have q' : VRs [] H d v := q.lo h
  exact q'.cat (δ := ρ)
end

/-! ### dicts, things of the store -/
def kD : Key → D
  | .inl i => .int i
  | .inr x => .str x.cps.toList
def kR (ρ : List Addr) (H : Hp) : List (D × D) → List (Key × V) → Prop
  | [], [] => True
  | p :: ps, q :: qs => p.1 = kD q.1 ∧ VR ρ H p.2 q.2 ∧ kR ρ H ps qs
  | _, _ => False
def tR (ρ : List Addr) (H : Hp) : List (D × D) → List (List Key × V) → Prop
  | [], [] => True
  | p :: ps, q :: qs => p.1 = .tup (q.1.map kD) ∧ VR ρ H p.2 q.2 ∧ tR ρ H ps qs
  | _, _ => False
/-- what the object o of the store is, at a -/
def OR (K : PySem.W.Frag) (ρ : List Addr) (H : Hp) (a : Addr) : O → Prop
  | .lst xs => ∃ vs, H a = some (.lst vs) ∧ VRs ρ H xs vs
  | .dct kvs => (∃ ks, H a = some (.dK ks) ∧ kR ρ H kvs ks) ∨ ∃ ks, H a = some (.dT ks) ∧ tR ρ H kvs ks
  | .set _ => False
  | .scr ns => ∃ o, H a = some (.frz o (.lst (ns.map V.int)))
  | .ftp xs => ∃ o vs, H a = some (.frz o (.tup vs)) ∧ o.cls = .type "tuple" ∧ o.dict = none ∧ VRs ρ H xs vs
  | .dead => False
def live : O → Bool
  | .lst _ => true
  | .dct _ => true
  | .set _ => true
  | _ => false
structure SR (K : PySem.W.Frag) (ρ : List Addr) (H : Hp) (S : Sto) : Prop where
  len : ρ.length = S.length
  at_ : ∀ (n : Nat) (o : O) (a : Addr), S[n]? = some o → ρ[n]? = some a → OR K ρ H a o
  nd : ∀ (m n : Nat) (a : Addr) (o u : O), ρ[m]? = some a → ρ[n]? = some a → S[m]? = some o → S[n]? = some u → live o = true → live u = true → m = n
section
variable {K : PySem.W.Frag} {ρ ρ' δ : List Addr} {H H' : Hp} {S S' : Sto} {a p : Addr} {o : O}
theorem kR.imp (f : ∀ d v, VR ρ H d v → VR ρ' H' d v) : ∀ {ps : List (D × D)} {qs : List (Key × V)}, kR ρ H ps qs → kR ρ' H' ps qs
  | [], [], _ => trivial
  | _ :: _, _ :: _, h => ⟨h.1, f _ _ h.2.1, kR.imp f h.2.2⟩
theorem tR.imp (f : ∀ d v, VR ρ H d v → VR ρ' H' d v) : ∀ {ps : List (D × D)} {qs : List (List Key × V)}, tR ρ H ps qs → tR ρ' H' ps qs
  | [], [], _ => trivial
  | _ :: _, _ :: _, h => ⟨h.1, f _ _ h.2.1, tR.imp f h.2.2⟩
theorem OR.live (h : OR K ρ H a o) (l : live o = true) : ∃ u, H a = some u ∧ Mut (some u) := by
  cases o with
  | lst xs => obtain ⟨vs, e, _⟩ := h; exact ⟨_, e, trivial⟩
  | dct kvs =>
    rcases h with ⟨ks, e, _⟩ | ⟨ks, e, _⟩
    · exact ⟨_, e, trivial⟩
    · exact ⟨_, e, trivial⟩
  | set xs => exact h.elim
  | scr ns => cases l
  | ftp xs => cases l
  | dead => cases l
/-- a thing that stands as it stood -/
theorem OR.same (h : OR K ρ H a o) (e : ∀ u, H a = some u → H' a = some u) (f : ∀ d v, VR ρ H d v → VR ρ' H' d v) (fs : ∀ d v, VRs ρ H d v → VRs ρ' H' d v) : OR K ρ' H' a o := by
  cases o with
  | lst xs => obtain ⟨vs, e1, r⟩ := h; exact ⟨vs, e _ e1, fs _ _ r⟩
  | dct kvs =>
    rcases h with ⟨ks, e1, r⟩ | ⟨ks, e1, r⟩
    · exact .inl ⟨ks, e _ e1, r.imp f⟩
    · exact .inr ⟨ks, e _ e1, r.imp f⟩
  | set xs => exact h.elim
  | scr ns => obtain ⟨o, e1⟩ := h; exact ⟨o, e _ e1⟩
  | ftp xs => obtain ⟨o, vs, e1, c, d, r⟩ := h; exact ⟨o, vs, e _ e1, c, d, fs _ _ r⟩
  | dead => exact h
/-- the store, where all of the heap is kept -/
theorem SR.keep (s : SR K ρ H S) (e : ∀ a u, H a = some u → H' a = some u) : SR K ρ H' S := by
  have g : Go ρ H ρ H' := ⟨⟨[], by simp, by simp⟩, fun a u q _ => e a u q, fun a q => by
    cases z : H a with
    | none => exact absurd z q
    | some u => rw [e a u z]; simp⟩
  exact ⟨s.len, fun n o a h1 h2 => (s.at_ n o a h1 h2).same (e a) (fun _ _ r => r.go g) fun _ _ r => r.go g, s.nd⟩
theorem SR.laid {u : HO} (s : SR K ρ H S) (hp : H p = none) : SR K ρ (upd H p u) S := s.keep fun a v e => by rw [upd_ne (ne_of_none e hp)]; exact e
/-- a new object of the store -/
theorem SR.more {u : HO} (s : SR K ρ H S) (hp : H p = none) (h : OR K ρ (upd H p u) p o) : SR K (ρ ++ [p]) (upd H p u) (S ++ [o]) := by
  have s1 := s.laid (u := u) hp
  have lt : ∀ {n : Nat} {b : Addr}, (ρ ++ [p])[n]? = some b → (n < ρ.length ∧ ρ[n]? = some b) ∨ (n = ρ.length ∧ b = p) := fun {n b} e => by
    by_cases h : n < ρ.length
    · rw [List.getElem?_append_left h] at e; exact .inl ⟨h, e⟩
    · rw [List.getElem?_append_right (by omega)] at e
      have h1 := (List.getElem?_eq_some_iff.mp e).1
      have h2 : n = ρ.length := by simp at h1; omega
      subst h2
      simp at e
      exact .inr ⟨rfl, e.symm⟩
  have lo : ∀ {n : Nat} {w : O}, n < ρ.length → (S ++ [o])[n]? = some w → S[n]? = some w := fun {n w} h e => by
    rw [List.getElem?_append_left (by rw [← s.len]; exact h)] at e; exact e
  have last : ∀ {w : O}, (S ++ [o])[ρ.length]? = some w → w = o := fun {w} e => by
    rw [s.len, List.getElem?_append_right (Nat.le_refl _)] at e; simp at e; exact e.symm
  refine ⟨by simp [s.len], fun n w b h1 h2 => ?_, fun m n b w z h1 h2 h3 h4 l1 l2 => ?_⟩
  · rcases lt h2 with ⟨hn, e⟩ | ⟨hn, e⟩
    · exact (s1.at_ n w b (lo hn h1) e).same (fun _ q => q) (fun _ _ r => r.cat) fun _ _ r => r.cat
    · subst e; subst hn
      rw [last h1]
      exact h.same (fun _ q => q) (fun _ _ r => r.cat) fun _ _ r => r.cat
  · rcases lt h1 with ⟨x1, e1⟩ | ⟨x1, e1⟩ <;> rcases lt h2 with ⟨x2, e2⟩ | ⟨x2, e2⟩
    · exact s.nd m n b w z e1 e2 (lo x1 h3) (lo x2 h4) l1 l2
    · obtain ⟨u1, q1, _⟩ := (s.at_ m w b (lo x1 h3) e1).live l1
      rw [e2, hp] at q1; cases q1
    · obtain ⟨u1, q1, _⟩ := (s.at_ n z b (lo x2 h4) e2).live l2
      rw [e1, hp] at q1; cases q1
    · rw [x1, x2]
/-- the object n is changed -/
theorem SR.write {n : Nat} {o' : O} {u : HO} (s : SR K ρ H S) (h1 : S[n]? = some o) (h2 : ρ[n]? = some a) (l : live o = true) (l' : live o' = true) (h : OR K ρ (upd H a u) a o') : SR K ρ (upd H a u) (S.set n o') := by
  obtain ⟨u0, e0, m0⟩ := (s.at_ n o a h1 h2).live l
  have g : Go ρ H ρ (upd H a u) := Go.write (List.mem_of_getElem? h2) e0 m0
  have hn := (List.getElem?_eq_some_iff.mp h1).1
  refine ⟨by simp [s.len], fun m w b q1 q2 => ?_, fun m k b w z q1 q2 q3 q4 l1 l2 => ?_⟩
  · by_cases hm : m = n
    · subst hm
      rw [h2] at q2; cases q2
      rw [List.getElem?_set_self hn] at q1; cases q1
      exact h
    · rw [List.getElem?_set_ne (Ne.symm hm)] at q1
      have r := s.at_ m w b q1 q2
      by_cases lw : live w = true
      · have hb : b ≠ a := fun z => hm (s.nd m n a w o (by rw [← z]; exact q2) h2 q1 h1 lw l)
        exact r.same (fun v q => by rw [upd_ne hb]; exact q) (fun _ _ r => r.go g) fun _ _ r => r.go g
      · cases w with
        | lst _ => exact absurd rfl lw
        | dct _ => exact absurd rfl lw
        | set _ => exact absurd rfl lw
        | scr ns => obtain ⟨ob, e⟩ := r; exact ⟨ob, g.fr _ _ e fun z => z.2⟩
        | ftp xs => obtain ⟨ob, vs, e, c, d, rs⟩ := r; exact ⟨ob, vs, g.fr _ _ e fun z => z.2, c, d, VRs.go g rs⟩
        | dead => exact r
  · have back : ∀ {j : Nat} {y : O}, (S.set n o')[j]? = some y → live y = true → ∃ y', S[j]? = some y' ∧ live y' = true := fun {j y} q ly => by
      by_cases hj : j = n
      · subst hj; exact ⟨o, h1, l⟩
      · rw [List.getElem?_set_ne (Ne.symm hj)] at q; exact ⟨y, q, ly⟩
    obtain ⟨w', e1, l1'⟩ := back q3 l1
    obtain ⟨z', e2, l2'⟩ := back q4 l2
    exact s.nd m k b w' z' q1 q2 e1 e2 l1' l2'
theorem OR.some (h : OR K ρ H a o) : H a ≠ none := by
  cases o with
  | lst xs => obtain ⟨vs, e, _⟩ := h; rw [e]; simp
  | dct kvs =>
    rcases h with ⟨ks, e, _⟩ | ⟨ks, e, _⟩
    · rw [e]; simp
    · rw [e]; simp
  | set xs => exact h.elim
  | scr ns => obtain ⟨o, e⟩ := h; rw [e]; simp
  | ftp xs => obtain ⟨o, vs, e, _⟩ := h; rw [e]; simp
  | dead => exact h.elim
/-- every place of the store is told -/
theorem SR.told (s : SR K ρ H S) (h : a ∈ ρ) : H a ≠ none := by
  obtain ⟨n, hn⟩ := List.getElem?_of_mem h
  have hl := (List.getElem?_eq_some_iff.mp hn).1
  rw [s.len] at hl
  exact (s.at_ n _ a (List.getElem?_eq_getElem hl) hn).some
theorem SR.nth (s : SR K ρ H S) {n : Nat} (h1 : S[n]? = some o) : ∃ a, ρ[n]? = some a := by
  have h := (List.getElem?_eq_some_iff.mp h1).1
  rw [← s.len] at h
  exact ⟨_, List.getElem?_eq_getElem h⟩
end
end N
set_option autoImplicit false
set_option Elab.async false
set_option linter.all false
set_option maxRecDepth 100000
namespace N
open PySem L2

/-! ### judgements -/
def ER (ρ : List Addr) (H : Hp) (e : Env) (σ : L2.St) : Prop := e.length = σ.length ∧ ∀ (i : Nat) (d : D), e[i]? = some (some d) → ∃ v, σ[i]? = some (some v) ∧ VR ρ H d v
/-- what is wanted behind: of every value that stands for d, wherever the step has gone -/
def Fin (K : PySem.W.Frag) (ρ : List Addr) (H : Hp) (d : D) (S' : Sto) (Q : VK) : Prop := ∀ ρ' H' v, Go ρ H ρ' H' → SR K ρ' H' S' → VR ρ' H' d v → Q v H'
def TEv (K : PySem.W.Frag) (x : Env → Sto → RE) : TE := fun σ H Q => ∃ ρ e S d S', ER ρ H e σ ∧ SR K ρ H S ∧ x e S = some (d, S') ∧ Fin K ρ H d S' Q
def SE (X : Cx) (e : Expr) (x : Env → Sto → RE) : Prop := PE X e (TEv X.K x)
/-- a two-place operation on values -/
def r2 (K : PySem.W.Frag) (g : Sto → D → D → RE) : R2 := fun x y H Q => ∃ ρ S da db d S', SR K ρ H S ∧ VR ρ H da x ∧ VR ρ H db y ∧ g S da db = some (d, S') ∧ Fin K ρ H d S' Q
def r1 (K : PySem.W.Frag) (g : Sto → D → RE) : V → Hp → VK → Prop := fun x H Q => ∃ ρ S da d S', SR K ρ H S ∧ VR ρ H da x ∧ g S da = some (d, S') ∧ Fin K ρ H d S' Q
/-- a call by values -/
def rN (K : PySem.W.Frag) (g : Sto → List D → RE) : List V → Hp → VK → Prop := fun xs H Q => ∃ ρ S ds d S', SR K ρ H S ∧ VRs ρ H ds xs ∧ g S ds = some (d, S') ∧ Fin K ρ H d S' Q

section
variable {X : Cx} {K : PySem.W.Frag} {ρ ρ' : List Addr} {H H' : Hp} {S S' : Sto} {d : D} {Q : VK} {v : V} {xs : List D} {vs : List V} {e : Env} {σ : L2.St}
theorem Fin.ret (f : Fin K ρ H d S Q) (s : SR K ρ H S) (r : VR ρ H d v) : Q v H := f ρ H v .refl s r
theorem Fin.tup (f : Fin K ρ H (.tup xs) S Q) (s : SR K ρ H S) (r : VRs ρ H xs vs) : ∀ p, H p = none → Q (.ref p) (upd H p (.tup vs)) :=
  fun p hp => f ρ _ _ (Go.laid hp) (s.laid hp) (.tup upd_same (VRs.go (Go.laid hp) r))
theorem Fin.new {o : O} {u : HO} (f : Fin K ρ H (.ref S.length) (S ++ [o]) Q) (s : SR K ρ H S) (r : ∀ p, H p = none → OR K ρ (upd H p u) p o) : ∀ p, H p = none → Q (.ref p) (upd H p u) :=
  fun p hp => f (ρ ++ [p]) _ _ (Go.more hp) (s.more hp (r p hp)) (.ref (by rw [← s.len]; simp))
theorem Fin.lst (f : Fin K ρ H (.ref S.length) (S ++ [.lst xs]) Q) (s : SR K ρ H S) (r : VRs ρ H xs vs) : ∀ p, H p = none → Q (.ref p) (upd H p (.lst vs)) :=
  f.new s fun p hp => ⟨vs, upd_same, VRs.go (Go.laid hp) r⟩
theorem Fin.go (f : Fin K ρ H d S' Q) (g : Go ρ H ρ' H') : Fin K ρ' H' d S' Q := fun ρ2 H2 w g2 s2 r2 => f ρ2 H2 w (g.trans g2) s2 r2
theorem ER.go (h : ER ρ H e σ) (g : Go ρ H ρ' H') : ER ρ' H' e σ := ⟨h.1, fun i d q => by
  obtain ⟨v, e1, r⟩ := h.2 i d q
  exact ⟨v, e1, r.go g⟩⟩
theorem VRs.len : ∀ {xs : List D} {vs : List V}, VRs ρ H xs vs → xs.length = vs.length
  | _, _, .nil => rfl
  | _, _, .cons _ t => congrArg Nat.succ (VRs.len t)
theorem VRs.app : ∀ {xs : List D} {vs : List V} {ys : List D} {ws : List V}, VRs ρ H xs vs → VRs ρ H ys ws → VRs ρ H (xs ++ ys) (vs ++ ws)
  | _, _, _, _, .nil, t => t
  | _, _, _, _, .cons r s, t => .cons r (VRs.app s t)
theorem VRs.get : ∀ {xs : List D} {vs : List V} {i : Nat} {d : D}, VRs ρ H xs vs → xs[i]? = some d → ∃ v, vs[i]? = some v ∧ VR ρ H d v
  | _, _, _, _, .nil, e => by simp at e
  | _, _, 0, _, .cons r _, e => by simp at e; subst e; exact ⟨_, rfl, r⟩
  | _, _, i + 1, _, .cons _ t, e => by
    obtain ⟨v, h1, h2⟩ := VRs.get (i := i) t (by simpa using e)
    exact ⟨v, by simpa using h1, h2⟩
theorem VRs.get' : ∀ {xs : List D} {vs : List V} {i : Nat} {v : V}, VRs ρ H xs vs → vs[i]? = some v → ∃ d, xs[i]? = some d ∧ VR ρ H d v
  | _, _, _, _, .nil, e => by simp at e
  | _, _, 0, _, .cons r _, e => by simp at e; subst e; exact ⟨_, rfl, r⟩
  | _, _, i + 1, _, .cons _ t, e => by
    obtain ⟨v, h1, h2⟩ := VRs.get' (i := i) t (by simpa using e)
    exact ⟨v, by simpa using h1, h2⟩
theorem VRs.drop : ∀ {xs : List D} {vs : List V} (n : Nat), VRs ρ H xs vs → VRs ρ H (xs.drop n) (vs.drop n)
  | _, _, 0, r => r
  | _, _, _ + 1, .nil => .nil
  | _, _, n + 1, .cons _ t => VRs.drop n t
theorem VRs.take : ∀ {xs : List D} {vs : List V} (n : Nat), VRs ρ H xs vs → VRs ρ H (xs.take n) (vs.take n)
  | _, _, 0, _ => .nil
  | _, _, _ + 1, .nil => .nil
  | _, _, n + 1, .cons r t => .cons r (VRs.take n t)
theorem VRs.rev : ∀ {xs : List D} {vs : List V}, VRs ρ H xs vs → VRs ρ H xs.reverse vs.reverse
  | _, _, .nil => .nil
  | _, _, .cons r t => by rw [List.reverse_cons, List.reverse_cons]; exact VRs.app (VRs.rev t) (.cons r .nil)
theorem VRs.set {d : D} {v : V} (r : VR ρ H d v) : ∀ {xs : List D} {vs : List V} (n : Nat), VRs ρ H xs vs → VRs ρ H (xs.set n d) (vs.set n v)
  | _, _, _, .nil => .nil
  | _, _, 0, .cons _ t => .cons r t
  | _, _, n + 1, .cons q t => .cons q (VRs.set r n t)
theorem VRs.rep : ∀ (k : Nat) {xs : List D} {vs : List V}, VRs ρ H xs vs → VRs ρ H (List.replicate k xs).flatten (List.replicate k vs).flatten
  | 0, _, _, _ => .nil
  | k + 1, _, _, r => by simp only [List.replicate_succ, List.flatten_cons]; exact VRs.app r (VRs.rep k r)
theorem SR.lst {n : Nat} {a : Addr} (s : SR K ρ H S) (e : S[n]? = some (.lst xs)) (h : ρ[n]? = some a) : ∃ vs, H a = some (.lst vs) ∧ VRs ρ H xs vs := s.at_ n _ a e h
theorem ints_app : ∀ {xs : List D} {ns : List Int}, intsD xs = some ns → xs = ns.map .int
  | [], _, h => by cases h; rfl
  | .int i :: xs, ns, h => by
    simp only [intsD] at h
    cases e : intsD xs with
    | none => rw [e] at h; cases h
    | some l => rw [e] at h; cases h; rw [ints_app e]; rfl
  | .non :: _, _, h => by cases h
  | .bl _ :: _, _, h => by cases h
  | .str _ :: _, _, h => by cases h
  | .tup _ :: _, _, h => by cases h
  | .lst _ :: _, _, h => by cases h
  | .ref _ :: _, _, h => by cases h
  | .rep _ :: _, _, h => by cases h
theorem VRs.toInts : ∀ {ns : List Int} {vs : List V}, VRs ρ H (ns.map .int) vs → vs = ns.map V.int
  | [], _, h => by cases h; rfl
  | n :: ns, _, h => by
    cases h with
    | cons r t => cases r; rw [VRs.toInts t]; rfl
theorem VRs.ofInts : ∀ (ns : List Int), VRs ρ H (ns.map .int) (ns.map V.int)
  | [] => .nil
  | n :: ns => .cons (.int n) (VRs.ofInts ns)

/-! ### sequences of readings -/
theorem SE.imp {E : Expr} {x y : Env → Sto → RE} (h : SE X E x) (i : ∀ e S r, y e S = some r → x e S = some r) : SE X E y :=
  ⟨fun pins s σ H Q I q => h.run pins s σ H Q I (by
    obtain ⟨ρ, e, S, d, S', h1, h2, h3, h4⟩ := q
    exact ⟨ρ, e, S, d, S', h1, h2, i _ _ _ h3, h4⟩)⟩
theorem PE.imp {E : Expr} {t u : TE} (h : PE X E t) (i : ∀ σ H Q, u σ H Q → t σ H Q) : PE X E u := ⟨fun pins s σ H Q I q => h.run pins s σ H Q I (i σ H Q q)⟩
/-- two parts in a row, then an operation -/
theorem seq2 {xa xb : Env → Sto → RE} {g : Sto → D → D → RE} {Q : VK} (h : TEv K (fun e S => match xa e S with
    | none => none
    | some (a, S1) => match xb e S1 with
      | none => none
      | some (b, S2) => g S2 a b) σ H Q) : TEv K xa σ H fun x H1 => TEv K xb σ H1 fun y H2 => r2 K g x y H2 Q := by
  obtain ⟨ρ, e, S, d, S', h1, h2, h3, h4⟩ := h
  simp only at h3
  split at h3
  · cases h3
  · rename_i a S1 e1
    split at h3
    · cases h3
    · rename_i b S2 e2
      exact ⟨ρ, e, S, a, S1, h1, h2, e1, fun ρ1 H1 v1 g1 s1 q1 => ⟨ρ1, e, S1, b, S2, h1.go g1, s1, e2, fun ρ2 H2 v2 g2 s2 q2 => ⟨ρ2, S2, a, b, d, S', s2, q1.go g2, q2, h3, h4.go (g1.trans g2)⟩⟩⟩
theorem seq1 {xa : Env → Sto → RE} {g : Sto → D → RE} {Q : VK} (h : TEv K (fun e S => match xa e S with
    | none => none
    | some (a, S1) => g S1 a) σ H Q) : TEv K xa σ H fun x H1 => r1 K g x H1 Q := by
  obtain ⟨ρ, e, S, d, S', h1, h2, h3, h4⟩ := h
  simp only at h3
  split at h3
  · cases h3
  · rename_i a S1 e1
    exact ⟨ρ, e, S, a, S1, h1, h2, e1, fun ρ1 H1 v1 g1 s1 q1 => ⟨ρ1, S1, a, d, S', s1, q1, h3, h4.go g1⟩⟩
end

theorem sOf_app (a b : List Nat) : sOf (a ++ b) = sOf a ++ sOf b := by
  show sOf (a ++ b) = (⟨a.toArray ++ b.toArray⟩ : Str)
  simp [sOf]
/-! ### operators -/
section
variable {X : Cx}
def o2 : Op2 → Operator
  | .add => .Add | .sub => .Sub | .mul => .Mult | .fdiv => .FloorDiv | .mod => .Mod | .pow => .Pow | .shl => .LShift | .shr => .RShift | .band => .BitAnd | .bor => .BitOr | .bxor => .BitXor
theorem op_addN : OpR X (binaryOp .Add) (r2 X.K fun S a b => binI S .add a b) := by
  intro pins s σ H x y v u Q I rx ry h
  obtain ⟨ρ, S, da, db, d, S', hS, ra, rb, hr, k⟩ := h
  cases ra <;> cases rb <;> simp only [binI] at hr <;> try (cases hr; done)
  · rename_i i j
    cases hr
    exact op_add pins s σ H _ _ v u Q I rx ry ⟨i, j, rfl, rfl, k.ret hS (.int _)⟩
  · rename_i a b
    split at hr
    · cases hr
      exact op_add_str pins s σ H _ _ v u Q I rx ry ⟨_, _, rfl, rfl, by simpa [sOf, Str.length, sizeLine_eq] using ‹_›, by
        have q := k.ret hS (.str (a ++ b))
        rw [sOf_app] at q
        exact q⟩
    · cases hr
  · rename_i xs a vs ea rs ys b ws eb rt
    split at hr
    · rename_i hl
      cases hr
      refine op_catA pins s σ H _ _ v u Q I rx ry ⟨a, b, vs, ws, rfl, rfl, .of ea, .of eb, by rw [← rs.len, ← rt.len, sizeLine_eq]; exact hl, fun z => ?_, fun _ z => ?_, fun _ _ => k.tup hS (rs.app rt)⟩
      · subst z; cases rs; exact k.ret hS (.tup eb rt)
      · subst z; cases rt; exact k.ret hS (.tup ea (by simpa using rs))
    · cases hr
  · rename_i m a ea n b eb
    split at hr
    · rename_i xs ys e1 e2
      split at hr
      · rename_i hl
        obtain ⟨vs, q1, r1⟩ := hS.lst e1 ea
        obtain ⟨ws, q2, r2⟩ := hS.lst e2 eb
        cases hr
        exact op_cat pins s σ H _ _ v u Q I rx ry ⟨a, b, vs, ws, rfl, rfl, q1, q2, by rw [← r1.len, ← r2.len, sizeLine_eq]; exact hl, k.lst hS (r1.app r2)⟩
      · cases hr
    · cases hr
end
end N
set_option autoImplicit false
set_option Elab.async false
set_option linter.all false
set_option maxRecDepth 100000
set_option maxHeartbeats 4000000
namespace N
open PySem L2 PySem.Spec PyProof.Rows
section
variable {X : Cx}
theorem op_subN : OpR X (binaryOp .Sub) (r2 X.K fun S a b => binI S .sub a b) := by
  intro pins s σ H x y v u Q I rx ry h
  obtain ⟨ρ, S, da, db, d, S', hS, ra, rb, hr, k⟩ := h
  cases ra <;> cases rb <;> simp only [binI] at hr <;> try (cases hr; done)
  cases hr
  exact op_sub pins s σ H _ _ v u Q I rx ry ⟨_, _, rfl, rfl, k.ret hS (.int _)⟩
theorem op_fdivN : OpR X (binaryOp .FloorDiv) (r2 X.K fun S a b => binI S .fdiv a b) := by
  intro pins s σ H x y v u Q I rx ry h
  obtain ⟨ρ, S, da, db, d, S', hS, ra, rb, hr, k⟩ := h
  cases ra <;> cases rb <;> simp only [binI] at hr <;> try (cases hr; done)
  split at hr
  · rename_i c
    simp only [divOk, Bool.and_eq_true, decide_eq_true_eq] at c
    cases hr
    exact op_fdivW pins s σ H _ _ v u Q I rx ry ⟨_, _, rfl, rfl, c, k.ret hS (.int _)⟩
  · cases hr
theorem op_modN' : OpR X (binaryOp .Mod) (r2 X.K fun S a b => binI S .mod a b) := by
  intro pins s σ H x y v u Q I rx ry h
  obtain ⟨ρ, S, da, db, d, S', hS, ra, rb, hr, k⟩ := h
  cases ra <;> cases rb <;> simp only [binI] at hr <;> try (cases hr; done)
  split at hr
  · rename_i c
    simp only [decide_eq_true_eq] at c
    cases hr
    exact op_mod pins s σ H _ _ v u Q I rx ry ⟨_, _, rfl, rfl, c, k.ret hS (.int _)⟩
  · cases hr
theorem op_powN : OpR X (binaryOp .Pow) (r2 X.K fun S a b => binI S .pow a b) := by
  intro pins s σ H x y v u Q I rx ry h
  obtain ⟨ρ, S, da, db, d, S', hS, ra, rb, hr, k⟩ := h
  cases ra <;> cases rb <;> simp only [binI] at hr <;> try (cases hr; done)
  split at hr
  · rename_i c
    simp only [powOk, Bool.and_eq_true, decide_eq_true_eq] at c
    cases hr
    exact op_pow pins s σ H _ _ v u Q I rx ry ⟨_, _, rfl, rfl, ⟨c.1, c.2.1, c.2.2⟩, k.ret hS (.int _)⟩
  · cases hr
theorem op_shlN' : OpR X (binaryOp .LShift) (r2 X.K fun S a b => binI S .shl a b) := by
  intro pins s σ H x y v u Q I rx ry h
  obtain ⟨ρ, S, da, db, d, S', hS, ra, rb, hr, k⟩ := h
  cases ra <;> cases rb <;> simp only [binI] at hr <;> try (cases hr; done)
  split at hr
  · rename_i c
    simp only [powOk, Bool.and_eq_true, decide_eq_true_eq] at c
    cases hr
    exact op_shl pins s σ H _ _ v u Q I rx ry ⟨_, _, rfl, rfl, ⟨c.1, c.2.1, c.2.2⟩, k.ret hS (.int _)⟩
  · cases hr
theorem op_shrN' : OpR X (binaryOp .RShift) (r2 X.K fun S a b => binI S .shr a b) := by
  intro pins s σ H x y v u Q I rx ry h
  obtain ⟨ρ, S, da, db, d, S', hS, ra, rb, hr, k⟩ := h
  cases ra <;> cases rb <;> simp only [binI] at hr <;> try (cases hr; done)
  split at hr
  · rename_i c
    simp only [decide_eq_true_eq] at c
    cases hr
    exact op_shr pins s σ H _ _ v u Q I rx ry ⟨_, _, rfl, rfl, c, k.ret hS (.int _)⟩
  · cases hr
theorem xor_and_or : ∀ a b : Nat, (a ^^^ b) + (a &&& b) = a ||| b := by
  intro a
  induction a using Nat.strongRecOn with
  | _ a ih =>
    intro b
    by_cases h : a = 0
    · subst h; simp
    · have e := ih (a / 2) (by omega) (b / 2)
      have x1 := Nat.xor_div_two (a := a) (b := b)
      have x2 := Nat.and_div_two (a := a) (b := b)
      have x3 := Nat.or_div_two (a := a) (b := b)
      have m : ((a ^^^ b) % 2) + ((a &&& b) % 2) = (a ||| b) % 2 := by
        have y1 := Nat.xor_mod_two_pow (n := 1) (a := a) (b := b)
        have y2 := Nat.and_mod_two_pow (n := 1) (a := a) (b := b)
        have y3 := Nat.or_mod_two_pow (n := 1) (a := a) (b := b)
        simp only [Nat.pow_one] at y1 y2 y3
        rw [y1, y2, y3]
        rcases Nat.mod_two_eq_zero_or_one a with p | p <;> rcases Nat.mod_two_eq_zero_or_one b with r | r <;> rw [p, r] <;> decide
      rw [← x1, ← x2, ← x3] at e
      omega
theorem bitAnd_nn {i j : Int} (h1 : 0 ≤ i) (h2 : 0 ≤ j) : Builtin.bitAnd i j = ((i.toNat &&& j.toNat : Nat) : Int) := by
  unfold Builtin.bitAnd
  rw [decide_eq_true h1, decide_eq_true h2]
theorem bitNot_eq (i : Int) : Builtin.bitNot i = -i - 1 := by
  unfold Builtin.bitNot
  omega
theorem bitOr_nn {i j : Int} (h1 : 0 ≤ i) (h2 : 0 ≤ j) : Builtin.bitOr i j = ((i.toNat ||| j.toNat : Nat) : Int) := by
  unfold Builtin.bitOr Builtin.bitAnd
  rw [bitNot_eq i, bitNot_eq j, decide_eq_false (by omega), decide_eq_false (by omega)]
  simp only [bitNot_eq]
  have e1 : -(-i - 1) - 1 = i := by omega
  have e2 : -(-j - 1) - 1 = j := by omega
  rw [e1, e2]
  omega
theorem bitXor_nn {i j : Int} (h1 : 0 ≤ i) (h2 : 0 ≤ j) : Builtin.bitXor i j = ((i.toNat ^^^ j.toNat : Nat) : Int) := by
  unfold Builtin.bitXor
  rw [bitOr_nn h1 h2, bitAnd_nn h1 h2]
  have := xor_and_or i.toNat j.toNat
  omega
theorem op_bandN : OpR X (binaryOp .BitAnd) (r2 X.K fun S a b => binI S .band a b) := by
  intro pins s σ H x y v u Q I rx ry h
  obtain ⟨ρ, S, da, db, d, S', hS, ra, rb, hr, k⟩ := h
  cases ra <;> cases rb <;> simp only [binI] at hr <;> try (cases hr; done)
  split at hr
  · rename_i c
    simp only [Bool.and_eq_true, decide_eq_true_eq] at c
    cases hr
    exact op_and pins s σ H _ _ v u Q I rx ry ⟨_, _, rfl, rfl, by show Q (V.int (Builtin.bitAnd _ _)) H; rw [bitAnd_nn c.1 c.2]; exact k.ret hS (.int _)⟩
  · cases hr
theorem op_borN : OpR X (binaryOp .BitOr) (r2 X.K fun S a b => binI S .bor a b) := by
  intro pins s σ H x y v u Q I rx ry h
  obtain ⟨ρ, S, da, db, d, S', hS, ra, rb, hr, k⟩ := h
  cases ra <;> cases rb <;> simp only [binI] at hr <;> try (cases hr; done)
  split at hr
  · rename_i c
    simp only [Bool.and_eq_true, decide_eq_true_eq] at c
    cases hr
    exact op_or pins s σ H _ _ v u Q I rx ry ⟨_, _, rfl, rfl, by show Q (V.int (Builtin.bitOr _ _)) H; rw [bitOr_nn c.1 c.2]; exact k.ret hS (.int _)⟩
  · cases hr
theorem op_bxorN : OpR X (binaryOp .BitXor) (r2 X.K fun S a b => binI S .bxor a b) := by
  intro pins s σ H x y v u Q I rx ry h
  obtain ⟨ρ, S, da, db, d, S', hS, ra, rb, hr, k⟩ := h
  cases ra <;> cases rb <;> simp only [binI] at hr <;> try (cases hr; done)
  split at hr
  · rename_i c
    simp only [Bool.and_eq_true, decide_eq_true_eq] at c
    cases hr
    exact op_xor pins s σ H _ _ v u Q I rx ry ⟨_, _, rfl, rfl, by show Q (V.int (Builtin.bitXor _ _)) H; rw [bitXor_nn c.1 c.2]; exact k.ret hS (.int _)⟩
  · cases hr

/-! tuple * int where the tuple itself or the empty one is given -/
theorem tuple_mul_self (l : Addr) (items : Array Value) (n : Nat) (dd : Option Addr) (sl : Array (Option Value)) (x : Int) (u : Tok) (c0 : (decide (x < -(2 ^ 63)) || decide (x ≥ 2 ^ 63)) = false) (c1 : (items.isEmpty || x == 1) = true) :
    Meets (Builtin.«tuple.__mul__» ⟨[.ref l, .int x u], []⟩) (fun _ R s => s.heap.get? l = some { cls := .type "tuple", dict := dd, data := .seq items n, slots := sl } ∧ R (.ok (.ret (Value.ref l))) s) :=
  .of_wp fun prog w A R s h => by
    obtain ⟨hp, g, d, tk, os⟩ := s
    obtain ⟨hl, h⟩ := h
    have f1 := AutoSeq1.idx_int
    wp_walk using wpAny_loadPart' hl
    repeat (first
      | (refine wpAny_ite_false (decide_eq_false (by rw [c0]; exact Bool.false_ne_true)) ?_; wp_walk using wpAny_loadPart' hl)
      | (refine wpAny_ite_true (decide_eq_true c1) ?_; wp_walk using wpAny_loadPart' hl))
    exact ⟨_, rfl, h⟩
theorem tuple_mul_none (l : Addr) (items : Array Value) (n : Nat) (dd : Option Addr) (sl : Array (Option Value)) (x : Int) (u : Tok) (c0 : (decide (x < -(2 ^ 63)) || decide (x ≥ 2 ^ 63)) = false) (c1 : (items.isEmpty || x == 1) = false) (c2 : (decide (x ≤ 0) || items.isEmpty) = true) :
    Meets (Builtin.«tuple.__mul__» ⟨[.ref l, .int x u], []⟩) (fun _ R s => s.heap.get? l = some { cls := .type "tuple", dict := dd, data := .seq items n, slots := sl } ∧
      R (.ok (.ret (Value.ref s.heap.objs.size))) { s with heap := s.heap.push { cls := Value.type "tuple", data := Data.seq #[] }, toks := s.toks }) :=
  .of_wp fun prog w A R s h => by
    obtain ⟨hp, g, d, tk, os⟩ := s
    obtain ⟨hl, h⟩ := h
    have f1 := AutoSeq1.idx_int
    wp_walk using wpAny_loadPart' hl
    repeat (first
      | (refine wpAny_ite_false (decide_eq_false (by rw [c0]; exact Bool.false_ne_true)) ?_; wp_walk using wpAny_loadPart' hl)
      | (refine wpAny_ite_false (decide_eq_false (by rw [c1]; exact Bool.false_ne_true)) ?_; wp_walk using wpAny_loadPart' hl)
      | (refine wpAny_ite_true (decide_eq_true c2) ?_; wp_walk using wpAny_loadPart' hl))
    exact ⟨_, rfl, h⟩
theorem rep1 (xs : List D) : repL 1 xs = xs := by simp [repL]
theorem rep0 {k : Int} (h : k ≤ 0) (xs : List D) : repL k xs = [] := by
  have e : k.toNat = 0 := by omega
  simp [repL, e]
theorem repE (k : Int) : repL k [] = [] := by
  unfold repL
  induction k.toNat with
  | zero => rfl
  | succ n ih => simp [List.replicate_succ, ih]
theorem op_mulN : OpR X (binaryOp .Mult) (r2 X.K fun S a b => binI S .mul a b) := by
  intro pins s σ H x y v u Q I rx ry h
  obtain ⟨ρ, S, da, db, d, S', hS, ra, rb, hr, k⟩ := h
  cases ra <;> cases rb <;> simp only [binI] at hr <;> try (cases hr; done)
  · rename_i i j
    split at hr
    · rename_i c
      simp only [mulOk, Bool.or_eq_true, decide_eq_true_eq] at c
      cases hr
      rcases c with c | c | c
      · exact op_mul pins s σ H _ _ v u Q I rx ry ⟨i, j, rfl, rfl, .inl ⟨by omega, by omega⟩, k.ret hS (.int _)⟩
      · exact op_mul pins s σ H _ _ v u Q I rx ry ⟨i, j, rfl, rfl, .inr ⟨by omega, by omega⟩, k.ret hS (.int _)⟩
      · exact op_mulW pins s σ H _ _ v u Q I rx ry ⟨i, j, rfl, rfl, c, k.ret hS (.int _)⟩
    · cases hr
  · rename_i xs a vs ea rs m
    split at hr
    · rename_i c
      simp only [Bool.and_eq_true, decide_eq_true_eq] at c
      cases hr
      have hl := rs.len
      by_cases e1 : xs ≠ [] ∧ 2 ≤ m
      · have hne : vs ≠ [] := fun z => e1.1 (List.eq_nil_of_length_eq_zero (by rw [hl, z]; rfl))
        exact op_repT pins s σ H _ _ v u Q I rx ry ⟨a, m, vs, rfl, rfl, .of ea, hne, e1.2, c.2.2, by omega, k.tup hS (rs.rep m.toNat)⟩
      · cases rx
        obtain ⟨t, rfl⟩ := ry
        obtain ⟨its, r, ⟨⟨cls, dd, data, sl⟩, ho, hc, n, hd⟩, hs⟩ := I.tuple (SqT.of ea)
        simp only at hc hd
        subst hc hd
        have hle := r.length
        by_cases hm : -(2 ^ 63) ≤ m
        · have c0 : (decide (m < -(2 ^ 63)) || decide (m ≥ 2 ^ 63)) = false := by
            rw [decide_eq_false (by omega), decide_eq_false (by omega)] <;> rfl
          by_cases e2 : (its.toArray.isEmpty || m == 1) = true
          · refine wpAny_binaryOp_repeat_ref (T := "tuple") (U := "int") (by decide) ⟨_, ho, rfl⟩ (fun s' => typeIs_int s' m t) noFill_tuple_mul F.fills_int_mul F.slot_int_rmul repeat_tuple F.slot_int_index.lookup
              (call_meets F.slot_int_rmul (typeIs_int s m t) F.entry_int_rmul (F.args_int_rmul_2 _ _) (int_rmul_tuple m t a its.toArray n dd sl)
                ⟨ho, rfl, ⟨_, ho, rfl⟩, call_meets F.slot_tuple_mul ⟨_, ho, rfl⟩ F.entry_tuple_mul (F.args_tuple_mul_2 _ _) (tuple_mul_self a its.toArray n dd sl m t c0 e2) ⟨ho, ?_⟩⟩)
            refine ⟨.ref a, H, I, rfl, k.ret hS ?_⟩
            rw [Bool.or_eq_true] at e2
            rcases e2 with e2 | e2
            · have : its = [] := by simpa using e2
              subst this
              have hv : vs = [] := List.eq_nil_of_length_eq_zero (by simpa using hle)
              subst hv
              cases rs
              rw [repE]
              exact .tup ea .nil
            · have : m = 1 := by simpa using e2
              subst this
              rw [rep1]
              exact .tup ea rs
          · have e2' : (its.toArray.isEmpty || m == 1) = false := by simpa using e2
            have hm0 : m ≤ 0 := by
              rw [Bool.or_eq_false_iff] at e2'
              have h1 : m ≠ 1 := by simpa using e2'.2
              by_cases h2 : 2 ≤ m
              · exact absurd ⟨fun z => by
                  subst z
                  cases rs
                  have : its = [] := List.eq_nil_of_length_eq_zero (by simpa using hle.symm)
                  subst this
                  simp at e2', h2⟩ e1
              · omega
            have c2 : (decide (m ≤ 0) || its.toArray.isEmpty) = true := by rw [decide_eq_true hm0]; rfl
            refine wpAny_binaryOp_repeat_ref (T := "tuple") (U := "int") (by decide) ⟨_, ho, rfl⟩ (fun s' => typeIs_int s' m t) noFill_tuple_mul F.fills_int_mul F.slot_int_rmul repeat_tuple F.slot_int_index.lookup
              (call_meets F.slot_int_rmul (typeIs_int s m t) F.entry_int_rmul (F.args_int_rmul_2 _ _) (int_rmul_tuple m t a its.toArray n dd sl)
                ⟨ho, rfl, ⟨_, ho, rfl⟩, call_meets F.slot_tuple_mul ⟨_, ho, rfl⟩ F.entry_tuple_mul (F.args_tuple_mul_2 _ _) (tuple_mul_none a its.toArray n dd sl m t c0 e2' c2) ⟨ho, ?_⟩⟩)
            rw [rep0 hm0] at k
            refine ⟨.ref s.heap.objs.size, _, I.laid (t' := s.toks) (o := .tup []) (fun b ob q => Heap.get?_push_of_some _ q) (Nat.le_refl _) ?_, rfl, k.tup hS .nil _ (I.hok.fresh (Nat.le_refl _))⟩
            exact ⟨Nat.zero_le _, [], .nil, IsTup.new _ _⟩
        · exact absurd (by omega) hm
    · cases hr
  · rename_i n a ea m
    split at hr
    · rename_i xs e1
      split at hr
      · rename_i c
        simp only [Bool.and_eq_true, decide_eq_true_eq] at c
        obtain ⟨vs, q1, r1⟩ := hS.lst e1 ea
        cases hr
        exact op_rep pins s σ H _ _ v u Q I rx ry ⟨a, m, vs, rfl, rfl, q1, by omega, by omega, by rw [← r1.len, sizeLine_eq]; exact c.2.2, k.lst hS (r1.rep m.toNat)⟩
      · cases hr
    · cases hr
theorem op_binN (op : Op2) : OpR X (binaryOp (o2 op)) (r2 X.K fun S a b => binI S op a b) := by
  cases op
  · exact op_addN
  · exact op_subN
  · exact op_mulN
  · exact op_fdivN
  · exact op_modN'
  · exact op_powN
  · exact op_shlN'
  · exact op_shrN'
  · exact op_bandN
  · exact op_borN
  · exact op_bxorN
theorem se_bin {op : Op2} {a b : Expr} {xa xb : Env → Sto → RE} {pos : Pos} (ha : SE X a xa) (hb : SE X b xb) : SE X (.BinOp a (o2 op) b pos) (fun e S => match xa e S with
    | none => none
    | some (x, S1) => match xb e S1 with
      | none => none
      | some (y, S2) => binI S2 op x y) := PE.imp (pe_op (op_binN op) ha hb) fun _ _ _ h => seq2 h
end
end N
set_option autoImplicit false
set_option Elab.async false
set_option linter.all false
set_option maxRecDepth 100000
set_option maxHeartbeats 4000000
namespace N
open PySem L2 PySem.Spec PyProof.Rows
/-! ### trees -/
mutual
def D.real : D → Bool
  | .ref _ => false
  | .rep _ => false
  | .tup xs => D.reals xs
  | .lst xs => D.reals xs
  | _ => true
def D.reals : List D → Bool
  | [] => true
  | x :: xs => D.real x && D.reals xs
end
theorem mapO_some {α β : Type} {f : α → Option β} {x : α} {xs : List α} {ts : List β} (h : mapO f (x :: xs) = some ts) : ∃ y ys, f x = some y ∧ mapO f xs = some ys ∧ ts = y :: ys := by
  unfold mapO at h
  split at h
  · cases h
  · rename_i y e
    split at h
    · cases h
    · rename_i ys e2
      cases h
      exact ⟨y, ys, e, e2, rfl⟩
theorem toPys_real : ∀ (n : Nat) (S : Sto) (d t : D), rd n S d = some t → D.real t = true ∧ (toPy t).depth ≤ n
  | _, _, .non, t, h => by simp only [rd] at h; cases h; exact ⟨rfl, Nat.zero_le _⟩
  | _, _, .bl b, t, h => by simp only [rd] at h; cases h; exact ⟨rfl, Nat.zero_le _⟩
  | _, _, .int b, t, h => by simp only [rd] at h; cases h; exact ⟨rfl, Nat.zero_le _⟩
  | _, _, .str b, t, h => by simp only [rd] at h; cases h; exact ⟨rfl, Nat.zero_le _⟩
  | 0, _, .tup xs, t, h => by simp only [rd] at h; cases h
  | 0, _, .ref a, t, h => by simp only [rd] at h; cases h
  | n + 1, S, .tup xs, t, h => by
    simp only [rd] at h
    obtain ⟨ts, e, rfl⟩ := Option.map_eq_some_iff.mp h
    have q : ∀ (xs ts : List D), mapO (rd n S) xs = some ts → D.reals ts = true ∧ PyData.depthAll (toPys ts) ≤ n := by
      intro xs
      induction xs with
      | nil => intro ts h; simp only [mapO] at h; cases h; exact ⟨rfl, Nat.zero_le _⟩
      | cons x xs ih =>
        intro ts h
        obtain ⟨y, ys, e1, e2, rfl⟩ := mapO_some h
        obtain ⟨a1, a2⟩ := toPys_real n S x y e1
        obtain ⟨b1, b2⟩ := ih ys e2
        exact ⟨by simp [D.reals, a1, b1], Nat.max_le.mpr ⟨a2, b2⟩⟩
    obtain ⟨a, b⟩ := q xs ts e
    exact ⟨a, Nat.succ_le_succ b⟩
  | n + 1, S, .ref a, t, h => by
    simp only [rd] at h
    split at h
    · rename_i xs _
      obtain ⟨ts, e, rfl⟩ := Option.map_eq_some_iff.mp h
      have q : ∀ (xs ts : List D), mapO (rd n S) xs = some ts → D.reals ts = true ∧ PyData.depthAll (toPys ts) ≤ n := by
        intro xs
        induction xs with
        | nil => intro ts h; simp only [mapO] at h; cases h; exact ⟨rfl, Nat.zero_le _⟩
        | cons x xs ih =>
          intro ts h
          obtain ⟨y, ys, e1, e2, rfl⟩ := mapO_some h
          obtain ⟨a1, a2⟩ := toPys_real n S x y e1
          obtain ⟨b1, b2⟩ := ih ys e2
          exact ⟨by simp [D.reals, a1, b1], Nat.max_le.mpr ⟨a2, b2⟩⟩
      obtain ⟨a, b⟩ := q xs ts e
      exact ⟨a, Nat.succ_le_succ b⟩
    · rename_i xs _
      obtain ⟨ts, e, rfl⟩ := Option.map_eq_some_iff.mp h
      have q : ∀ (xs ts : List D), mapO (rd n S) xs = some ts → D.reals ts = true ∧ PyData.depthAll (toPys ts) ≤ n := by
        intro xs
        induction xs with
        | nil => intro ts h; simp only [mapO] at h; cases h; exact ⟨rfl, Nat.zero_le _⟩
        | cons x xs ih =>
          intro ts h
          obtain ⟨y, ys, e1, e2, rfl⟩ := mapO_some h
          obtain ⟨a1, a2⟩ := toPys_real n S x y e1
          obtain ⟨b1, b2⟩ := ih ys e2
          exact ⟨by simp [D.reals, a1, b1], Nat.max_le.mpr ⟨a2, b2⟩⟩
      obtain ⟨a, b⟩ := q xs ts e
      exact ⟨a, Nat.succ_le_succ b⟩
    · cases h
  | 0, _, .lst _, t, h => by simp only [rd] at h; cases h
  | n + 1, _, .lst _, t, h => by simp only [rd] at h; cases h
  | 0, _, .rep _, t, h => by simp only [rd] at h; cases h
  | n + 1, _, .rep _, t, h => by simp only [rd] at h; cases h
section
variable {X : Cx} {K : PySem.W.Frag} {ρ : List Addr} {H : Hp} {S : Sto}
theorem rd_dp (s : SR K ρ H S) : ∀ (n : Nat) (d t : D) (v : V), VR ρ H d v → rd n S d = some t → Dp K H v (toPy t)
  | _, .non, t, v, r, h => by simp only [rd] at h; cases h; cases r; exact .non
  | _, .bl b, t, v, r, h => by simp only [rd] at h; cases h; cases r; exact .bl b
  | _, .int b, t, v, r, h => by simp only [rd] at h; cases h; cases r; exact .int b
  | _, .str b, t, v, r, h => by simp only [rd] at h; cases h; cases r; exact .str _
  | 0, .tup xs, t, v, r, h => by simp only [rd] at h; cases h
  | 0, .ref a, t, v, r, h => by simp only [rd] at h; cases h
  | n + 1, .tup xs, t, v, r, h => by
    simp only [rd] at h
    obtain ⟨ts, e, rfl⟩ := Option.map_eq_some_iff.mp h
    cases r with
    | tup ea rs =>
      have q : ∀ (xs ts : List D) (vs : List V), VRs ρ H xs vs → mapO (rd n S) xs = some ts → DpAll K H vs (toPys ts) := by
        intro xs
        induction xs with
        | nil => intro ts vs r h; simp only [mapO] at h; cases h; cases r; exact .nil
        | cons x xs ih =>
          intro ts vs r h
          obtain ⟨y, ys, e1, e2, rfl⟩ := mapO_some h
          cases r with
          | cons r1 r2 => exact .cons (rd_dp s n x y _ r1 e1) (ih ys _ r2 e2)
      exact .tup (.of ea) (q xs ts _ rs e)
  | n + 1, .ref a, t, v, r, h => by
    simp only [rd] at h
    split at h
    · rename_i xs e0
      obtain ⟨ts, e, rfl⟩ := Option.map_eq_some_iff.mp h
      cases r with
      | ref ea =>
        obtain ⟨vs, e1, rs⟩ := s.lst e0 ea
        have q : ∀ (xs ts : List D) (vs : List V), VRs ρ H xs vs → mapO (rd n S) xs = some ts → DpAll K H vs (toPys ts) := by
          intro xs
          induction xs with
          | nil => intro ts vs r h; simp only [mapO] at h; cases h; cases r; exact .nil
          | cons x xs ih =>
            intro ts vs r h
            obtain ⟨y, ys, e1, e2, rfl⟩ := mapO_some h
            cases r with
            | cons r1 r2 => exact .cons (rd_dp s n x y _ r1 e1) (ih ys _ r2 e2)
        exact .lst (.of e1) (q xs ts _ rs e)
    · rename_i xs e0
      obtain ⟨ts, e, rfl⟩ := Option.map_eq_some_iff.mp h
      cases r with
      | ref ea =>
        obtain ⟨o, vs, e1, _, _, rs⟩ := s.at_ _ _ _ e0 ea
        have q : ∀ (xs ts : List D) (vs : List V), VRs ρ H xs vs → mapO (rd n S) xs = some ts → DpAll K H vs (toPys ts) := by
          intro xs
          induction xs with
          | nil => intro ts vs r h; simp only [mapO] at h; cases h; cases r; exact .nil
          | cons x xs ih =>
            intro ts vs r h
            obtain ⟨y, ys, e1, e2, rfl⟩ := mapO_some h
            cases r with
            | cons r1 r2 => exact .cons (rd_dp s n x y _ r1 e1) (ih ys _ r2 e2)
        exact .tup (.inl (.inr ⟨o, e1⟩)) (q xs ts _ rs e)
    · cases h
  | 0, .lst _, t, v, r, h => by simp only [rd] at h; cases h
  | n + 1, .lst _, t, v, r, h => by simp only [rd] at h; cases h
  | 0, .rep _, t, v, r, h => by simp only [rd] at h; cases h
  | n + 1, .rep _, t, v, r, h => by simp only [rd] at h; cases h
end
theorem sOf_eq {a b : List Nat} : (sOf a == sOf b) = decide (a = b) := by
  by_cases h : a = b
  · subst h; simp
  · have h2 : sOf a ≠ sOf b := fun z => h (by
      have : (sOf a).cps.toList = (sOf b).cps.toList := by rw [z]
      simpa [sOf] using this)
    rw [beq_eq_false_iff_ne.mpr h2, decide_eq_false h]
mutual
theorem canLay_py : ∀ t : D, D.okS t = true → (toPy t).canLay0 = true
  | .non, _ => rfl
  | .bl _, _ => rfl
  | .int _, _ => rfl
  | .str s, h => by
    show PyData.strOk (sOf s) = true
    have h' : (s.all fun c => decide (c < 55296)) = true := h
    unfold PyData.strOk sOf
    simp only [List.all_toArray', List.all_eq_true, decide_eq_true_eq] at h' ⊢
    intro c hc
    have := h' c hc
    omega
  | .tup xs, h => canLays_py xs h
  | .lst xs, h => canLays_py xs h
  | .ref _, _ => rfl
  | .rep _, _ => rfl
theorem canLays_py : ∀ ts : List D, D.okSs ts = true → PyData.canLayAll0 (toPys ts) = true
  | [], _ => rfl
  | x :: xs, h => by
    have h' := Bool.and_eq_true_iff.mp (show (D.okS x && D.okSs xs) = true from h)
    show ((toPy x).canLay0 && PyData.canLayAll0 (toPys xs)) = true
    rw [canLay_py x h'.1, canLays_py xs h'.2] <;> rfl
end
theorem shaped_py {n : Nat} {S : Sto} {d t : D} (h : rd n S d = some t) (hn : n ≤ 64) (ok : D.okS t = true) : SeqAt.shaped (toPy t) = true := by
  have h1 := (toPys_real n S d t h).2
  show ((toPy t).canLay0 && decide ((toPy t).depth ≤ 64)) = true
  rw [canLay_py t ok, decide_eq_true (by omega)] <;> rfl
mutual
theorem pyeq_eqv : ∀ a b : D, D.real a = true → D.real b = true → D.pyeq a b = PyData.eqv (toPy a) (toPy b)
  | .non, b, _, hb => by cases b <;> first | rfl | cases hb
  | .bl x, b, _, hb => by
    cases b <;> first | rfl | (cases hb; done)
  | .int x, b, _, hb => by
    cases b <;> first | rfl | (cases hb; done) | skip
  | .str x, b, _, hb => by
    cases b <;> first | rfl | (cases hb; done) | skip
    rename_i y
    show decide (x = y) = (sOf x == sOf y)
    rw [sOf_eq]
  | .tup x, b, ha, hb => by
    cases b <;> first | rfl | (cases hb; done) | skip
    rename_i y
    exact pyeqs_eqv x y ha hb
  | .lst x, b, ha, hb => by
    cases b <;> first | rfl | (cases hb; done) | skip
    rename_i y
    exact pyeqs_eqv x y ha hb
  | .ref _, _, h, _ => by cases h
  | .rep _, _, h, _ => by cases h
theorem pyeqs_eqv : ∀ a b : List D, D.reals a = true → D.reals b = true → D.pyeqs a b = PyData.eqvAll (toPys a) (toPys b)
  | [], [], _, _ => rfl
  | [], _ :: _, _, _ => rfl
  | _ :: _, [], _, _ => rfl
  | x :: xs, y :: ys, ha, hb => by
    have h1 := Bool.and_eq_true_iff.mp (show (D.real x && D.reals xs) = true from ha)
    have h2 := Bool.and_eq_true_iff.mp (show (D.real y && D.reals ys) = true from hb)
    show (D.pyeq x y && D.pyeqs xs ys) = (PyData.eqv (toPy x) (toPy y) && PyData.eqvAll (toPys xs) (toPys ys))
    rw [pyeq_eqv x y h1.1 h2.1, pyeqs_eqv xs ys h1.2 h2.2]
end
end N
set_option autoImplicit false
set_option Elab.async false
set_option linter.all false
set_option maxRecDepth 100000
set_option maxHeartbeats 4000000
namespace N
open PySem L2 PySem.Spec PyProof.Rows
def oc : Cmp → CmpOp
  | .eq => .Eq | .ne => .NotEq | .lt => .Lt | .le => .LtE | .gt => .Gt | .ge => .GtE | .is => .Is | .isnt => .IsNot | .inn => .In | .nin => .NotIn
def cmpR (S : Sto) (o : Cmp) (a b : D) : RE := (cmpI S o a b).map fun c => (.bl c, S)
theorem cmpR_some {S S' : Sto} {o : Cmp} {a b d : D} (h : cmpR S o a b = some (d, S')) : ∃ c, cmpI S o a b = some c ∧ d = .bl c ∧ S' = S := by
  obtain ⟨c, e, q⟩ := Option.map_eq_some_iff.mp h
  cases q
  exact ⟨c, e, rfl, rfl⟩
section
variable {X : Cx}
/-- == by the tree rules -/
theorem eq_rd {S : Sto} {a b : D} {x y : D} {c : Bool} {K : PySem.W.Frag} {ρ : List Addr} {H : Hp} {v u : V} (s : SR K ρ H S) (ra : VR ρ H a v) (rb : VR ρ H b u) (e1 : rd RD S a = some x) (e2 : rd RD S b = some y) (ok : (D.okS x && D.okS y) = true) (ec : D.pyeq x y = c) :
    ∃ d e, Dp K H v d ∧ Dp K H u e ∧ SeqAt.shaped d = true ∧ SeqAt.shaped e = true ∧ PyData.eqv d e = c := by
  have k := Bool.and_eq_true_iff.mp ok
  exact ⟨_, _, rd_dp s RD a x v ra e1, rd_dp s RD b y u rb e2, shaped_py e1 (by decide) k.1, shaped_py e2 (by decide) k.2, by rw [← pyeq_eqv x y (toPys_real _ _ _ _ e1).1 (toPys_real _ _ _ _ e2).1]; exact ec⟩
/-- what == says, either by the scalars' rule or by the trees' -/
theorem eqV_says {S : Sto} {a b : D} {c : Bool} {K : PySem.W.Frag} {ρ : List Addr} {H : Hp} {v u : V} (s : SR K ρ H S) (ra : VR ρ H a v) (rb : VR ρ H b u) (h : eqV S a b = some c) :
    (scal v u = true ∧ decide (v = u) = c) ∨ ∃ d e, Dp K H v d ∧ Dp K H u e ∧ SeqAt.shaped d = true ∧ SeqAt.shaped e = true ∧ PyData.eqv d e = c := by
  unfold eqV at h
  split at h
  · cases ra; cases rb; cases h
    refine .inl ⟨rfl, ?_⟩
    rename_i i j
    by_cases e : i = j
    · subst e; simp
    · rw [decide_eq_false e, decide_eq_false (fun q => e (V.int.inj q))]
  · cases ra; cases rb; cases h
    refine .inl ⟨rfl, ?_⟩
    rename_i i j
    by_cases e : i = j
    · subst e; simp
    · have : sOf i ≠ sOf j := fun z => by
        have q := sOf_eq (a := i) (b := j)
        rw [z, decide_eq_false e] at q
        simp at q
      rw [decide_eq_false e, decide_eq_false (fun q => this (V.str.inj q))]
  · cases ra; cases rb; cases h
    refine .inl ⟨rfl, ?_⟩
    rename_i i j
    by_cases e : i = j
    · subst e; simp
    · rw [decide_eq_false e, decide_eq_false (fun q => e (V.bl.inj q))]
  · cases ra; cases rb; cases h
    exact .inl ⟨rfl, by simp⟩
  · cases ra; cases rb
    split at h
    · rename_i x y e
      cases h
      rw [D.eqv_iff] at e
      subst e
      exact .inl ⟨rfl, by simp⟩
    · cases h
  · split at h
    · rename_i x y e1 e2
      split at h
      · rename_i ok
        cases h
        exact .inr (eq_rd s ra rb e1 e2 ok rfl)
      · cases h
    · cases h
theorem op_eqN (hu : X.A.units + 64 < cLine) : OpR X (compareOp .Eq) (r2 X.K fun S a b => cmpR S .eq a b) := by
  intro pins s σ H x y v u Q I rx ry h
  obtain ⟨ρ, S, da, db, d, S', hS, ra, rb, hr, k⟩ := h
  obtain ⟨c, hc, rfl, rfl⟩ := cmpR_some hr
  rcases eqV_says hS ra rb hc with ⟨e1, e2⟩ | ⟨d, e, h1, h2, h3, h4, h5⟩
  · exact op_eq pins s σ H _ _ v u Q I rx ry ⟨e1, by rw [e2]; exact k.ret hS (.bl c)⟩
  · exact op_eqD hu pins s σ H _ _ v u Q I rx ry ⟨d, e, h1, h2, h3, h4, by rw [h5]; exact k.ret hS (.bl c)⟩
theorem op_neN (hu : X.A.units + 64 < cLine) : OpR X (compareOp .NotEq) (r2 X.K fun S a b => cmpR S .ne a b) := by
  intro pins s σ H x y v u Q I rx ry h
  obtain ⟨ρ, S, da, db, d, S', hS, ra, rb, hr, k⟩ := h
  obtain ⟨c, hc, rfl, rfl⟩ := cmpR_some hr
  obtain ⟨c', hc', rfl⟩ := Option.map_eq_some_iff.mp (show (eqV _ da db).map (!·) = some c from hc)
  rcases eqV_says hS ra rb hc' with ⟨e1, e2⟩ | ⟨d, e, h1, h2, h3, h4, h5⟩
  · exact op_ne pins s σ H _ _ v u Q I rx ry ⟨e1, by rw [e2]; exact k.ret hS (.bl _)⟩
  · exact op_neD hu pins s σ H _ _ v u Q I rx ry ⟨d, e, h1, h2, h3, h4, by rw [h5]; exact k.ret hS (.bl _)⟩
theorem op_ltN : OpR X (compareOp .Lt) (r2 X.K fun S a b => cmpR S .lt a b) := by
  intro pins s σ H x y v u Q I rx ry h
  obtain ⟨ρ, S, da, db, d, S', hS, ra, rb, hr, k⟩ := h
  obtain ⟨c, hc, rfl, rfl⟩ := cmpR_some hr
  cases ra <;> cases rb <;> simp only [cmpI] at hc <;> try (cases hc; done)
  cases hc
  exact op_lt pins s σ H _ _ v u Q I rx ry ⟨_, _, rfl, rfl, k.ret hS (.bl _)⟩
theorem op_leN : OpR X (compareOp .LtE) (r2 X.K fun S a b => cmpR S .le a b) := by
  intro pins s σ H x y v u Q I rx ry h
  obtain ⟨ρ, S, da, db, d, S', hS, ra, rb, hr, k⟩ := h
  obtain ⟨c, hc, rfl, rfl⟩ := cmpR_some hr
  cases ra <;> cases rb <;> simp only [cmpI] at hc <;> try (cases hc; done)
  cases hc
  exact op_le pins s σ H _ _ v u Q I rx ry ⟨_, _, rfl, rfl, k.ret hS (.bl _)⟩
theorem op_gtN : OpR X (compareOp .Gt) (r2 X.K fun S a b => cmpR S .gt a b) := by
  intro pins s σ H x y v u Q I rx ry h
  obtain ⟨ρ, S, da, db, d, S', hS, ra, rb, hr, k⟩ := h
  obtain ⟨c, hc, rfl, rfl⟩ := cmpR_some hr
  cases ra <;> cases rb <;> simp only [cmpI] at hc <;> try (cases hc; done)
  cases hc
  exact op_gt pins s σ H _ _ v u Q I rx ry ⟨_, _, rfl, rfl, k.ret hS (.bl _)⟩
theorem op_geN : OpR X (compareOp .GtE) (r2 X.K fun S a b => cmpR S .ge a b) := by
  intro pins s σ H x y v u Q I rx ry h
  obtain ⟨ρ, S, da, db, d, S', hS, ra, rb, hr, k⟩ := h
  obtain ⟨c, hc, rfl, rfl⟩ := cmpR_some hr
  cases ra <;> cases rb <;> simp only [cmpI] at hc <;> try (cases hc; done)
  cases hc
  exact op_ge pins s σ H _ _ v u Q I rx ry ⟨_, _, rfl, rfl, k.ret hS (.bl _)⟩
theorem VR.isNon {ρ : List Addr} {H : Hp} {d : D} {v : V} (r : VR ρ H d v) : decide (v = V.non) = decide (d = D.non) := by
  cases r <;> rfl
theorem op_isN' : OpR X (compareOp .Is) (r2 X.K fun S a b => cmpR S .is a b) := by
  intro pins s σ H x y v u Q I rx ry h
  obtain ⟨ρ, S, da, db, d, S', hS, ra, rb, hr, k⟩ := h
  obtain ⟨c, hc, rfl, rfl⟩ := cmpR_some hr
  cases rb with
  | non =>
    simp only [cmpI] at hc
    cases hc
    exact op_isN pins s σ H _ _ v u Q I rx ry ⟨rfl, by rw [ra.isNon]; exact k.ret hS (.bl _)⟩
  | bl b =>
    cases ra <;> simp only [cmpI] at hc <;> try (cases hc; done)
    cases hc
    exact op_isBl pins s σ H _ _ v u Q I rx ry ⟨_, _, rfl, rfl, k.ret hS (.bl _)⟩
  | _ => cases ra <;> simp only [cmpI] at hc <;> cases hc
theorem op_isntN : OpR X (compareOp .IsNot) (r2 X.K fun S a b => cmpR S .isnt a b) := by
  intro pins s σ H x y v u Q I rx ry h
  obtain ⟨ρ, S, da, db, d, S', hS, ra, rb, hr, k⟩ := h
  obtain ⟨c, hc, rfl, rfl⟩ := cmpR_some hr
  cases rb with
  | non =>
    simp only [cmpI] at hc
    cases hc
    exact op_notN pins s σ H _ _ v u Q I rx ry ⟨rfl, by rw [ra.isNon]; exact k.ret hS (.bl _)⟩
  | bl b =>
    cases ra <;> simp only [cmpI] at hc <;> try (cases hc; done)
    cases hc
    exact op_notBl pins s σ H _ _ v u Q I rx ry ⟨_, _, rfl, rfl, k.ret hS (.bl _)⟩
  | _ => cases ra <;> simp only [cmpI] at hc <;> cases hc

/-! ### dicts: keys, values -/
theorem kD_inj {a b : Key} (h : kD a = kD b) : a = b := by
  cases a <;> cases b <;> simp only [kD] at h
  · rw [D.int.inj h]
  · cases h
  · cases h
  · rename_i x y
    have q := D.str.inj h
    obtain ⟨⟨x⟩⟩ := x
    obtain ⟨⟨y⟩⟩ := y
    have : x = y := by simpa using q
    rw [this]
theorem kDs_inj : ∀ {a b : List Key}, a.map kD = b.map kD → a = b
  | [], [], _ => rfl
  | [], _ :: _, h => by cases h
  | _ :: _, [], h => by cases h
  | x :: xs, y :: ys, h => by
    simp only [List.map_cons, List.cons.injEq] at h
    rw [kD_inj h.1, kDs_inj h.2]
theorem keyK_kD {d : D} (h : keyK d = true) : ∃ k, d = kD k := by
  cases d <;> simp only [keyK] at h <;> try (cases h; done)
  · exact ⟨.inl _, rfl⟩
  · rename_i s; exact ⟨.inr (sOf s), by simp [kD, sOf]⟩
theorem keyK_of (k : Key) : keyK (kD k) = true := by cases k <;> rfl
theorem keyT_kD {d : D} (h : keyT d = true) : ∃ ks : List Key, d = .tup (ks.map kD) := by
  cases d <;> simp only [keyT] at h <;> try (cases h; done)
  rename_i xs
  have : ∀ xs : List D, xs.all keyK = true → ∃ ks : List Key, xs = ks.map kD := by
    intro xs
    induction xs with
    | nil => intro _; exact ⟨[], rfl⟩
    | cons x xs ih =>
      intro h
      have h' := Bool.and_eq_true_iff.mp (show (keyK x && xs.all keyK) = true from h)
      obtain ⟨k, rfl⟩ := keyK_kD h'.1
      obtain ⟨ks, rfl⟩ := ih h'.2
      exact ⟨k :: ks, rfl⟩
  obtain ⟨ks, rfl⟩ := this xs h
  exact ⟨ks, rfl⟩
theorem keyK_tup (ks : List Key) : keyK (.tup (ks.map kD)) = false := rfl
theorem keyT_kD' (k : Key) : keyT (kD k) = false := by cases k <;> rfl
section
variable {K : PySem.W.Frag} {ρ ρ' : List Addr} {H H' : Hp}
theorem VR.key {k : Key} {v : V} (r : VR ρ H (kD k) v) : v = kV k := by
  cases k with
  | inl i => cases r; rfl
  | inr x =>
    have r' : VR ρ H (.str x.cps.toList) v := r
    cases r'
    obtain ⟨⟨x⟩⟩ := x
    rfl
theorem VR.keyOf (k : Key) : VR ρ H (kD k) (kV k) := by
  cases k with
  | inl i => exact .int i
  | inr x =>
    have : VR ρ H (.str x.cps.toList) (.str (sOf x.cps.toList)) := .str _
    obtain ⟨⟨x⟩⟩ := x
    exact this
theorem VRs.keys : ∀ {ks : List Key} {vs : List V}, VRs ρ H (ks.map kD) vs → vs = ks.map kV
  | [], _, h => by cases h; rfl
  | k :: ks, _, h => by
    cases h with
    | cons r t => rw [r.key, VRs.keys t]; rfl
theorem eqv_kD (a b : Key) : D.eqv (kD a) (kD b) = decide (a = b) := by
  by_cases h : a = b
  · subst h; rw [decide_eq_true rfl]; exact (D.eqv_iff _ _).mpr rfl
  · rw [decide_eq_false h]
    cases q : D.eqv (kD a) (kD b) with
    | false => rfl
    | true => exact absurd (kD_inj ((D.eqv_iff _ _).mp q)) h
theorem eqv_kDs (a b : List Key) : D.eqv (.tup (a.map kD)) (.tup (b.map kD)) = decide (a = b) := by
  by_cases h : a = b
  · subst h; rw [decide_eq_true rfl]; exact (D.eqv_iff _ _).mpr rfl
  · rw [decide_eq_false h]
    cases q : D.eqv (.tup (a.map kD)) (.tup (b.map kD)) with
    | false => rfl
    | true => exact absurd (kDs_inj (D.tup.inj ((D.eqv_iff _ _).mp q))) h
def oR (ρ : List Addr) (H : Hp) : Option D → Option V → Prop
  | some d, some v => VR ρ H d v
  | none, none => True
  | _, _ => False
theorem kR.get (k : Key) : ∀ {ps : List (D × D)} {qs : List (Key × V)}, kR ρ H ps qs → oR ρ H (dget ps (kD k)) (valV qs k)
  | [], [], _ => trivial
  | p :: ps, q :: qs, h => by
    have ih := kR.get k h.2.2
    unfold dget valV at *
    rw [List.find?_cons, List.find?_cons, h.1, eqv_kD]
    by_cases e : q.1 = k
    · rw [decide_eq_true e]; exact h.2.1
    · rw [decide_eq_false e]; exact ih
theorem tR.get (k : List Key) : ∀ {ps : List (D × D)} {qs : List (List Key × V)}, tR ρ H ps qs → oR ρ H (dget ps (.tup (k.map kD))) (valV qs k)
  | [], [], _ => trivial
  | p :: ps, q :: qs, h => by
    have ih := tR.get k h.2.2
    unfold dget valV at *
    rw [List.find?_cons, List.find?_cons, h.1, eqv_kDs]
    by_cases e : q.1 = k
    · rw [decide_eq_true e]; exact h.2.1
    · rw [decide_eq_false e]; exact ih
theorem kR.any (k : Key) : ∀ {ps : List (D × D)} {qs : List (Key × V)}, kR ρ H ps qs → (ps.any fun p => D.eqv p.1 (kD k)) = qs.any fun q => decide (q.1 = k)
  | [], [], _ => rfl
  | p :: ps, q :: qs, h => by rw [List.any_cons, List.any_cons, kR.any k h.2.2, h.1, eqv_kD]
theorem tR.any (k : List Key) : ∀ {ps : List (D × D)} {qs : List (List Key × V)}, tR ρ H ps qs → (ps.any fun p => D.eqv p.1 (.tup (k.map kD))) = qs.any fun q => decide (q.1 = k)
  | [], [], _ => rfl
  | p :: ps, q :: qs, h => by rw [List.any_cons, List.any_cons, tR.any k h.2.2, h.1, eqv_kDs]
theorem kR.map (k : Key) {d : D} {v : V} (r : VR ρ H d v) : ∀ {ps : List (D × D)} {qs : List (Key × V)}, kR ρ H ps qs → kR ρ H (ps.map fun p => if D.eqv p.1 (kD k) then (p.1, d) else p) (qs.map fun q => if q.1 = k then (q.1, v) else q)
  | [], [], _ => trivial
  | p :: ps, q :: qs, h => by
    have ih := kR.map k r h.2.2
    rw [List.map_cons, List.map_cons]
    have e1 : D.eqv p.1 (kD k) = decide (q.1 = k) := by rw [h.1, eqv_kD]
    by_cases e : q.1 = k
    · rw [e1, decide_eq_true e, if_pos rfl, if_pos e]; exact ⟨h.1, r, ih⟩
    · rw [e1, decide_eq_false e, if_neg Bool.false_ne_true, if_neg e]; exact ⟨h.1, h.2.1, ih⟩
theorem tR.map (k : List Key) {d : D} {v : V} (r : VR ρ H d v) : ∀ {ps : List (D × D)} {qs : List (List Key × V)}, tR ρ H ps qs → tR ρ H (ps.map fun p => if D.eqv p.1 (.tup (k.map kD)) then (p.1, d) else p) (qs.map fun q => if q.1 = k then (q.1, v) else q)
  | [], [], _ => trivial
  | p :: ps, q :: qs, h => by
    have ih := tR.map k r h.2.2
    rw [List.map_cons, List.map_cons]
    have e1 : D.eqv p.1 (.tup (k.map kD)) = decide (q.1 = k) := by rw [h.1, eqv_kDs]
    by_cases e : q.1 = k
    · rw [e1, decide_eq_true e, if_pos rfl, if_pos e]; exact ⟨h.1, r, ih⟩
    · rw [e1, decide_eq_false e, if_neg Bool.false_ne_true, if_neg e]; exact ⟨h.1, h.2.1, ih⟩
theorem kR.snoc (k : Key) {d : D} {v : V} (r : VR ρ H d v) : ∀ {ps : List (D × D)} {qs : List (Key × V)}, kR ρ H ps qs → kR ρ H (ps ++ [(kD k, d)]) (qs ++ [(k, v)])
  | [], [], _ => ⟨rfl, r, trivial⟩
  | _ :: _, _ :: _, h => ⟨h.1, h.2.1, kR.snoc k r h.2.2⟩
theorem tR.snoc (k : List Key) {d : D} {v : V} (r : VR ρ H d v) : ∀ {ps : List (D × D)} {qs : List (List Key × V)}, tR ρ H ps qs → tR ρ H (ps ++ [(.tup (k.map kD), d)]) (qs ++ [(k, v)])
  | [], [], _ => ⟨rfl, r, trivial⟩
  | _ :: _, _ :: _, h => ⟨h.1, h.2.1, tR.snoc k r h.2.2⟩
theorem kR.put (k : Key) {d : D} {v : V} (r : VR ρ H d v) {ps : List (D × D)} {qs : List (Key × V)} (h : kR ρ H ps qs) : kR ρ H (dput ps (kD k) d) (putK qs k v) := by
  unfold dput putK
  rw [h.any k]
  split
  · exact h.map k r
  · exact h.snoc k r
theorem tR.put (k : List Key) {d : D} {v : V} (r : VR ρ H d v) {ps : List (D × D)} {qs : List (List Key × V)} (h : tR ρ H ps qs) : tR ρ H (dput ps (.tup (k.map kD)) d) (putK qs k v) := by
  unfold dput putK
  rw [h.any k]
  split
  · exact h.map k r
  · exact h.snoc k r
theorem kR.len : ∀ {ps : List (D × D)} {qs : List (Key × V)}, kR ρ H ps qs → ps.length = qs.length
  | [], [], _ => rfl
  | _ :: _, _ :: _, h => congrArg Nat.succ (kR.len h.2.2)
theorem tR.len : ∀ {ps : List (D × D)} {qs : List (List Key × V)}, tR ρ H ps qs → ps.length = qs.length
  | [], [], _ => rfl
  | _ :: _, _ :: _, h => congrArg Nat.succ (tR.len h.2.2)
end
end
end N
set_option autoImplicit false
set_option Elab.async false
set_option linter.all false
set_option maxRecDepth 100000
set_option maxHeartbeats 4000000
namespace N
open PySem L2 PySem.Spec PyProof.Rows
section
variable {X : Cx} {pins : List (Addr × Obj)} {σ : L2.St} {H : Hp} {s : Shared} {a : Addr}
/-- the empty dict may be told with either sort of keys -/
theorem emptyT (I : L2.Inv X pins σ H s) (h : H a = some (.dK [])) : L2.Inv X pins σ (upd H a (.dT [])) s := by
  have ok := I.hok a _ h
  obtain ⟨z, y, vs, r, ob, es, ep, e, ed, ep2, ks, eq, nd⟩ := ok
  have hv : vs = [] := by cases r; rfl
  subst hv
  have he : es.toList = [] := by
    generalize es.toList = l at eq
    cases eq; rfl
  have new : ObjOk X.prog X.w (upd H a (.dT [])) s.heap a (.dT []) := ⟨z, y, [], .nil, ob, es, ep, e, ed, ep2, he, by simp⟩
  exact I.write (t' := s.toks) (x := a) (e := a) (by rw [h]; trivial) (.inl rfl) (fun b u _ q => q) ⟨ob, e⟩ new
theorem emptyK (I : L2.Inv X pins σ H s) (h : H a = some (.dT [])) : L2.Inv X pins σ (upd H a (.dK [])) s := by
  have ok := I.hok a _ h
  obtain ⟨z, y, xs, r, ob, es, ep, e, ed, ep2, eq, nd⟩ := ok
  have hv : xs = [] := by cases r; rfl
  subst hv
  have he : es.toList = [] := eq
  have hk : PySem.KeysOf (mixKind X.prog X.w) es := fun x hx => by
    rw [← Array.mem_toList_iff, he] at hx
    cases hx
  have new : ObjOk X.prog X.w (upd H a (.dK [])) s.heap a (.dK []) := ⟨z, y, [], .nil, ob, es, ep, e, ed, ep2, hk, by rw [he]; exact .nil, by simp⟩
  exact I.write (t' := s.toks) (x := a) (e := a) (by rw [h]; trivial) (.inl rfl) (fun b u _ q => q) ⟨ob, e⟩ new
/-- a dict of the store, told for the sort of a key: the state, the heap (perhaps told anew) -/
theorem dict_for {K : PySem.W.Frag} {ρ : List Addr} {S : Sto} {n : Nat} {kvs : List (D × D)} {k : D} {kv : V} (I : L2.Inv X pins σ H s) (hS : SR K ρ H S) (e : S[n]? = some (.dct kvs)) (ea : ρ[n]? = some a) (rk : VR ρ H k kv) (hk : keysOk kvs k = true) :
    ∃ H', L2.Inv X pins σ H' s ∧ SR K ρ H' S ∧ Go ρ H ρ H' ∧
      ((∃ (q : Key) (ks : List (Key × V)), k = kD q ∧ kv = kV q ∧ H' a = some (.dK ks) ∧ kR ρ H' kvs ks) ∨ ∃ (q : List Key) (ks : List (List Key × V)) (b : Addr), k = .tup (q.map kD) ∧ kv = .ref b ∧ H' b = some (.tup (q.map kV)) ∧ H' a = some (.dT ks) ∧ tR ρ H' kvs ks) := by
  have keyCase : keyK k = true → ∃ q, k = kD q ∧ kv = kV q := fun h => by
    obtain ⟨q, rfl⟩ := keyK_kD h
    exact ⟨q, rfl, rk.key⟩
  have tupCase : keyT k = true → ∃ (q : List Key) (b : Addr), k = .tup (q.map kD) ∧ kv = .ref b ∧ H b = some (.tup (q.map kV)) := fun h => by
    obtain ⟨q, rfl⟩ := keyT_kD h
    cases rk with
    | tup eb rs => exact ⟨q, _, rfl, rfl, by rw [eb, rs.keys]⟩
  have re : ∀ {o u : HO}, H a = some o → Mut (some o) → OR K ρ (upd H a u) a (.dct kvs) → SR K ρ (upd H a u) S ∧ Go ρ H ρ (upd H a u) := fun {o u} h m r => by
    refine ⟨?_, Go.write (List.mem_of_getElem? ea) h m⟩
    have q := hS.write (o' := .dct kvs) (u := u) e ea rfl rfl r
    have hn := (List.getElem?_eq_some_iff.mp e)
    rw [show S.set n (.dct kvs) = S from by
      obtain ⟨h1, h2⟩ := hn
      rw [← h2]; simp] at q
    exact q
  cases kvs with
  | nil =>
    have hk' := Bool.or_eq_true_iff.mp (show (keyK k || keyT k) = true from hk)
    rcases hS.at_ n _ a e ea with ⟨ks, e1, r⟩ | ⟨ks, e1, r⟩
    · have : ks = [] := by cases ks; rfl; cases r
      subst this
      rcases hk' with h | h
      · obtain ⟨q, rfl, rfl⟩ := keyCase h
        exact ⟨H, I, hS, .refl, .inl ⟨q, [], rfl, rfl, e1, trivial⟩⟩
      · obtain ⟨q, b, rfl, rfl, eb⟩ := tupCase h
        obtain ⟨s1, g1⟩ := re (u := .dT []) e1 trivial (.inr ⟨[], upd_same, trivial⟩)
        exact ⟨_, emptyT I e1, s1, g1, .inr ⟨q, [], b, rfl, rfl, g1.tup eb, upd_same, trivial⟩⟩
    · have : ks = [] := by cases ks; rfl; cases r
      subst this
      rcases hk' with h | h
      · obtain ⟨q, rfl, rfl⟩ := keyCase h
        obtain ⟨s1, g1⟩ := re (u := .dK []) e1 trivial (.inl ⟨[], upd_same, trivial⟩)
        exact ⟨_, emptyK I e1, s1, g1, .inl ⟨q, [], rfl, rfl, upd_same, trivial⟩⟩
      · obtain ⟨q, b, rfl, rfl, eb⟩ := tupCase h
        exact ⟨H, I, hS, .refl, .inr ⟨q, [], b, rfl, rfl, eb, e1, trivial⟩⟩
  | cons p ps =>
    have hk' := Bool.or_eq_true_iff.mp (show ((keyK p.1 && keyK k) || (keyT p.1 && keyT k)) = true from hk)
    rcases hS.at_ n _ a e ea with ⟨ks, e1, r⟩ | ⟨ks, e1, r⟩
    · cases ks with
      | nil => cases r
      | cons c cs =>
        rcases hk' with h | h
        · obtain ⟨q, rfl, rfl⟩ := keyCase (Bool.and_eq_true_iff.mp h).2
          exact ⟨H, I, hS, .refl, .inl ⟨q, _, rfl, rfl, e1, r⟩⟩
        · have := (Bool.and_eq_true_iff.mp h).1
          rw [r.1, keyT_kD'] at this; cases this
    · cases ks with
      | nil => cases r
      | cons c cs =>
        rcases hk' with h | h
        · have := (Bool.and_eq_true_iff.mp h).1
          rw [r.1, keyK_tup] at this; cases this
        · obtain ⟨q, b, rfl, rfl, eb⟩ := tupCase (Bool.and_eq_true_iff.mp h).2
          exact ⟨H, I, hS, .refl, .inr ⟨q, _, b, rfl, rfl, eb, e1, r⟩⟩
/-- what is found under the key -/
theorem dict_get {K : PySem.W.Frag} {ρ : List Addr} {S : Sto} {n : Nat} {kvs : List (D × D)} {k : D} {kv : V} (I : L2.Inv X pins σ H s) (hS : SR K ρ H S) (e : S[n]? = some (.dct kvs)) (ea : ρ[n]? = some a) (rk : VR ρ H k kv) (hk : keysOk kvs k = true) :
    ∃ H' r, L2.Inv X pins σ H' s ∧ SR K ρ H' S ∧ Go ρ H ρ H' ∧ DGet H' a kv r ∧ oR ρ H' (dget kvs k) r := by
  obtain ⟨H', I', S', g, h⟩ := dict_for I hS e ea rk hk
  rcases h with ⟨q, ks, rfl, rfl, e1, r⟩ | ⟨q, ks, b, rfl, rfl, eb, e1, r⟩
  · exact ⟨H', _, I', S', g, DGet.k e1, r.get q⟩
  · exact ⟨H', _, I', S', g, DGet.t e1 eb, r.get q⟩
end
section
variable {X : Cx}
theorem oR.isSome {ρ : List Addr} {H : Hp} {o : Option D} {r : Option V} (h : oR ρ H o r) : o.isSome = r.isSome := by
  cases o <;> cases r <;> first | rfl | cases h
theorem los_any {S : Sto} {xs : List D} : ∀ {ts : List D} {n : Nat}, mapO (rd n S) xs = some ts → ts.length = xs.length := by
  induction xs with
  | nil => intro ts n h; simp only [mapO] at h; cases h; rfl
  | cons x xs ih =>
    intro ts n h
    obtain ⟨y, ys, e1, e2, rfl⟩ := mapO_some h
    rw [List.length_cons, List.length_cons, ih e2]
theorem any_py : ∀ (ts : List D) (t : D), D.reals ts = true → D.real t = true → ((toPys ts).any fun z => PyData.eqv z (toPy t)) = ts.any fun y => D.pyeq y t
  | [], _, _, _ => rfl
  | x :: xs, t, h1, h2 => by
    have h := Bool.and_eq_true_iff.mp (show (D.real x && D.reals xs) = true from h1)
    show ((PyData.eqv (toPy x) (toPy t)) || (toPys xs).any _) = _
    rw [any_py xs t h.2 h2, ← pyeq_eqv x t h.1 h2]
    rfl
/-- the row of a text that may stand behind in -/
theorem inI_seq {K : PySem.W.Frag} {ρ : List Addr} {H : Hp} {S : Sto} {x c : D} {v u : V} {ts : List D} {t : D} {f : List D → D} {g : List PyData → PyData} (s : SR K ρ H S) (rx : VR ρ H x v) (rc : VR ρ H c u)
    (hg : toPy (f ts) = g (toPys ts)) (hf : D.real (f ts) = D.reals ts) (e1 : rd RD S c = some (f ts)) (e2 : rd RD S x = some t) (ok : (D.okSs ts && D.okS t) = true) :
    Dp K H v (toPy t) ∧ Dp K H u (g (toPys ts)) ∧ SeqAt.shaped (toPy t) = true ∧ PyData.canLayAll0 (toPys ts) = true ∧ ((toPys ts).any fun z => PyData.eqv z (toPy t)) = ts.any fun y => D.pyeq y t := by
  have k := Bool.and_eq_true_iff.mp ok
  have h1 := rd_dp s RD c _ u rc e1
  rw [hg] at h1
  have r1 := (toPys_real _ _ _ _ e1).1
  rw [hf] at r1
  exact ⟨rd_dp s RD x t v rx e2, h1, shaped_py e2 (by decide) k.2, canLays_py ts k.1, any_py ts t r1 (toPys_real _ _ _ _ e2).1⟩
theorem op_inN (hu : X.A.units + 65 < cLine) : OpR X (compareOp .In) (r2 X.K fun S a b => cmpR S .inn a b) := by
  intro pins s σ H x y v u Q I rx ry h
  obtain ⟨ρ, S, da, db, d, S', hS, ra, rb, hr, k⟩ := h
  obtain ⟨c, hc, rfl, rfl⟩ := cmpR_some hr
  have hc' : inI S' da db = some c := hc
  unfold inI at hc'
  split at hc'
  · rename_i xs
    split at hc'
    · rename_i ts t e1 e2
      split at hc'
      · rename_i ok
        cases hc'
        obtain ⟨h1, h2, h3, h4, h5⟩ := inI_seq (f := D.tup) (g := PyData.tuple) hS ra rb rfl rfl e1 e2 ok
        obtain ⟨as, q1⟩ := Dp.reads I _ _ v h1 rx
        obtain ⟨bs, q2⟩ := Dp.reads I _ _ u h2 ry
        exact SeqAt.in_tuple_reads q2 q1 h4 (SeqAt.canLay_of_shaped h3) (PyProof.Rows.room_in_shaped h3 hu) ⟨.bl _, H, I, rfl, by rw [h5]; exact k.ret hS (.bl _)⟩
      · cases hc'
    · cases hc'
  · rename_i n
    split at hc'
    · split at hc'
      · rename_i ts t e1 e2
        split at hc'
        · rename_i ok
          cases hc'
          obtain ⟨h1, h2, h3, h4, h5⟩ := inI_seq (f := D.lst) (g := PyData.list) hS ra rb rfl rfl e1 e2 ok
          obtain ⟨as, q1⟩ := Dp.reads I _ _ v h1 rx
          obtain ⟨bs, q2⟩ := Dp.reads I _ _ u h2 ry
          exact SeqAt.in_list_reads q2 q1 h4 (SeqAt.canLay_of_shaped h3) (PyProof.Rows.room_in_shaped h3 hu) ⟨.bl _, H, I, rfl, by rw [h5]; exact k.ret hS (.bl _)⟩
        · cases hc'
      · cases hc'
    · rename_i kvs e1
      split at hc'
      · rename_i hk
        cases hc'
        cases rb with
        | ref ea =>
          cases ry
          obtain ⟨H', r, I', S1, g, dg, o⟩ := dict_get I hS e1 ea ra hk
          refine d_in (by omega) I' dg rx fun s1 I1 => ⟨.bl _, H', I1, rfl, ?_⟩
          rw [← o.isSome]
          exact k ρ H' _ g S1 (.bl _)
      · cases hc'
    · cases hc'
  · cases hc'
theorem op_ninN (hu : X.A.units + 65 < cLine) : OpR X (compareOp .NotIn) (r2 X.K fun S a b => cmpR S .nin a b) := by
  intro pins s σ H x y v u Q I rx ry h
  obtain ⟨ρ, S, da, db, d, S', hS, ra, rb, hr, k⟩ := h
  obtain ⟨c0, hc, rfl, rfl⟩ := cmpR_some hr
  obtain ⟨c, hc', rfl⟩ := Option.map_eq_some_iff.mp (show (inI S' da db).map (!·) = some c0 from hc)
  unfold inI at hc'
  split at hc'
  · rename_i xs
    split at hc'
    · rename_i ts t e1 e2
      split at hc'
      · rename_i ok
        cases hc'
        obtain ⟨h1, h2, h3, h4, h5⟩ := inI_seq (f := D.tup) (g := PyData.tuple) hS ra rb rfl rfl e1 e2 ok
        obtain ⟨as, q1⟩ := Dp.reads I _ _ v h1 rx
        obtain ⟨bs, q2⟩ := Dp.reads I _ _ u h2 ry
        exact SeqAt.notIn_tuple_reads q2 q1 h4 (SeqAt.canLay_of_shaped h3) (PyProof.Rows.room_in_shaped h3 hu) ⟨.bl _, H, I, rfl, by rw [h5]; exact k.ret hS (.bl _)⟩
      · cases hc'
    · cases hc'
  · rename_i n
    split at hc'
    · split at hc'
      · rename_i ts t e1 e2
        split at hc'
        · rename_i ok
          cases hc'
          obtain ⟨h1, h2, h3, h4, h5⟩ := inI_seq (f := D.lst) (g := PyData.list) hS ra rb rfl rfl e1 e2 ok
          obtain ⟨as, q1⟩ := Dp.reads I _ _ v h1 rx
          obtain ⟨bs, q2⟩ := Dp.reads I _ _ u h2 ry
          exact SeqAt.notIn_list_reads q2 q1 h4 (SeqAt.canLay_of_shaped h3) (PyProof.Rows.room_in_shaped h3 hu) ⟨.bl _, H, I, rfl, by rw [h5]; exact k.ret hS (.bl _)⟩
        · cases hc'
      · cases hc'
    · rename_i kvs e1
      split at hc'
      · rename_i hk
        cases hc'
        cases rb with
        | ref ea =>
          cases ry
          obtain ⟨H', r, I', S1, g, dg, o⟩ := dict_get I hS e1 ea ra hk
          refine d_notIn (by omega) I' dg rx fun s1 I1 => ⟨.bl _, H', I1, rfl, ?_⟩
          rw [← o.isSome]
          exact k ρ H' _ g S1 (.bl _)
      · cases hc'
    · cases hc'
  · cases hc'
theorem op_cmpN (hu : X.A.units + 65 < cLine) (o : Cmp) : OpR X (compareOp (oc o)) (r2 X.K fun S a b => cmpR S o a b) := by
  cases o
  · exact op_eqN (by omega)
  · exact op_neN (by omega)
  · exact op_ltN
  · exact op_leN
  · exact op_gtN
  · exact op_geN
  · exact op_isN'
  · exact op_isntN
  · exact op_inN hu
  · exact op_ninN hu
end
end N
set_option autoImplicit false
set_option Elab.async false
set_option linter.all false
set_option maxRecDepth 100000
set_option maxHeartbeats 4000000
namespace N
open PySem L2 PySem.Spec PyProof.Rows
/-! ### tests, argument lists -/
def TTv (K : PySem.W.Frag) (x : Env → Sto → RE) : TT := fun σ H Q => ∃ ρ e S d S' b, ER ρ H e σ ∧ SR K ρ H S ∧ x e S = some (d, S') ∧ tru S' d = some b ∧ ∀ ρ' H', Go ρ H ρ' H' → SR K ρ' H' S' → Q b H'
def ST (X : Cx) (e : Expr) (x : Env → Sto → RE) : Prop := PT X e (TTv X.K x)
abbrev REs := Option (List D × Sto)
def TAv (K : PySem.W.Frag) (x : Env → Sto → REs) : TA := fun σ H Q => ∃ ρ e S ds S', ER ρ H e σ ∧ SR K ρ H S ∧ x e S = some (ds, S') ∧ ∀ ρ' H' vs, Go ρ H ρ' H' → SR K ρ' H' S' → VRs ρ' H' ds vs → Q vs H'
def SA (X : Cx) (es : List Expr) (x : Env → Sto → REs) : Prop := PA X es (TAv X.K x)
section
variable {X : Cx} {K : PySem.W.Frag} {ρ ρ' : List Addr} {H H' : Hp} {S S' : Sto} {d : D} {v : V} {e : Env} {σ : L2.St}
theorem tru_V {b : Bool} (s : SR K ρ H S) (r : VR ρ H d v) (h : tru S d = some b) : TruV K v H b := by
  cases r <;> simp only [tru] at h <;> try (cases h; done)
  · cases h; rfl
  · cases h; rfl
  · cases h
    show _ = _
    rename_i i
    by_cases z : i = 0
    · subst z; rfl
    · rw [decide_eq_true z]; simp [z]
  · rename_i xs a vs ea rs
    cases h
    refine .inr (.inl ⟨vs, .of ea, ?_⟩)
    cases rs <;> rfl
  · rename_i n a ea
    split at h
    · rename_i xs e1
      cases h
      obtain ⟨vs, q, rs⟩ := s.lst e1 ea
      refine .inl ⟨vs, .of q, ?_⟩
      cases rs <;> rfl
    · cases h
/-- a test whose value is looked at -/
theorem st_of {E : Expr} {x : Env → Sto → RE} (h : SE X E x) (he : ∀ whole, isTrue E X.env whole = (do let v ← whole; standAt E.pos; holding [v] (truthy v))) : ST X E x :=
  ⟨fun pins s σ H Q I q => (pt_truth h he).run pins s σ H Q I (by
    obtain ⟨ρ, e, S, d, S', b, h1, h2, h3, h4, h5⟩ := q
    exact ⟨ρ, e, S, d, S', h1, h2, h3, fun ρ' H' v g s r => ⟨b, tru_V s r h4, h5 ρ' H' g s⟩⟩)⟩
theorem PT.imp {E : Expr} {t u : TT} (h : PT X E t) (i : ∀ σ H Q, u σ H Q → t σ H Q) : PT X E u := ⟨fun pins s σ H Q I q => h.run pins s σ H Q I (i σ H Q q)⟩
theorem PA.imp {E : List Expr} {t u : TA} (h : PA X E t) (i : ∀ σ H Q, u σ H Q → t σ H Q) : PA X E u := ⟨fun pos pins s σ H Q I q => h.run pos pins s σ H Q I (i σ H Q q)⟩
/-! leaves -/
theorem se_const {E : Expr} {c : V} {d : D} (h : PE X E (tC c)) (r : ∀ ρ H, VR ρ H d c) : SE X E (fun _ S => some (d, S)) := PE.imp h fun σ H Q q => by
  obtain ⟨ρ, e, S, d', S', h1, h2, h3, h4⟩ := q
  cases h3
  exact h4.ret h2 (r ρ H)
theorem se_var {i : Nat} {x : Str} {pos : Pos} (hN : X.N[i]? = some x) (hv : Vis X.env.scope x) (hd : (x == ("__debug__" : Str)) = false) (hcd : (x == ("__classdict__" : Str)) = false) : SE X (.Name x pos) (evalE (.var i)) :=
  PE.imp (pe_var hN hv hd hcd) fun σ H Q q => by
    obtain ⟨ρ, e, S, d, S', h1, h2, h3, h4⟩ := q
    simp only [evalE] at h3
    split at h3
    · rename_i d' e1
      cases h3
      obtain ⟨v, e2, r⟩ := h1.2 i d e1
      exact ⟨v, e2, h4.ret h2 r⟩
    · cases h3
/-! not, -, if -/
theorem se_not {a : Expr} {xa : Env → Sto → RE} {pos : Pos} (ha : ST X a xa) (hv : SE X a xa) : SE X (.UnaryOp .Not a pos) (fun e S => match thenT (xa e S) with
    | some (b, S1) => some (.bl (!b), S1)
    | none => none) := PE.imp (pe_notT hv) fun σ H Q q => by
  obtain ⟨ρ, e, S, d, S', h1, h2, h3, h4⟩ := q
  simp only [thenT] at h3
  split at h3
  · rename_i b S1 e1
    split at e1
    · rename_i d1 S2 e2
      obtain ⟨b', e3, e4⟩ := Option.map_eq_some_iff.mp e1
      cases e4
      cases h3
      exact ⟨ρ, e, S, d1, _, h1, h2, e2, fun ρ' H' v g s r => ⟨b, tru_V s r e3, h4 ρ' H' _ g s (.bl _)⟩⟩
    · cases e1
  · cases h3
theorem st_not {a : Expr} {xa : Env → Sto → RE} {pos : Pos} (ha : ST X a xa) : ST X (.UnaryOp .Not a pos) (fun e S => match thenT (xa e S) with
    | some (b, S1) => some (.bl (!b), S1)
    | none => none) := PT.imp (pt_not ha) fun σ H Q q => by
  obtain ⟨ρ, e, S, d, S', b0, h1, h2, h3, hb, h4⟩ := q
  simp only [thenT] at h3
  split at h3
  · rename_i b S1 e1
    split at e1
    · rename_i d1 S2 e2
      obtain ⟨b', e3, e4⟩ := Option.map_eq_some_iff.mp e1
      cases e4
      cases h3
      cases hb
      exact ⟨ρ, e, S, d1, _, b, h1, h2, e2, e3, fun ρ' H' g s => h4 ρ' H' g s⟩
    · cases e1
  · cases h3
theorem se_neg {a : Expr} {xa : Env → Sto → RE} {pos : Pos} (ha : SE X a xa) : SE X (.UnaryOp .USub a pos) (fun e S => match xa e S with
    | some (.int i, S1) => some (.int (-i), S1)
    | _ => none) := PE.imp (pe_un un_neg ha) fun σ H Q q => by
  obtain ⟨ρ, e, S, d, S', h1, h2, h3, h4⟩ := q
  simp only at h3
  split at h3
  · rename_i i S1 e1
    cases h3
    exact ⟨ρ, e, S, .int i, _, h1, h2, e1, fun ρ' H' v g s r => by cases r; exact ⟨i, rfl, h4 ρ' H' _ g s (.int _)⟩⟩
  · cases h3
theorem se_ife {c a b : Expr} {xc xa xb : Env → Sto → RE} {pos : Pos} (hc : ST X c xc) (ha : SE X a xa) (hb : SE X b xb) : SE X (.IfExp c a b pos) (fun e S => match thenT (xc e S) with
    | none => none
    | some (true, S1) => xa e S1
    | some (false, S1) => xb e S1) := PE.imp (pe_ifExp hc ha hb) fun σ H Q q => by
  obtain ⟨ρ, e, S, d, S', h1, h2, h3, h4⟩ := q
  simp only [thenT] at h3
  split at h3
  · cases h3
  · rename_i S1 e1
    split at e1
    · rename_i d1 S2 e2
      obtain ⟨b', e3, e4⟩ := Option.map_eq_some_iff.mp e1
      cases e4
      exact ⟨ρ, e, S, d1, _, true, h1, h2, e2, e3, fun ρ' H' g s => ⟨ρ', e, S1, d, S', h1.go g, s, h3, h4.go g⟩⟩
    · cases e1
  · rename_i S1 e1
    split at e1
    · rename_i d1 S2 e2
      obtain ⟨b', e3, e4⟩ := Option.map_eq_some_iff.mp e1
      cases e4
      exact ⟨ρ, e, S, d1, _, false, h1, h2, e2, e3, fun ρ' H' g s => ⟨ρ', e, S1, d, S', h1.go g, s, h3, h4.go g⟩⟩
    · cases e1
theorem isTrue_ife {M : Model} {A : Around} {E : Value → Shared → Prop} {s : Shared} {c a b : Expr} {env : PySem.Env} {pos : Pos} {whole : Sem Value} {Q : Bool → Shared → Prop}
    (h : wpAny M A (isTrue c env (eval c env)) (fun t s' => if t then wpAny M A (isTrue a env (eval a env)) Q E s' else wpAny M A (isTrue b env (eval b env)) Q E s') E s) : wpAny M A (isTrue (.IfExp c a b pos) env whole) Q E s := by
  show wpAny M A (do if ← isTrue c env (eval c env) then isTrue a env (eval a env) else isTrue b env (eval b env)) Q E s
  refine wpAny_bind (wpAny_mono h (fun t s' q => ?_) fun _ _ x => x)
  cases t with
  | true => exact q
  | false => exact q
theorem st_ife {c a b : Expr} {xc xa xb : Env → Sto → RE} {pos : Pos} (hc : ST X c xc) (ha : ST X a xa) (hb : ST X b xb) : ST X (.IfExp c a b pos) (fun e S => match thenT (xc e S) with
    | none => none
    | some (true, S1) => xa e S1
    | some (false, S1) => xb e S1) := by
  refine ⟨fun pins s σ H Q I q => ?_⟩
  obtain ⟨ρ, e, S, d, S', b0, h1, h2, h3, hb0, h4⟩ := q
  simp only [thenT] at h3
  split at h3
  · cases h3
  · rename_i S1 e1
    split at e1
    · rename_i d1 S2 e2
      obtain ⟨b', e3, e4⟩ := Option.map_eq_some_iff.mp e1
      cases e4
      refine isTrue_ife (thn (hc.run pins s σ H (fun t H1 => t = true ∧ TTv X.K xa σ H1 Q) I ⟨ρ, e, S, d1, _, true, h1, h2, e2, e3, fun ρ' H' g s => ⟨rfl, ρ', e, S1, d, S', b0, h1.go g, s, h3, hb0, fun ρ2 H2 g2 s2 => h4 ρ2 H2 (g.trans g2) s2⟩⟩) fun t s1 z => ?_)
      obtain ⟨H1, I1, et, q1⟩ := z
      subst et
      exact ha.run pins s1 σ H1 Q I1 q1
    · cases e1
  · rename_i S1 e1
    split at e1
    · rename_i d1 S2 e2
      obtain ⟨b', e3, e4⟩ := Option.map_eq_some_iff.mp e1
      cases e4
      refine isTrue_ife (thn (hc.run pins s σ H (fun t H1 => t = false ∧ TTv X.K xb σ H1 Q) I ⟨ρ, e, S, d1, _, false, h1, h2, e2, e3, fun ρ' H' g s => ⟨rfl, ρ', e, S1, d, S', b0, h1.go g, s, h3, hb0, fun ρ2 H2 g2 s2 => h4 ρ2 H2 (g.trans g2) s2⟩⟩) fun t s1 z => ?_)
      obtain ⟨H1, I1, et, q1⟩ := z
      subst et
      exact hb.run pins s1 σ H1 Q I1 q1
    · cases e1
/-! argument lists, displays -/
theorem sa_nil : SA X [] (fun _ S => some ([], S)) := PA.imp pa_nil fun σ H Q q => by
  obtain ⟨ρ, e, S, d, S', h1, h2, h3, h4⟩ := q
  cases h3
  exact h4 ρ H _ .refl h2 .nil
theorem sa_cons {a : Expr} {es : List Expr} {xa : Env → Sto → RE} {xs : Env → Sto → REs} (ha : SE X a xa) (hr : SA X es xs) (hs : starEach (a :: es) X.env = (false, eval a X.env) :: starEach es X.env) : SA X (a :: es) (fun e S => match xa e S with
    | none => none
    | some (d, S1) => match xs e S1 with
      | none => none
      | some (ds, S2) => some (d :: ds, S2)) := PA.imp (pa_cons ha hr hs) fun σ H Q q => by
  obtain ⟨ρ, e, S, ds, S', h1, h2, h3, h4⟩ := q
  simp only at h3
  split at h3
  · cases h3
  · rename_i d S1 e1
    split at h3
    · cases h3
    · rename_i ds' S2 e2
      cases h3
      exact ⟨ρ, e, S, d, S1, h1, h2, e1, fun ρ1 H1 v1 g1 s1 r1 => ⟨ρ1, e, S1, ds', _, h1.go g1, s1, e2, fun ρ2 H2 vs g2 s2 r2 => h4 ρ2 H2 _ (g1.trans g2) s2 (.cons (r1.go g2) r2)⟩⟩
theorem se_tup {es : List Expr} {xs : Env → Sto → REs} {k : Nat} {pos : Pos} (h : SA X es xs) (hl : es.length ≤ 1000) (hlen : ∀ e S r, xs e S = some r → r.1.length = es.length) : SE X (.Tuple es k pos) (fun e S => match xs e S with
    | none => none
    | some (ds, S1) => some (.tup ds, S1)) := PE.imp (pe_tup h) fun σ H Q q => by
  obtain ⟨ρ, e, S, d, S', h1, h2, h3, h4⟩ := q
  simp only at h3
  split at h3
  · cases h3
  · rename_i ds S1 e1
    cases h3
    exact ⟨ρ, e, S, ds, _, h1, h2, e1, fun ρ1 H1 vs g1 s1 r1 => ⟨by
      have := hlen _ _ _ e1
      rw [← r1.len, sizeLine_eq]; simp only at this; omega, (h4.go g1).tup s1 r1⟩⟩
theorem se_lst {es : List Expr} {xs : Env → Sto → REs} {pos : Pos} (h : SA X es xs) (hl : es.length ≤ 1000) (hlen : ∀ e S r, xs e S = some r → r.1.length = es.length) : SE X (.List es pos) (fun e S => match xs e S with
    | none => none
    | some (ds, S1) => new S1 (.lst ds)) := PE.imp (pe_lst h) fun σ H Q q => by
  obtain ⟨ρ, e, S, d, S', h1, h2, h3, h4⟩ := q
  simp only at h3
  split at h3
  · cases h3
  · rename_i ds S1 e1
    cases h3
    exact ⟨ρ, e, S, ds, _, h1, h2, e1, fun ρ1 H1 vs g1 s1 r1 => ⟨by
      have := hlen _ _ _ e1
      rw [← r1.len, sizeLine_eq]; simp only at this; omega, (h4.go g1).lst s1 r1⟩⟩
end
end N
set_option autoImplicit false
set_option Elab.async false
set_option linter.all false
set_option maxRecDepth 100000
set_option maxHeartbeats 4000000
namespace N
open PySem L2 PySem.Spec PyProof.Rows
/-- the expression E is what x says, as a value and as a test -/
structure Is (X : Cx) (x : Ex) (E : Expr) : Prop where
  v : SE X E (evalE x)
  t : ST X E (evalE x)
inductive All2 {α β : Type} (R : α → β → Prop) : List α → List β → Prop
  | nil : All2 R [] []
  | cons {a : α} {b : β} {as : List α} {bs : List β} : R a b → All2 R as bs → All2 R (a :: as) (b :: bs)
theorem All2.len {α β : Type} {R : α → β → Prop} : ∀ {as : List α} {bs : List β}, All2 R as bs → as.length = bs.length
  | _, _, .nil => rfl
  | _, _, .cons _ t => congrArg Nat.succ t.len
section
variable {X : Cx} {pos : Pos}
theorem se_and : ∀ {es : List Ex} {es' : List Expr}, All2 (Is X) es es' → ∀ {a : Ex} {a' : Expr}, Is X a a' → SE X (.BoolOp .And (a' :: es') pos) (evalE (.and a es))
  | _, _, .nil, a, a', ha => PE.imp (pe_one ha.v) fun σ H Q q => by
    obtain ⟨ρ, e, S, d, S', h1, h2, h3, h4⟩ := q
    simp only [evalE] at h3
    split at h3
    · cases h3
    · rename_i da S1 e1
      simp only [evalAnd] at h3
      cases h3
      exact ⟨ρ, e, S, d, _, h1, h2, e1, h4⟩
  | _, _, .cons (a := b) (b := b') (as := bs) (bs := bs') hb ht, a, a', ha => PE.imp (pe_andT ha.v (se_and ht hb)) fun σ H Q q => by
    obtain ⟨ρ, e, S, d, S', h1, h2, h3, h4⟩ := q
    simp only [evalE] at h3
    split at h3
    · cases h3
    · rename_i da S1 e1
      refine ⟨ρ, e, S, da, S1, h1, h2, e1, fun ρ1 H1 v g s r => ?_⟩
      simp only [evalAnd] at h3
      split at h3
      · cases h3
      · rename_i et
        cases h3
        exact ⟨false, tru_V s r et, by simpa using h4 ρ1 H1 v g s r⟩
      · rename_i et
        refine ⟨true, tru_V s r et, ?_⟩
        rw [if_pos rfl]
        refine ⟨ρ1, e, S1, d, S', h1.go g, s, ?_, h4.go g⟩
        simp only [evalE]
        exact h3
theorem se_or : ∀ {es : List Ex} {es' : List Expr}, All2 (Is X) es es' → ∀ {a : Ex} {a' : Expr}, Is X a a' → SE X (.BoolOp .Or (a' :: es') pos) (evalE (.or a es))
  | _, _, .nil, a, a', ha => PE.imp (pe_one ha.v) fun σ H Q q => by
    obtain ⟨ρ, e, S, d, S', h1, h2, h3, h4⟩ := q
    simp only [evalE] at h3
    split at h3
    · cases h3
    · rename_i da S1 e1
      simp only [evalOr] at h3
      cases h3
      exact ⟨ρ, e, S, d, _, h1, h2, e1, h4⟩
  | _, _, .cons (a := b) (b := b') (as := bs) (bs := bs') hb ht, a, a', ha => PE.imp (pe_orT ha.v (se_or ht hb)) fun σ H Q q => by
    obtain ⟨ρ, e, S, d, S', h1, h2, h3, h4⟩ := q
    simp only [evalE] at h3
    split at h3
    · cases h3
    · rename_i da S1 e1
      refine ⟨ρ, e, S, da, S1, h1, h2, e1, fun ρ1 H1 v g s r => ?_⟩
      simp only [evalOr] at h3
      split at h3
      · cases h3
      · rename_i et
        cases h3
        exact ⟨true, tru_V s r et, by simpa using h4 ρ1 H1 v g s r⟩
      · rename_i et
        refine ⟨false, tru_V s r et, ?_⟩
        rw [if_neg Bool.false_ne_true]
        refine ⟨ρ1, e, S1, d, S', h1.go g, s, ?_, h4.go g⟩
        simp only [evalE]
        exact h3
theorem PW.imp {E : Expr} {t u : TT} (h : PW X E t) (i : ∀ σ H Q, u σ H Q → t σ H Q) : PW X E u := ⟨fun w pins s σ H Q I q => h.run w pins s σ H Q I (i σ H Q q)⟩
theorem sw_and : ∀ {es : List Ex} {es' : List Expr}, All2 (Is X) es es' → ∀ {a : Ex} {a' : Expr}, Is X a a' → PW X (.BoolOp .And (a' :: es') pos) (TTv X.K (evalE (.and a es)))
  | _, _, .nil, a, a', ha => PW.imp (pw_and1 ha.t) fun σ H Q q => by
    obtain ⟨ρ, e, S, d, S', b0, h1, h2, h3, hb, h4⟩ := q
    simp only [evalE] at h3
    split at h3
    · cases h3
    · rename_i da S1 e1
      simp only [evalAnd] at h3
      cases h3
      exact ⟨ρ, e, S, d, _, b0, h1, h2, e1, hb, h4⟩
  | _, _, .cons (a := b) (b := b') (as := bs) (bs := bs') hb ht, a, a', ha => PW.imp (pw_and ha.t (sw_and ht hb)) fun σ H Q q => by
    obtain ⟨ρ, e, S, d, S', b0, h1, h2, h3, hb0, h4⟩ := q
    simp only [evalE] at h3
    split at h3
    · cases h3
    · rename_i da S1 e1
      simp only [evalAnd] at h3
      split at h3
      · cases h3
      · rename_i et
        cases h3
        rw [et] at hb0; cases hb0
        exact ⟨ρ, e, S, _, _, false, h1, h2, e1, et, fun ρ1 H1 g s => by simpa using h4 ρ1 H1 g s⟩
      · rename_i et
        refine ⟨ρ, e, S, da, S1, true, h1, h2, e1, et, fun ρ1 H1 g s => ?_⟩
        show TTv X.K _ σ H1 Q
        refine ⟨ρ1, e, S1, d, S', b0, h1.go g, s, ?_, hb0, fun ρ2 H2 g2 s2 => h4 ρ2 H2 (g.trans g2) s2⟩
        simp only [evalE]
        exact h3
theorem sw_or : ∀ {es : List Ex} {es' : List Expr}, All2 (Is X) es es' → ∀ {a : Ex} {a' : Expr}, Is X a a' → PW X (.BoolOp .Or (a' :: es') pos) (TTv X.K (evalE (.or a es)))
  | _, _, .nil, a, a', ha => PW.imp (pw_or1 ha.t) fun σ H Q q => by
    obtain ⟨ρ, e, S, d, S', b0, h1, h2, h3, hb, h4⟩ := q
    simp only [evalE] at h3
    split at h3
    · cases h3
    · rename_i da S1 e1
      simp only [evalOr] at h3
      cases h3
      exact ⟨ρ, e, S, d, _, b0, h1, h2, e1, hb, h4⟩
  | _, _, .cons (a := b) (b := b') (as := bs) (bs := bs') hb ht, a, a', ha => PW.imp (pw_or ha.t (sw_or ht hb)) fun σ H Q q => by
    obtain ⟨ρ, e, S, d, S', b0, h1, h2, h3, hb0, h4⟩ := q
    simp only [evalE] at h3
    split at h3
    · cases h3
    · rename_i da S1 e1
      simp only [evalOr] at h3
      split at h3
      · cases h3
      · rename_i et
        cases h3
        rw [et] at hb0; cases hb0
        exact ⟨ρ, e, S, _, _, true, h1, h2, e1, et, fun ρ1 H1 g s => by simpa using h4 ρ1 H1 g s⟩
      · rename_i et
        refine ⟨ρ, e, S, da, S1, false, h1, h2, e1, et, fun ρ1 H1 g s => ?_⟩
        show TTv X.K _ σ H1 Q
        refine ⟨ρ1, e, S1, d, S', b0, h1.go g, s, ?_, hb0, fun ρ2 H2 g2 s2 => h4 ρ2 H2 (g.trans g2) s2⟩
        simp only [evalE]
        exact h3
theorem cmpR_of {S : Sto} {o : Cmp} {a b : D} {c : Bool} (h : cmpI S o a b = some c) : cmpR S o a b = some (.bl c, S) := by
  unfold cmpR
  rw [h]
  rfl
/-! ### chains of comparisons -/
theorem chainV (hu : X.A.units + 65 < cLine) {bs : List Ex} {bs' : List Expr} (hb : All2 (Is X) bs bs') : ∀ (os : List Cmp) {pins : List (Addr × Obj)} {σ : L2.St} {s : Shared} {ρ : List Addr} {H : Hp} {e : Env} {S S' : Sto} {x : D} {v : V} {u : Value} {b : Bool} {Q : VK},
    os ≠ [] → L2.Inv X pins σ H s → ER ρ H e σ → SR X.K ρ H S → VR ρ H x v → L2.RelV v u → evalC os bs e x true S = some (b, S') → Fin X.K ρ H (.bl b) S' Q →
    wpAny (model X.prog X.w) X.A (compareChain pos u (os.map oc) (evalEach bs' X.env)) (EP X pins σ Q) X.xe s := by
  induction hb with
  | nil =>
    intro os pins σ s ρ H e S S' x v u b Q hn I hE hS r ru h k
    cases os with
    | nil => exact absurd rfl hn
    | cons o os => simp only [evalC] at h; cases h
  | @cons y y' ys ys' hy ht ih =>
    intro os pins σ s ρ H e S S' x v u b Q hn I hE hS r ru h k
    cases os with
    | nil => exact absurd rfl hn
    | cons o os =>
      simp only [evalC] at h
      split at h
      · cases h
      · rename_i dy S1 e1
        split at h
        · cases h
        · rename_i c1 ec
          cases os with
          | nil =>
            cases ht with
            | nil =>
              simp only [evalC] at h
              cases h
              refine chain_last (thn (hy.v.run pins s σ H _ I ⟨ρ, e, S, dy, S', hE, hS, e1, fun ρ1 H1 w g1 s1 r1 => ?_⟩) fun u2 s2 ⟨w, H2, I2, r2, q2⟩ => op_cmpN hu o pins s2 σ H2 v w u u2 Q I2 ru r2 q2)
              exact ⟨ρ1, S', x, dy, .bl b, S', s1, r.go g1, r1, cmpR_of ec, k.go g1⟩
            | cons _ _ => simp only [evalC] at h; cases h
          | cons o2 os =>
            cases ht with
            | nil => simp only [evalC] at h; cases h
            | @cons z z' zs zs' hz ht2 =>
              refine chain_link (thn (hy.v.run pins s σ H (fun w H1 => r2 X.K (fun S a b => cmpR S o a b) v w H1 fun c H2 => c = .bl c1 ∧ ∃ ρ2, Go ρ H ρ2 H2 ∧ SR X.K ρ2 H2 S1 ∧ VR ρ2 H2 dy w) I ⟨ρ, e, S, dy, S1, hE, hS, e1, fun ρ1 H1 w g1 s1 r1 => ⟨ρ1, S1, x, dy, .bl c1, S1, s1, r.go g1, r1, cmpR_of ec, fun ρ2 H2 w2 g2 s2 rr => by cases rr; exact ⟨rfl, ρ2, g1.trans g2, s2, r1.go g2⟩⟩⟩) fun u2 s2 ⟨w, H2, I2, rw2, q2⟩ =>
                thn (op_cmpN hu o pins s2 σ H2 v w u u2 _ I2 ru rw2 q2) fun c s3 ⟨w3, H3, I3, r3, q3⟩ => ?_)
              obtain ⟨ew, ρ3, g3, s3', ry⟩ := q3
              subst ew
              cases r3
              refine wpAny_truthy_bool ?_
              cases c1 with
              | false =>
                simp only [evalC] at h
                cases h
                exact ite_ff ⟨.bl false, H3, I3, rfl, k ρ3 H3 _ g3 s3' (.bl false)⟩
              | true =>
                exact ite_tt (ih (o2 :: os) (by simp) I3 (hE.go g3) s3' ry rw2 h (k.go g3))
theorem testV (hu : X.A.units + 65 < cLine) {bs : List Ex} {bs' : List Expr} (hb : All2 (Is X) bs bs') : ∀ (os : List Cmp) {pins : List (Addr × Obj)} {σ : L2.St} {s : Shared} {ρ : List Addr} {H : Hp} {e : Env} {S S' : Sto} {x : D} {v : V} {u : Value} {b : Bool} {Q : Bool → Hp → Prop},
    os ≠ [] → L2.Inv X pins σ H s → ER ρ H e σ → SR X.K ρ H S → VR ρ H x v → L2.RelV v u → evalC os bs e x true S = some (b, S') → (∀ ρ' H', Go ρ H ρ' H' → SR X.K ρ' H' S' → Q b H') →
    wpAny (model X.prog X.w) X.A (testChain pos u (os.map oc) (evalEach bs' X.env)) (TP X pins σ Q) X.xe s := by
  induction hb with
  | nil =>
    intro os pins σ s ρ H e S S' x v u b Q hn I hE hS r ru h k
    cases os with
    | nil => exact absurd rfl hn
    | cons o os => simp only [evalC] at h; cases h
  | @cons y y' ys ys' hy ht ih =>
    intro os pins σ s ρ H e S S' x v u b Q hn I hE hS r ru h k
    cases os with
    | nil => exact absurd rfl hn
    | cons o os =>
      simp only [evalC] at h
      split at h
      · cases h
      · rename_i dy S1 e1
        split at h
        · cases h
        · rename_i c1 ec
          have run : ∀ {T : Sem Bool → Sem Bool}, True := fun {_} => trivial
          have part : ∀ (R : Value → Shared → Prop), (∀ u2 s2 w H2, L2.Inv X pins σ H2 s2 → L2.RelV w u2 → (∃ ρ1, Go ρ H ρ1 H2 ∧ SR X.K ρ1 H2 S1 ∧ VR ρ1 H2 dy w) → R u2 s2) → wpAny (model X.prog X.w) X.A (eval y' X.env) R X.xe s := fun R hR =>
            thn (hy.v.run pins s σ H (fun w H1 => ∃ ρ1, Go ρ H ρ1 H1 ∧ SR X.K ρ1 H1 S1 ∧ VR ρ1 H1 dy w) I ⟨ρ, e, S, dy, S1, hE, hS, e1, fun ρ1 H1 w g1 s1 r1 => ⟨ρ1, g1, s1, r1⟩⟩) fun u2 s2 ⟨w, H2, I2, r2, q2⟩ => hR u2 s2 w H2 I2 r2 q2
          have comp : ∀ (u2 : Value) (s2 : Shared) (w : V) (H2 : Hp) (R : Value → Shared → Prop), L2.Inv X pins σ H2 s2 → L2.RelV w u2 → (∃ ρ1, Go ρ H ρ1 H2 ∧ SR X.K ρ1 H2 S1 ∧ VR ρ1 H2 dy w) →
              (∀ s3 H3 ρ3, L2.Inv X pins σ H3 s3 → Go ρ H ρ3 H3 → SR X.K ρ3 H3 S1 → VR ρ3 H3 dy w → R (.bool c1) s3) → wpAny (model X.prog X.w) X.A (compareOp (oc o) u u2) R X.xe s2 := fun u2 s2 w H2 R I2 rw2 ⟨ρ1, g1, s1, r1⟩ hR =>
            thn (op_cmpN hu o pins s2 σ H2 v w u u2 (fun c H3 => c = .bl c1 ∧ ∃ ρ3, Go ρ H ρ3 H3 ∧ SR X.K ρ3 H3 S1 ∧ VR ρ3 H3 dy w) I2 ru rw2 ⟨ρ1, S1, x, dy, .bl c1, S1, s1, r.go g1, r1, cmpR_of ec, fun ρ2 H2 w2 g2 s2 rr => by cases rr; exact ⟨rfl, ρ2, g1.trans g2, s2, r1.go g2⟩⟩) fun c s3 ⟨w3, H3, I3, r3, e3, ρ3, g3, s3', ry⟩ => by
              subst e3
              cases r3
              exact hR s3 H3 ρ3 I3 g3 s3' ry
          cases os with
          | nil =>
            cases ht with
            | nil =>
              simp only [evalC] at h
              cases h
              refine test_last (part _ fun u2 s2 w H2 I2 r2 q2 => comp u2 s2 w H2 _ I2 r2 q2 fun s3 H3 ρ3 I3 g3 s3' ry => wpAny_truthy_bool ⟨H3, I3, k ρ3 H3 g3 s3'⟩)
            | cons _ _ => simp only [evalC] at h; cases h
          | cons o2 os =>
            cases ht with
            | nil => simp only [evalC] at h; cases h
            | @cons z z' zs zs' hz ht2 =>
              refine test_link (part _ fun u2 s2 w H2 I2 rw2 q2 => comp u2 s2 w H2 _ I2 rw2 q2 fun s3 H3 ρ3 I3 g3 s3' ry => wpAny_truthy_bool ?_)
              cases c1 with
              | false =>
                simp only [evalC] at h
                cases h
                exact ite_ff ⟨H3, I3, k ρ3 H3 g3 s3'⟩
              | true =>
                exact ite_tt (ih (o2 :: os) (by simp) I3 (hE.go g3) s3' ry rw2 h fun ρ' H' g' s' => k ρ' H' (g3.trans g') s')
end
end N
set_option autoImplicit false
set_option Elab.async false
set_option linter.all false
set_option maxRecDepth 100000
set_option maxHeartbeats 4000000
namespace N
open PySem L2 PySem.Spec PyProof.Rows
/-! ### what is picked -/
theorem filt_congr {α β : Type} {f g : α → Option β} : ∀ {l : List α}, (∀ x ∈ l, f x = g x) → l.filterMap f = l.filterMap g
  | [], _ => rfl
  | x :: xs, h => by
    rw [List.filterMap_cons, List.filterMap_cons, h x (by simp), filt_congr fun y hy => h y (by simp [hy])]
theorem filt_rev {xs : Array Value} (j : Nat) (h : j ≤ xs.size) : ((List.range (xs.size - j)).map fun m => xs.size - 1 - m).filterMap (xs[·]?) = (xs.toList.drop j).reverse := by
  have e : ((List.range (xs.size - j)).map fun m => xs.size - 1 - m) = ((List.range (xs.size - j)).map (j + ·)).reverse := by
    apply List.ext_getElem
    · simp
    · intro i h1 h2
      simp at h1
      rw [List.getElem_reverse]
      simp
      omega
  rw [e, List.filterMap_reverse, pick_run, List.take_of_length_le]
  rw [List.length_drop, Array.length_toList]
  exact Nat.le_refl _
/-- where a slice begins, its step, how many: as the tuple's rule has it -/
def slB (lo hi st : Option Int) (n : Nat) : Int × Int × Nat := ((Builtin.Slice.sliceAdjust lo hi (st.getD 1) n).1, st.getD 1, Builtin.Slice.slicePlaces (Builtin.Slice.sliceAdjust lo hi (st.getD 1) n).1 (Builtin.Slice.sliceAdjust lo hi (st.getD 1) n).2 (st.getD 1))
def slPick (xs : Array Value) (b : Int × Int × Nat) : List Value := (List.range b.2.2).filterMap fun (k : Nat) => xs[(b.1 + (k : Int) * b.2.1).toNat]?
theorem sIx_HT (n d : Nat) (o : Option Int) : N.sIx n d o = HT.sIx n d o := by
  cases o <;> rfl
theorem slB_one (lo hi : Option Int) (n : Nat) (st : Option Int) (h : st.getD 1 = 1) : slB lo hi st n = (((N.sIx n 0 lo : Nat) : Int), 1, N.sIx n n hi - N.sIx n 0 lo) := by
  unfold slB
  rw [h, HT.adjust_gen lo hi n, HT.places_gen, sIx_HT, sIx_HT]
theorem slB_back (n : Nat) (hi : Option Int) (j : Nat) (h : (hi = none ∧ j = 0) ∨ ∃ i : Int, hi = some i ∧ 0 ≤ i ∧ j = i.toNat + 1) : ∃ l : Int, slB none hi (some (-1)) n = ((n : Int) - 1, -1, n - j) := by
  refine ⟨0, ?_⟩
  unfold slB Builtin.Slice.sliceAdjust Builtin.Slice.slicePlaces
  have c1 : ((some (-1) : Option Int).getD 1) = -1 := rfl
  have c2 : ((-1 : Int) < 0) := by decide
  have c3 : ¬ ((-1 : Int) > 0) := by decide
  simp only [c1, c2, c3, if_true, if_false]
  refine Prod.ext rfl (Prod.ext rfl ?_)
  have d1 : (- -1 : Int) = 1 := by decide
  rcases h with ⟨rfl, rfl⟩ | ⟨i, rfl, h0, rfl⟩
  · simp only [d1, Int.ediv_one]
    split <;> omega
  · have c4 : ¬ i < 0 := by omega
    simp only [c4, if_false, d1, Int.ediv_one]
    split <;> omega
theorem slPick_one (its : List Value) (lo hi : Option Int) (st : Option Int) (h : st.getD 1 = 1) : slPick its.toArray (slB lo hi st its.toArray.size) = cut its lo hi := by
  rw [slB_one lo hi _ st h]
  unfold slPick
  have := HT.pick_gen its.toArray (N.sIx its.toArray.size 0 lo) (N.sIx its.toArray.size its.toArray.size hi - N.sIx its.toArray.size 0 lo)
  have q := congrArg Array.toList this
  simp only [List.toList_toArray] at q
  show List.filterMap (fun (m : Nat) => its.toArray[(((N.sIx its.toArray.size 0 lo : Nat) : Int) + (m : Int) * 1).toNat]?) _ = _
  rw [q]
  unfold cut
  simp
theorem slPick_back (its : List Value) (hi : Option Int) (j : Nat) (h : (hi = none ∧ j = 0) ∨ ∃ i : Int, hi = some i ∧ 0 ≤ i ∧ j = i.toNat + 1) : slPick its.toArray (slB none hi (some (-1)) its.toArray.size) = (its.drop j).reverse := by
  obtain ⟨_, e⟩ := slB_back its.toArray.size hi j h
  rw [e]
  unfold slPick
  by_cases hj : j ≤ its.toArray.size
  · have q := filt_rev (xs := its.toArray) j hj
    rw [List.filterMap_map] at q
    simp only [List.toList_toArray] at q
    rw [← q]
    refine filt_congr fun k hk => ?_
    have := List.mem_range.mp hk
    show its.toArray[(((its.toArray.size : Nat) : Int) - 1 + (k : Int) * -1).toNat]? = its.toArray[its.toArray.size - 1 - k]?
    congr 1
    omega
  · have z : its.toArray.size - j = 0 := by omega
    rw [z, List.drop_eq_nil_of_le (by simp at hj; omega)]
    rfl
theorem pick_slB (its : List Value) (lo hi st : Option Int) (h : st.getD 1 = 1 ∨ (st = some (-1) ∧ lo = none ∧ (hi = none ∨ ∃ i : Int, hi = some i ∧ 0 ≤ i))) : (slicePick its.toArray lo hi st) = (slPick its.toArray (slB lo hi st its.toArray.size)).toArray := by
  unfold slicePick slPick
  congr 1
  have key : sliceRange (sliceBounds lo hi st its.toArray.size).1 (sliceBounds lo hi st its.toArray.size).2.1 (sliceBounds lo hi st its.toArray.size).2.2 = (List.range (slB lo hi st its.toArray.size).2.2).map fun (k : Nat) => ((slB lo hi st its.toArray.size).1 + (k : Int) * (slB lo hi st its.toArray.size).2.1).toNat := by
    generalize its.toArray.size = n
    rcases h with h | ⟨rfl, rfl, h⟩
    · rw [slB_one lo hi n st h]
      have c2 : ((1 : Int) > 0) := by decide
      have b1 : (sliceBounds lo hi st n).1 = ((N.sIx n 0 lo : Nat) : Int) := by
        unfold sliceBounds
        simp only [h, c2, if_true]
        cases lo with
        | none => rfl
        | some i => simp only [N.sIx]; split <;> omega
      have b2 : (sliceBounds lo hi st n).2.1 = ((N.sIx n n hi : Nat) : Int) := by
        unfold sliceBounds
        simp only [h, c2, if_true]
        cases hi with
        | none => rfl
        | some i => simp only [N.sIx]; split <;> omega
      have b3 : (sliceBounds lo hi st n).2.2 = 1 := h
      rw [b1, b2, b3]
      unfold sliceRange
      simp only [c2, if_true]
      have e : (if ((N.sIx n 0 lo : Nat) : Int) < ((N.sIx n n hi : Nat) : Int) then (((N.sIx n n hi : Nat) : Int) - ((N.sIx n 0 lo : Nat) : Int) + 1 - 1) / 1 else 0).toNat = N.sIx n n hi - N.sIx n 0 lo := by
        rw [Int.ediv_one]
        split <;> omega
      rw [e]
      apply List.map_congr_left
      intro k _
      omega
    · have hh : ∃ j, (hi = none ∧ j = 0) ∨ ∃ i : Int, hi = some i ∧ 0 ≤ i ∧ j = i.toNat + 1 := by
        rcases h with h | ⟨i, h, h0⟩
        · exact ⟨0, .inl ⟨h, rfl⟩⟩
        · exact ⟨_, .inr ⟨i, h, h0, rfl⟩⟩
      obtain ⟨j, hj⟩ := hh
      obtain ⟨_, e⟩ := slB_back n hi j hj
      rw [e]
      have c2 : ¬ ((-1 : Int) > 0) := by decide
      have b1 : (sliceBounds none hi (some (-1)) n).1 = (n : Int) - 1 := by
        unfold sliceBounds; rfl
      have b3 : (sliceBounds none hi (some (-1)) n).2.2 = -1 := rfl
      have b2 : (sliceBounds none hi (some (-1)) n).2.1 = (if j = 0 then -1 else min ((j : Int) - 1) ((n : Int) - 1)) := by
        rcases hj with ⟨rfl, rfl⟩ | ⟨i, rfl, h0, rfl⟩
        · rfl
        · unfold sliceBounds
          have c4 : ¬ i < 0 := by omega
          have c5 : ¬ (i.toNat + 1 = 0) := by omega
          show (let i' := if i < 0 then i + (n : Int) else i; if ((some (-1) : Option Int).getD 1) > 0 then max 0 (min i' (n : Int)) else max (-1) (min i' ((n : Int) - 1))) = _
          simp only [c4, if_false]
          rw [if_neg (by decide), if_neg c5]
          omega
      rw [b1, b2, b3]
      unfold sliceRange
      simp only [c2, if_false]
      have d1 : (- -1 : Int) = 1 := by decide
      have e2 : (if (n : Int) - 1 > (if j = 0 then -1 else min ((j : Int) - 1) ((n : Int) - 1)) then ((n : Int) - 1 - (if j = 0 then -1 else min ((j : Int) - 1) ((n : Int) - 1)) - -1 - 1) / (- -1) else 0).toNat = n - j := by
        rw [d1, Int.ediv_one]
        by_cases z : j = 0
        · rw [if_pos z]; split <;> omega
        · rw [if_neg z]; split <;> omega
      rw [e2]
      apply List.map_congr_left
      intro k _
      omega
  rw [key, List.filterMap_map]
  rfl
/-- the part of slc that is served -/
theorem slc_cases {α : Type} {xs ys : List α} {lo hi st : Option Int} (h : slc xs lo hi st = some ys) :
    (st.getD 1 = 1 ∧ ys = cut xs lo hi) ∨ (st = some (-1) ∧ lo = none ∧ ∃ j, ((hi = none ∧ j = 0) ∨ ∃ i : Int, hi = some i ∧ 0 ≤ i ∧ j = i.toNat + 1) ∧ ys = (xs.drop j).reverse) := by
  unfold slc at h
  split at h
  · cases h; exact .inl ⟨rfl, rfl⟩
  · rename_i c
    split at h
    · rename_i e; cases h; exact .inl ⟨by rw [e]; rfl, rfl⟩
    · split at h
      · rename_i e
        subst e
        split at h
        · cases h; exact .inr ⟨rfl, rfl, 0, .inl ⟨rfl, rfl⟩, by simp⟩
        · split at h
          · rename_i i h0; cases h; exact .inr ⟨rfl, rfl, _, .inr ⟨_, rfl, h0, rfl⟩, rfl⟩
          · cases h
        · cases h
      · cases h
theorem slc_ok {α : Type} {xs ys : List α} {lo hi st : Option Int} (h : slc xs lo hi st = some ys) : st.getD 1 = 1 ∨ (st = some (-1) ∧ lo = none ∧ (hi = none ∨ ∃ i : Int, hi = some i ∧ 0 ≤ i)) := by
  rcases slc_cases h with ⟨e, _⟩ | ⟨e1, e2, j, h, _⟩
  · exact .inl e
  · refine .inr ⟨e1, e2, ?_⟩
    rcases h with ⟨h, _⟩ | ⟨i, h, h0, _⟩
    · exact .inl h
    · exact .inr ⟨i, h, h0⟩
theorem slc_step {α : Type} {xs ys : List α} {lo hi st : Option Int} (h : slc xs lo hi st = some ys) : st ≠ some 0 := by
  intro z
  rcases slc_ok h with e | ⟨e, _⟩
  · rw [z] at e; cases e
  · rw [z] at e; cases e
/-- a slice of another row, as long, is cut alike -/
theorem slc_map {α β : Type} {R : List α → List β → Prop} (hd : ∀ n xs ys, R xs ys → R (xs.drop n) (ys.drop n)) (ht : ∀ n xs ys, R xs ys → R (xs.take n) (ys.take n)) (hr : ∀ xs ys, R xs ys → R xs.reverse ys.reverse) {xs : List α} {zs : List β} (r : R xs zs) (hl : xs.length = zs.length)
    {ys : List α} {lo hi st : Option Int} (h : slc xs lo hi st = some ys) : ∃ ws, slc zs lo hi st = some ws ∧ R ys ws := by
  have cutR : R (cut xs lo hi) (cut zs lo hi) := by unfold cut; rw [hl]; exact ht _ _ _ (hd _ _ _ r)
  unfold slc at h ⊢
  split at h
  · cases h; exact ⟨_, rfl, cutR⟩
  · split at h
    · rename_i e; cases h; exact ⟨_, by simp [e], cutR⟩
    · split at h
      · rename_i n1 e
        subst e
        split at h
        · cases h; exact ⟨_, rfl, hr _ _ r⟩
        · split at h
          · rename_i h0; cases h; exact ⟨(zs.drop _).reverse, by simp [h0], hr _ _ (hd _ _ _ r)⟩
          · cases h
        · cases h
      · cases h
theorem slPick_slc {its ws : List Value} {lo hi st : Option Int} (h : slc its lo hi st = some ws) : slPick its.toArray (slB lo hi st its.toArray.size) = ws := by
  rcases slc_cases h with ⟨e, rfl⟩ | ⟨rfl, rfl, j, hj, rfl⟩
  · exact slPick_one its lo hi st e
  · exact slPick_back its hi j hj
theorem slc_len {α : Type} {xs ys : List α} {lo hi st : Option Int} (h : slc xs lo hi st = some ys) : ys.length ≤ xs.length := by
  rcases slc_cases h with ⟨_, rfl⟩ | ⟨_, _, j, _, rfl⟩
  · unfold cut; rw [List.length_take, List.length_drop]; omega
  · rw [List.length_reverse, List.length_drop]; omega
end N
set_option autoImplicit false
set_option Elab.async false
set_option linter.all false
set_option maxRecDepth 100000
set_option maxHeartbeats 4000000
namespace N
open PySem L2 PySem.Spec PyProof.Rows
section
variable {X : Cx} {K : PySem.W.Frag} {ρ ρ' : List Addr} {H H' : Hp} {S S' : Sto} {d : D} {v : V} {e : Env} {σ : L2.St}
theorem SR.scr {n : Nat} {a : Addr} {ns : List Int} (s : SR K ρ H S) (h1 : S[n]? = some (.scr ns)) (h2 : ρ[n]? = some a) : SqL K H a (ns.map V.int) := by
  obtain ⟨o, e⟩ := s.at_ n _ a h1 h2
  exact .inl (.inr ⟨o, e⟩)
/-- a list of the store as a row -/
theorem SR.row {n : Nat} {a : Addr} {xs : List D} (s : SR K ρ H S) (h : S[n]? = some (.lst xs)) (h2 : ρ[n]? = some a) : ∃ vs, SqL K H a vs ∧ VRs ρ H xs vs := by
  obtain ⟨vs, q, r⟩ := s.lst h h2
  exact ⟨vs, .of q, r⟩
theorem VRs.at_ {xs : List D} {vs : List V} {i : Int} (r : VRs ρ H xs vs) (h : ((N.ixN xs.length i).bind fun j => xs[j]?) = some d) : ∃ w, atI vs i = some w ∧ VR ρ H d w := by
  obtain ⟨j, h1, h2⟩ := Option.bind_eq_some_iff.mp h
  obtain ⟨w, q1, q2⟩ := r.get h2
  refine ⟨w, ?_, q2⟩
  unfold atI
  rw [r.len] at h1
  rw [show L2.ixN vs.length i = some j from h1]
  exact q1
/-! ### a[i] -/
theorem ix_N (hu : X.A.units + 1 < cLine) : IxR X (r2 X.K fun S a b => match idxI S a b with
    | none => none
    | some d => some (d, S)) := by
  intro value slice pins s σ H x y v u Q I rx ry h hs
  obtain ⟨ρ, S, da, db, d, S', hS, ra, rb, hr, k⟩ := h
  have dct : ∀ {n : Nat} {kvs : List (D × D)} {a : Addr}, x = V.ref a → ρ[n]? = some a → S[n]? = some (.dct kvs) → (if keysOk kvs db = true then dget kvs db else none) = some d → S' = S →
      wpAny (model X.prog X.w) X.A (subscriptTail value slice v u) (EP X pins σ Q) X.xe s := fun {n kvs a} ex ea e1 e2 e3 => by
    subst ex e3
    cases rx
    split at e2
    · rename_i hk
      obtain ⟨H', r, I', S1, g, dg, o⟩ := dict_get I hS e1 ea rb hk
      rw [e2] at o
      cases r with
      | none => cases o
      | some w => exact tail_any (dict_typeIs I' dg) PySem.F.slot_dict_getitem.lookup (d_getItem hu I' dg ry fun w' s' I2 rw' => ⟨w, H', I2, rw', k ρ H' w g S1 o⟩) hs
    · cases e2
  cases ra with
  | non => cases rb <;> cases hr
  | bl _ => cases rb <;> cases hr
  | int _ => cases rb <;> cases hr
  | str _ => cases rb <;> cases hr
  | rep => cases rb <;> cases hr
  | tup ea rs =>
    cases rb <;> simp only [idxI] at hr <;> try (cases hr; done)
    rename_i i
    split at hr
    · cases hr
    · rename_i d' e1
      cases hr
      obtain ⟨w, q1, q2⟩ := rs.at_ e1
      exact ix_tup value slice pins s σ H _ _ v u Q I rx ry ⟨_, _, i, w, rfl, rfl, .of ea, q1, k.ret hS q2⟩ hs
  | ref ea =>
    rename_i n a
    by_cases hi : ∃ i, db = .int i
    · obtain ⟨i, rfl⟩ := hi
      cases rb
      simp only [idxI] at hr
      split at hr
      · cases hr
      · rename_i d' e1
        cases hr
        split at e1
        · rename_i xs e2
          obtain ⟨vs, q, rs⟩ := hS.row e2 ea
          obtain ⟨w, q1, q2⟩ := rs.at_ e1
          exact ix_list value slice pins s σ H _ _ v u Q I rx ry ⟨_, _, i, w, rfl, rfl, q, q1, k.ret hS q2⟩ hs
        · rename_i kvs e2
          exact dct rfl ea e2 e1 rfl
        · cases e1
    · have he : idxI S (.ref n) db = match S[n]? with
        | some (.dct kvs) => if keysOk kvs db then dget kvs db else none
        | _ => none := by
        cases db <;> first | rfl | exact absurd ⟨_, rfl⟩ hi
      replace hr : (match idxI S (D.ref n) db with | none => none | some d => some (d, S)) = some (d, S') := hr
      rw [he] at hr
      split at hr
      · cases hr
      · rename_i d' e1
        cases hr
        split at e1
        · rename_i kvs e2
          exact dct rfl ea e2 e1 rfl
        · cases e1
theorem se_idx {a b : Expr} {x y : Ex} {pos : Pos} (hu : X.A.units + 1 < cLine) (ha : SE X a (evalE x)) (hb : SE X b (evalE y)) (hs : PlainIx b) : SE X (.Subscript a b pos) (evalE (.idx x y)) :=
  PE.imp (pe_ix (ix_N hu) ha hb hs) fun σ H Q q => seq2 (g := fun S a b => match idxI S a b with
    | none => none
    | some d => some (d, S)) (by
    obtain ⟨ρ, e, S, d, S', h1, h2, h3, h4⟩ := q
    simp only [evalE] at h3
    exact ⟨ρ, e, S, d, S', h1, h2, h3, h4⟩)
/-! ### slices -/
def TOv (K : PySem.W.Frag) (x : Env → Sto → RE) : TO := fun σ H Q => ∃ ρ e S d S' o, ER ρ H e σ ∧ SR K ρ H S ∧ x e S = some (d, S') ∧ optI d = some o ∧ ∀ ρ' H', Go ρ H ρ' H' → SR K ρ' H' S' → Q o H'
def SO (X : Cx) (E : Option Expr) (x : Ex) : Prop := PO X E (TOv X.K (evalE x))
theorem so_none : SO X none .abs := by
  refine ⟨fun pins s σ H Q I h => ?_⟩
  obtain ⟨ρ, e, S, d, S', o, h1, h2, h3, h4, h5⟩ := h
  simp only [evalE] at h3
  cases h3
  cases h4
  rw [evalPart_none]
  exact wpAny_pure ⟨none, H, I, .none, h5 ρ H .refl h2⟩
theorem so_some {E : Expr} {x : Ex} (h : SE X E (evalE x)) : SO X (some E) x := by
  refine ⟨fun pins s σ H Q I hw => ?_⟩
  obtain ⟨ρ, e, S, d, S', o, h1, h2, h3, h4, h5⟩ := hw
  rw [evalPart_some]
  refine thn (h.run pins s σ H (fun v H1 => ∃ ρ1, Go ρ H ρ1 H1 ∧ SR X.K ρ1 H1 S' ∧ VR ρ1 H1 d v) I ⟨ρ, e, S, d, S', h1, h2, h3, fun ρ1 H1 v g s r => ⟨ρ1, g, s, r⟩⟩) fun u s1 ⟨v, H1, I1, r1, ρ1, g, s1', r⟩ => ?_
  cases r <;> simp only [optI] at h4 <;> cases h4
  · cases r1
    exact ⟨none, H1, I1, .none, h5 ρ1 H1 g s1'⟩
  · obtain ⟨t, rfl⟩ := r1
    exact ⟨some _, H1, I1, .int _ t, h5 ρ1 H1 g s1'⟩
section
variable {prog : Program} {w : World} {A : Around} {E : Value → Shared → Prop} {s : Shared}
theorem sliceApplied_N {sl : Addr} {vl vu vs : Value} {lo hi st : Option Int} {n : Nat} {Q : Int × Int × Nat → Shared → Prop} (hs : s.heap.IsSliceOf sl vl vu vs) (pl : IsPart vl lo) (pu : IsPart vu hi) (ps : IsPart vs st) (h0 : st ≠ some 0)
    (h : Q (slB lo hi st n) s) : wpAny (model prog w) A (Builtin.Slice.sliceApplied (.ref sl) (pure (n : Int))) Q E s := by
  obtain ⟨os, hos, hcs, hds⟩ := id hs
  unfold Builtin.Slice.sliceApplied Builtin.Slice.sliceFields
  refine wpAny_bind (wpAny_bind (wpAny_field hos hds (x := vl) rfl (wpAny_bind (wpAny_field hos hds (x := vu) rfl (wpAny_bind (wpAny_field hos hds (x := vs) rfl (wpAny_pure ?_)))))))
  refine wpAny_bind (HT.slicePart_ ps ?_)
  show wpAny _ _ (if ((st.getD 1) == 0) = true then _ else _) _ _ s
  rw [if_neg (by
    intro z
    have := eq_of_beq z
    cases st with
    | none => cases this
    | some c => exact h0 (by rw [show c = 0 from this]))]
  refine wpAny_bind (HT.slicePart_ pl (wpAny_bind (HT.slicePart_ pu (wpAny_bind (wpAny_pure ?_)))))
  exact wpAny_pure h
theorem slB_whole (its : List Value) {lo hi st : Option Int} (h : ((slB lo hi st its.toArray.size).1 == 0 && (slB lo hi st its.toArray.size).2.1 == 1 && (slB lo hi st its.toArray.size).2.2 == its.toArray.size) = true) : slPick its.toArray (slB lo hi st its.toArray.size) = its := by
  rw [Bool.and_eq_true, Bool.and_eq_true] at h
  have h1 := eq_of_beq h.1.1
  have h2 := eq_of_beq h.1.2
  have h3 := eq_of_beq h.2
  unfold slPick
  rw [h1, h2, h3]
  have q := congrArg Array.toList (HT.pick_gen its.toArray 0 its.toArray.size)
  simp only [List.toList_toArray] at q
  rw [show (List.range its.toArray.size).filterMap (fun (k : Nat) => its.toArray[((0 : Int) + (k : Int) * 1).toNat]?) = (List.range its.toArray.size).filterMap (fun (m : Nat) => its.toArray[(((0 : Nat) : Int) + (m : Int) * 1).toNat]?) from rfl, q]
  simp
theorem getItem_tuple_C {t sl : Addr} {its : List Value} {vl vu vs : Value} {lo hi st : Option Int} {Q : Value → Shared → Prop} (ht : IsTup s.heap t its.toArray) (hs : s.heap.IsSliceOf sl vl vu vs) (pl : IsPart vl lo) (pu : IsPart vu hi) (ps : IsPart vs st) (h0 : st ≠ some 0)
    (hz : (slPick its.toArray (slB lo hi st its.toArray.size)).length ≤ sizeLine)
    (h1 : ((slB lo hi st its.toArray.size).1 == 0 && (slB lo hi st its.toArray.size).2.1 == 1 && (slB lo hi st its.toArray.size).2.2 == its.toArray.size) = true → Q (.ref t) s)
    (h : ¬ ((slB lo hi st its.toArray.size).1 == 0 && (slB lo hi st its.toArray.size).2.1 == 1 && (slB lo hi st its.toArray.size).2.2 == its.toArray.size) = true → Q (.ref s.heap.objs.size) { s with heap := s.heap.push { cls := .type "tuple", data := .seq (slPick its.toArray (slB lo hi st its.toArray.size)).toArray } }) : wpAny (model prog w) A (getItem (.ref t) (.ref sl)) Q E s := by
  obtain ⟨os, hos, hcs, hds⟩ := id hs
  have hTs : s.TypeIs (.ref sl) "slice" := ⟨os, hos, hcs⟩
  have htake : sizeOk (.seq (slPick its.toArray (slB lo hi st its.toArray.size)).toArray) := by
    show (slPick its.toArray (slB lo hi st its.toArray.size)).toArray.size ≤ sizeLine
    rw [List.size_toArray]; exact hz
  unfold getItem
  try with_reducible refine wpAny_holding ?_
  first | refine wpAny_bind (wpAny_pure ?_) | skip
  refine wpAny_bind (wpAny_sequenceKey ht.typeIs (by decide) ?_)
  refine wpAny_bind (wpAny_callSpecial?_slot (name := Str.ofString "__getitem__") ht.typeIs PyProof.Rows.slot_tuple_getitem
    (wpAny_call_entry PyProof.Rows.slot_tuple_getitem ht.typeIs entry_tuple_getitem ?_ (args_tuple_getitem _ _)))
  show wpAny _ _ (Builtin.Tuple.tupleItemsOf (.ref t) >>= _) _ _ s
  refine wpAny_bind (tupleItemsOf_ ht ?_)
  refine wpAny_bind (wpAny_typeOf hTs ?_)
  rw [if_pos (by decide)]
  refine wpAny_bind (sliceApplied_N hs pl pu ps h0 ?_)
  show wpAny _ _ (if ((slB lo hi st its.toArray.size).1 == 0 && (slB lo hi st its.toArray.size).2.1 == 1 && (slB lo hi st its.toArray.size).2.2 == its.toArray.size) = true then _ else _) _ _ s
  by_cases c : ((slB lo hi st its.toArray.size).1 == 0 && (slB lo hi st its.toArray.size).2.1 == 1 && (slB lo hi st its.toArray.size).2.2 == its.toArray.size) = true
  · rw [if_pos c]
    have h1 := h1 c
    refine wpAny_bind ?_
    show wpAny _ _ (typeOf (.ref t) >>= fun T => pure (T == .type "tuple")) _ _ s
    refine wpAny_bind (wpAny_typeOf ht.typeIs (wpAny_pure ?_))
    first
      | rw [if_pos (by decide)]
      | simp only [beq_self_eq_true, if_true]
    first
      | exact wpAny_bind (wpAny_rule (wpAny_pure ⟨_, rfl, wpAny_pure h1⟩))
      | exact wpAny_bind (wpAny_rule (wpAny_bind (wpAny_pure (wpAny_pure ⟨_, rfl, wpAny_pure h1⟩))))
  · rw [if_neg c]
    have h := h c
    try rw [if_neg Bool.false_ne_true]
    first
      | exact wpAny_bind (m := Builtin.Tuple.tupleExact _) (wpAny_newObj_type (wpAny_pure ⟨_, rfl, wpAny_pure h⟩) htake)
      | exact wpAny_bind (m := Builtin.Tuple.tupleExact _) (wpAny_newObj_type (wpAny_bind (wpAny_pure (wpAny_pure ⟨_, rfl, wpAny_pure h⟩))) htake)
      | exact wpAny_bind (wpAny_bind (m := Builtin.Tuple.tupleExact _) (wpAny_newObj_type (wpAny_pure (wpAny_pure ⟨_, rfl, wpAny_pure h⟩)) htake))
      | exact wpAny_bind (wpAny_bind (m := Builtin.Tuple.tupleExact _) (wpAny_newObj_type (wpAny_pure ⟨_, rfl, wpAny_pure h⟩) htake))
theorem getItem_tuple_N {t sl : Addr} {its : List Value} {vl vu vs : Value} {lo hi st : Option Int} {Q : Value → Shared → Prop} (ht : IsTup s.heap t its.toArray) (hs : s.heap.IsSliceOf sl vl vu vs) (pl : IsPart vl lo) (pu : IsPart vu hi) (ps : IsPart vs st) (h0 : st ≠ some 0)
    (hz : (slPick its.toArray (slB lo hi st its.toArray.size)).length ≤ sizeLine)
    (h1 : slPick its.toArray (slB lo hi st its.toArray.size) = its → Q (.ref t) s)
    (h : Q (.ref s.heap.objs.size) { s with heap := s.heap.push { cls := .type "tuple", data := .seq (slPick its.toArray (slB lo hi st its.toArray.size)).toArray } }) : wpAny (model prog w) A (getItem (.ref t) (.ref sl)) Q E s :=
  getItem_tuple_C ht hs pl pu ps h0 hz (fun c => h1 (slB_whole its c)) fun _ => h
end
end
end N
set_option autoImplicit false
set_option Elab.async false
set_option linter.all false
set_option maxRecDepth 100000
set_option maxHeartbeats 4000000
namespace N
open PySem L2 PySem.Spec PyProof.Rows
section
variable {X : Cx} {K : PySem.W.Frag} {ρ ρ' : List Addr} {H H' : Hp} {S S' : Sto} {d : D} {v : V} {e : Env} {σ : L2.St}
/-- a row of a list, of the script, cut -/
theorem sl_list_N {pins : List (Addr × Obj)} {s : Shared} {a sl : Addr} {vs : List V} {vl vu vst : Value} {lo hi st : Option Int} {ys : List V} {Q : Value → Shared → Prop} (I : L2.Inv X pins σ H s) (hq : SqL X.K H a vs) (hs : s.heap.IsSliceOf sl vl vu vst) (pl : IsPart vl lo) (pu : IsPart vu hi) (ps : IsPart vst st)
    (h : slc vs lo hi st = some ys) (k : ∀ s', L2.Inv X pins σ (upd H s.heap.objs.size (.lst ys)) s' → H s.heap.objs.size = none → Q (.ref s.heap.objs.size) s') :
    wpAny (model X.prog X.w) X.A (getItem (.ref a) (.ref sl)) Q X.xe s := by
  obtain ⟨its, r, ht, hz⟩ := I.list hq
  obtain ⟨ws, h1, h2⟩ := slc_map (R := Vals) (fun n _ _ r => r.drop n) (fun n _ _ r => r.take n) (fun _ _ r => r.reverse) r r.length h
  refine wpAny_getItem_list_slice ht.isList hs pl pu ps (slc_step h) ?_ (by rw [List.size_toArray, ← r.length]; exact hz)
  rw [pick_slB its lo hi st (slc_ok h1), slPick_slc h1]
  refine k _ (I.laid (t' := s.toks) (o := .lst ys) (fun b ob q => Heap.get?_push_of_some _ q) (Nat.le_refl _) ?_) (I.hok.fresh (Nat.le_refl _))
  exact ⟨Nat.le_trans (slc_len h) hz, ws, 0, h2, Heap.get?_push_size _ rfl⟩
theorem sl_tup_N {pins : List (Addr × Obj)} {s : Shared} {a sl : Addr} {vs : List V} {vl vu vst : Value} {lo hi st : Option Int} {ys : List V} {Q : Value → Shared → Prop} (I : L2.Inv X pins σ H s) (hq : SqT X.K H a vs) (hs : s.heap.IsSliceOf sl vl vu vst) (pl : IsPart vl lo) (pu : IsPart vu hi) (ps : IsPart vst st)
    (h : slc vs lo hi st = some ys) (k0 : ys = vs → Q (.ref a) s) (k : ∀ s', L2.Inv X pins σ (upd H s.heap.objs.size (.tup ys)) s' → H s.heap.objs.size = none → Q (.ref s.heap.objs.size) s') :
    wpAny (model X.prog X.w) X.A (getItem (.ref a) (.ref sl)) Q X.xe s := by
  obtain ⟨its, r, ht, hz⟩ := I.tuple hq
  obtain ⟨ws, h1, h2⟩ := slc_map (R := Vals) (fun n _ _ r => r.drop n) (fun n _ _ r => r.take n) (fun _ _ r => r.reverse) r r.length h
  have hw := slPick_slc h1
  refine getItem_tuple_N ht hs pl pu ps (slc_step h) (by rw [hw, ← h2.length]; exact Nat.le_trans (slc_len h) hz) (fun q => k0 ?_) ?_
  · rw [hw] at q
    subst q
    exact Vals.inj h2 r
  · rw [hw]
    refine k _ (I.laid (t' := s.toks) (o := .tup ys) (fun b ob q => Heap.get?_push_of_some _ q) (Nat.le_refl _) ?_) (I.hok.fresh (Nat.le_refl _))
    exact ⟨Nat.le_trans (slc_len h) hz, ws, h2, IsTup.new _ _⟩
/-- a tuple known as an object, cut by ones -/
theorem sl_ftp_N {pins : List (Addr × Obj)} {s : Shared} {a sl : Addr} {vs : List V} {vl vu vst : Value} {lo hi : Option Int} {Q : Value → Shared → Prop} (I : L2.Inv X pins σ H s) (hq : SqT X.K H a vs) (hs : s.heap.IsSliceOf sl vl vu vst) (pl : IsPart vl lo) (pu : IsPart vu hi) (ps : IsPart vst none)
    (k0 : (N.sIx vs.length 0 lo = 0 ∧ N.sIx vs.length vs.length hi = vs.length) → Q (.ref a) s) (k : ¬ (N.sIx vs.length 0 lo = 0 ∧ N.sIx vs.length vs.length hi = vs.length) → ∀ s' ob, ob.cls = .type "tuple" → ob.dict = none → L2.Inv X pins σ (upd H s.heap.objs.size (.frz ob (.tup (cut vs lo hi)))) s' → H s.heap.objs.size = none → Q (.ref s.heap.objs.size) s') :
    wpAny (model X.prog X.w) X.A (getItem (.ref a) (.ref sl)) Q X.xe s := by
  obtain ⟨its, r, ht, hz⟩ := I.tuple hq
  have h : slc vs lo hi none = some (cut vs lo hi) := rfl
  obtain ⟨ws, h1, h2⟩ := slc_map (R := Vals) (fun n _ _ r => r.drop n) (fun n _ _ r => r.take n) (fun _ _ r => r.reverse) r r.length h
  have hw := slPick_slc h1
  have hlen : its.toArray.size = vs.length := by rw [List.size_toArray, ← r.length]
  have hc : ((slB lo hi none its.toArray.size).1 == 0 && (slB lo hi none its.toArray.size).2.1 == 1 && (slB lo hi none its.toArray.size).2.2 == its.toArray.size) = true ↔ (N.sIx vs.length 0 lo = 0 ∧ N.sIx vs.length vs.length hi = vs.length) := by
    rw [slB_one lo hi _ none rfl, hlen]
    simp only [Bool.and_eq_true, beq_iff_eq]
    constructor
    · rintro ⟨⟨a, _⟩, b⟩
      have a : N.sIx vs.length 0 lo = 0 := by omega
      rw [a] at b
      exact ⟨a, by omega⟩
    · rintro ⟨a, b⟩
      rw [a, b]
      exact ⟨⟨rfl, trivial⟩, by omega⟩
  refine getItem_tuple_C ht hs pl pu ps (slc_step h) (by rw [hw, ← h2.length]; exact Nat.le_trans (slc_len h) hz) (fun q => k0 (hc.mp q)) fun q => ?_
  rw [hw]
  refine k (fun z => q (hc.mpr z)) _ { cls := .type "tuple", data := .seq ws.toArray } rfl rfl (I.laid (t' := s.toks) (o := .frz _ (.tup (cut vs lo hi))) (fun b ob q => Heap.get?_push_of_some _ q) (Nat.le_refl _) ⟨Heap.get?_push_size _ rfl, ?_⟩) (I.hok.fresh (Nat.le_refl _))
  exact ⟨Nat.le_trans (slc_len h) hz, ws, h2, IsTup.new _ _⟩
theorem tail_sl {M : Program} {w : World} {A : Around} {xe : Value → Shared → Prop} {s : Shared} {value : Expr} {Lo Hi St : Option Expr} {p : Pos} {o i : Value} {T id : String} {Q : Value → Shared → Prop} (hT : s.TypeIs o T)
    (hl : typeLookup (.type T) "__getitem__" = pure (some (.builtin id))) (hg : wpAny (model M w) A (getItem o i) Q xe s) : wpAny (model M w) A (subscriptTail value (.Slice Lo Hi St p) o i) Q xe s := by
  cases St with
  | none => exact tail_any (ops := [i, o]) hT hl hg rfl
  | some _ => exact tail_any (ops := [o, i]) hT hl hg rfl
theorem se_slc {E : Expr} {x lo hi st : Ex} {Lo Hi St : Option Expr} {p pos : Pos} (he : SE X E (evalE x)) (hl : SO X Lo lo) (hh : SO X Hi hi) (ht : SO X St st) : SE X (.Subscript E (.Slice Lo Hi St p) pos) (evalE (.slc x lo hi st)) := by
  refine ⟨fun pins s σ H Q I h => ?_⟩
  obtain ⟨ρ, e, S, d, S', hE, hS, h, k⟩ := h
  simp only [evalE] at h
  split at h
  · cases h
  rename_i dx S1 e1
  split at h
  · cases h
  rename_i l S2 e2
  split at h
  · cases h
  rename_i u S3 e3
  split at h
  · cases h
  rename_i t S4 e4
  unfold slcI at h
  split at h
  case h_2 => cases h
  rename_i lo' hi' st' o1 o2 o3
  refine Subscript_ (thn (he.run pins s σ H (fun v H1 => ∃ ρ1, Go ρ H ρ1 H1 ∧ SR X.K ρ1 H1 S1 ∧ VR ρ1 H1 dx v) I ⟨ρ, e, S, dx, S1, hE, hS, e1, fun ρ1 H1 v g s r => ⟨ρ1, g, s, r⟩⟩) fun v s1 ⟨xv, H1, I1, rv, ρ1, g1, hS1, r1⟩ => ?_)
  refine wpAny_Slice (thn (hl.run pins s1 σ H1 (fun o H2 => o = lo' ∧ ∃ ρ2, Go ρ1 H1 ρ2 H2 ∧ SR X.K ρ2 H2 S2) I1 ⟨ρ1, e, S1, l, S2, _, hE.go g1, hS1, e2, o1, fun ρ2 H2 g2 s2 => ⟨rfl, ρ2, g2, s2⟩⟩) fun vl s2 ⟨_, H2, I2, pl, el, ρ2, g2, hS2⟩ => ?_)
  subst el
  refine thn (hh.run pins s2 σ H2 (fun o H3 => o = hi' ∧ ∃ ρ3, Go ρ2 H2 ρ3 H3 ∧ SR X.K ρ3 H3 S3) I2 ⟨ρ2, e, S2, u, S3, _, (hE.go g1).go g2, hS2, e3, o2, fun ρ3 H3 g3 s3 => ⟨rfl, ρ3, g3, s3⟩⟩) fun vu s3 ⟨_, H3, I3, pu, eu, ρ3, g3, hS3⟩ => ?_
  subst eu
  refine thn (ht.run pins s3 σ H3 (fun o H4 => o = st' ∧ ∃ ρ4, Go ρ3 H3 ρ4 H4 ∧ SR X.K ρ4 H4 S4) I3 ⟨ρ3, e, S3, t, S4, _, ((hE.go g1).go g2).go g3, hS3, e4, o3, fun ρ4 H4 g4 s4 => ⟨rfl, ρ4, g4, s4⟩⟩) fun vt s4 ⟨_, H4, I4, pt, et, ρ4, g4, hS4⟩ => ?_
  subst et
  have I5 : L2.Inv X pins σ H4 { s4 with heap := s4.heap.push { cls := .type "slice", data := .fields #[vl, vu, vt] } } := I4.kept (t' := s4.toks) fun b ob q => Heap.get?_push_of_some _ q
  have g := (g2.trans g3).trans g4
  have r5 := r1.go g
  have k5 := k.go (g1.trans g)
  have hsl := Heap.IsSliceOf.new s4.heap vl vu vt
  show wpAny (model X.prog X.w) X.A (subscriptTail E (.Slice Lo Hi St p) v (.ref s4.heap.objs.size)) (EP X pins σ Q) X.xe { s4 with heap := s4.heap.push { cls := .type "slice", data := .fields #[vl, vu, vt] } }
  split at h
  · -- a tuple
    rename_i xs
    split at h
    · rename_i ys ey
      cases h
      cases r5 with
      | tup ea rs =>
        cases rv
        obtain ⟨ws, h1, h2⟩ := slc_map (R := VRs ρ4 H4) (fun n _ _ r => r.drop n) (fun n _ _ r => r.take n) (fun _ _ r => r.rev) rs rs.len ey
        obtain ⟨its, rr, ht, hz⟩ := I5.tuple (.of ea)
        refine tail_sl ht.typeIs PyProof.Rows.slot_tuple_getitem.lookup ?_
        refine sl_tup_N I5 (.of ea) hsl pl pu pt h1 (fun q => ?_) fun s' I' hn => ?_
        · subst q
          exact ⟨.ref _, H4, I5, rfl, k5.ret hS4 (.tup ea h2)⟩
        · exact ⟨.ref _, _, I', rfl, k5.tup hS4 h2 _ hn⟩
    · cases h
  · -- a list, the script
    rename_i n
    cases r5 with
    | ref ea =>
      cases rv
      split at h
      · rename_i xs e5
        split at h
        · rename_i ys ey
          cases h
          obtain ⟨vs, q, rs⟩ := hS4.row e5 ea
          obtain ⟨ws, h1, h2⟩ := slc_map (R := VRs ρ4 H4) (fun n _ _ r => r.drop n) (fun n _ _ r => r.take n) (fun _ _ r => r.rev) rs rs.len ey
          obtain ⟨its, rr, ht, hz⟩ := I5.list q
          refine tail_sl ht.isList.typeIs PySem.slot_list_getitem.lookup ?_
          exact sl_list_N I5 q hsl pl pu pt h1 fun s' I' hn => ⟨.ref _, _, I', rfl, k5.lst hS4 h2 _ hn⟩
        · cases h
      · rename_i ns e5
        split at h
        · rename_i ys ey
          cases h
          have q := hS4.scr e5 ea
          obtain ⟨ws, h1, h2⟩ := slc_map (R := fun (a : List Int) (b : List V) => b = a.map V.int) (fun n _ _ r => by rw [r, List.map_drop]) (fun n _ _ r => by rw [r, List.map_take]) (fun _ _ r => by rw [r, List.map_reverse]) (zs := ns.map V.int) rfl (by simp) ey
          subst h2
          obtain ⟨its, rr, ht, hz⟩ := I5.list q
          refine tail_sl ht.isList.typeIs PySem.slot_list_getitem.lookup ?_
          exact sl_list_N I5 q hsl pl pu pt h1 fun s' I' hn => ⟨.ref _, _, I', rfl, k5.lst hS4 (VRs.ofInts ys) _ hn⟩
        · cases h
      · rename_i xs e5
        obtain ⟨ob, vs, q, oc, od, rs⟩ := hS4.at_ _ _ _ e5 ea
        have qs : SqT X.K H4 _ vs := .inl (.inr ⟨ob, q⟩)
        obtain ⟨its, rr, ht, hz⟩ := I5.tuple qs
        split at h
        case isFalse => cases h
        rename_i hst
        have hst := of_decide_eq_true hst
        subst hst
        have hl := rs.len
        refine tail_sl ht.typeIs PyProof.Rows.slot_tuple_getitem.lookup ?_
        refine sl_ftp_N I5 qs hsl pl pu pt (fun c => ?_) fun c s' ob' oc' od' I' hn => ?_
        · rw [if_pos (by rw [hl]; exact decide_eq_true c)] at h
          cases h
          exact ⟨.ref _, H4, I5, rfl, k5.ret hS4 (.ref ea)⟩
        · rw [if_neg (by rw [hl]; simpa using c)] at h
          cases h
          refine ⟨.ref _, _, I', rfl, k5.new hS4 (fun p hp => ⟨ob', _, upd_same, oc', od', VRs.go (Go.laid hp) ?_⟩) _ hn⟩
          unfold cut
          rw [hl]
          exact (rs.drop _).take _
      · cases h
  · cases h
end
end N
set_option autoImplicit false
set_option Elab.async false
set_option linter.all false
set_option maxRecDepth 100000
set_option maxHeartbeats 4000000
namespace N
open PySem L2 PySem.Spec PyProof.Rows
/-! ### statements -/
/-- where a statement's run ends -/
def EFin (K : PySem.W.Frag) (ρ : List Addr) (H : Hp) (f : Fl) (e' : Env) (S' : Sto) (D : Ends) : Prop := ∀ ρ' H', Go ρ H ρ' H' → SR K ρ' H' S' →
  match f with
  | .nx => ∀ σ', ER ρ' H' e' σ' → D.nx σ' H'
  | .brk => ∀ σ', ER ρ' H' e' σ' → D.bk σ' H'
  | .rt d => ∀ v, VR ρ' H' d v → D.rt v H'
def TSv (K : PySem.W.Frag) (x : Env → Sto → RS) : TS := fun D σ H => ∃ ρ e S f e' S', ER ρ H e σ ∧ SR K ρ H S ∧ x e S = some (f, e', S') ∧ EFin K ρ H f e' S' D
def SS (X : Cx) (st : Stmt) (x : Env → Sto → RS) : Prop := PS X st (TSv X.K x)
def SSs (X : Cx) (st : List Stmt) (x : Env → Sto → RS) : Prop := PSs X st (TSv X.K x)
abbrev RB := Option (Env × Sto)
/-- two states that are alike but at the slots vs -/
def Off (vs : List Nat) (σ σ' : L2.St) : Prop := σ'.length = σ.length ∧ ∀ j, j ∉ vs → σ'[j]? = σ[j]?
theorem Off.refl {vs : List Nat} {σ : L2.St} : Off vs σ σ := ⟨rfl, fun _ _ => rfl⟩
theorem Off.trans {vs ws : List Nat} {σ σ1 σ2 : L2.St} (a : Off vs σ σ1) (b : Off ws σ1 σ2) : Off (vs ++ ws) σ σ2 := ⟨b.1.trans a.1, fun j h => (b.2 j fun z => h (List.mem_append_right _ z)).trans (a.2 j fun z => h (List.mem_append_left _ z))⟩
theorem Off.set {i : Nat} {σ : L2.St} {v : Option V} : Off [i] σ (σ.set i v) := ⟨by simp, fun j h => List.getElem?_set_ne fun z => h (by simp [z])⟩
def TGv (K : PySem.W.Frag) (vs : List Nat) (b : D → Env → Sto → RB) : TG := fun v σ H Q => ∃ ρ e S d e' S', ER ρ H e σ ∧ SR K ρ H S ∧ VR ρ H d v ∧ b d e S = some (e', S') ∧ ∀ ρ' H' σ', Go ρ H ρ' H' → SR K ρ' H' S' → ER ρ' H' e' σ' → Off vs σ σ' → Q σ' H'
def SG (X : Cx) (t : Expr) (x : Ex) : Prop := PG X t (TGv X.K (slots x) (bindT x))
def TGsv (K : PySem.W.Frag) (ws : List Nat) (b : List D → Env → Sto → RB) : TGs := fun vs σ H Q => ∃ ρ e S ds e' S', ER ρ H e σ ∧ SR K ρ H S ∧ VRs ρ H ds vs ∧ b ds e S = some (e', S') ∧ ∀ ρ' H' σ', Go ρ H ρ' H' → SR K ρ' H' S' → ER ρ' H' e' σ' → Off ws σ σ' → Q σ' H'
def SGs (X : Cx) (ts : List Expr) (xs : List Ex) : Prop := PGs X ts (TGsv X.K (slotss xs) (bindTs xs))
theorem PS.imp {X : Cx} {st : Stmt} {t u : TS} (h : PS X st t) (i : ∀ D σ H, u D σ H → t D σ H) : PS X st u := ⟨fun pins s σ H D I q => h.run pins s σ H D I (i D σ H q)⟩
theorem PSs.imp {X : Cx} {st : List Stmt} {t u : TS} (h : PSs X st t) (i : ∀ D σ H, u D σ H → t D σ H) : PSs X st u := ⟨fun pins s σ H D I q => h.run pins s σ H D I (i D σ H q)⟩
theorem PG.imp {X : Cx} {e : Expr} {t u : TG} (h : PG X e t) (i : ∀ v σ H Q, u v σ H Q → t v σ H Q) : PG X e u := ⟨fun pins s σ H v w Q I r q => h.run pins s σ H v w Q I r (i v σ H Q q)⟩
theorem PGs.imp {X : Cx} {e : List Expr} {t u : TGs} (h : PGs X e t) (i : ∀ v σ H Q, u v σ H Q → t v σ H Q) : PGs X e u := ⟨fun pins s σ H v w Q I r q => h.run pins s σ H v w Q I r (i v σ H Q q)⟩
section
variable {X : Cx} {K : PySem.W.Frag} {ρ ρ' : List Addr} {H H' : Hp} {S S' : Sto} {d : D} {v : V} {e : Env} {σ : L2.St} {f : Fl} {e' : Env} {De : Ends}
theorem EFin.go (k : EFin K ρ H f e' S' De) (g : Go ρ H ρ' H') : EFin K ρ' H' f e' S' De := fun ρ2 H2 g2 s2 => k ρ2 H2 (g.trans g2) s2
theorem ER.set {i : Nat} (h : ER ρ H e σ) (r : VR ρ H d v) : ER ρ H (e.set i (some d)) (σ.set i (some v)) := by
  refine ⟨by simp [h.1], fun j d' q => ?_⟩
  by_cases hj : i = j
  · subst hj
    have hl := (List.getElem?_eq_some_iff.mp q).1
    rw [List.length_set] at hl
    rw [List.getElem?_set_self hl] at q
    cases q
    exact ⟨v, List.getElem?_set_self (by rw [← h.1]; exact hl), r⟩
  · rw [List.getElem?_set_ne hj] at q
    obtain ⟨w, q1, q2⟩ := h.2 j d' q
    exact ⟨w, by rw [List.getElem?_set_ne hj]; exact q1, q2⟩
/-! #### targets -/
theorem sg_name {i : Nat} {x : Str} {pos : Pos} (hN : X.N.Nodup) (hi : X.N[i]? = some x) (hx : Loc X.env.scope x) (hf : X.fn x = true ∨ X.env.scope.names.lookup x = some .local) : SG X (.Name x pos) (.tgN i) :=
  PG.imp (pg_name hN hi hx hf) fun v σ H Q q => by
    obtain ⟨ρ, e, S, d, e', S', h1, h2, h3, h4, h5⟩ := q
    simp only [bindT] at h4
    cases h4
    exact h5 ρ H _ .refl h2 (h1.set h3) .set
theorem sgs_nil : SGs X [] [] := PGs.imp pgs_nil fun v σ H Q q => by
  obtain ⟨ρ, e, S, d, e', S', h1, h2, h3, h4, h5⟩ := q
  cases d with
  | nil => simp only [bindTs] at h4; cases h4; cases h3; exact ⟨rfl, h5 ρ H σ .refl h2 h1 .refl⟩
  | cons _ _ => simp only [bindTs] at h4; cases h4
theorem sgs_cons {t : Ex} {ts : List Ex} {E : Expr} {Es : List Expr} (h1 : SG X E t) (h2 : SGs X Es ts) (hs : (assignEach (E :: Es) X.env).map (·.2) = assign E X.env :: (assignEach Es X.env).map (·.2)) : SGs X (E :: Es) (t :: ts) :=
  PGs.imp (pgs_cons h1 h2 hs) fun v σ H Q q => by
    obtain ⟨ρ, e, S, d, e', S', h1, h2, h3, h4, h5⟩ := q
    cases d with
    | nil => simp only [bindTs] at h4; cases h4
    | cons d ds =>
      simp only [bindTs] at h4
      split at h4
      · cases h4
      · rename_i e1 S1 q1
        cases h3 with
        | cons r rs => exact ⟨_, _, rfl, ρ, e, S, d, e1, S1, h1, h2, r, q1, fun ρ1 H1 σ1 g1 s1 E1 o1 => ⟨ρ1, e1, S1, ds, e', S', E1, s1, rs.go g1, h4, fun ρ2 H2 σ2 g2 s2 E2 o2 => h5 ρ2 H2 σ2 (g1.trans g2) s2 E2 (o1.trans o2)⟩⟩
theorem bindTs_len {ts : List Ex} : ∀ {ds : List D} {e : Env} {S : Sto} {r : Env × Sto}, bindTs ts ds e S = some r → ds.length = ts.length := by
  induction ts with
  | nil =>
    intro ds e S r h
    cases ds with
    | nil => rfl
    | cons _ _ => simp only [bindTs] at h; cases h
  | cons t ts ih =>
    intro ds e S r h
    cases ds with
    | nil => simp only [bindTs] at h; cases h
    | cons d ds =>
      simp only [bindTs] at h
      split at h
      · cases h
      · rw [List.length_cons, List.length_cons, ih h]
theorem sg_tup {ts : List Ex} {Es : List Expr} {k : Nat} {pos : Pos} (hc : X.calm = true) (h : SGs X Es ts) (hn : (assignEach Es X.env).length = ts.length) (hst : (assignEach Es X.env).findIdx? (·.1) = none) : SG X (.Tuple Es k pos) (.tgT ts) := by
  refine ⟨fun pins s σ H v u Q I rv q => ?_⟩
  obtain ⟨ρ, e, S, d, e', S', h1, h2, h3, h4, h5⟩ := q
  simp only [bindT] at h4
  split at h4
  · cases h4
  · rename_i ds e1
    have hl := bindTs_len h4
    cases h3 <;> simp only [itemsI] at e1 <;> try (cases e1; done)
    · rename_i xs a vs ea rs
      cases e1
      exact (pg_tup hc h hn hst).run pins s σ H _ u Q I rv ⟨a, vs, rfl, .of ea, by rw [← rs.len, hl], ρ, e, S, _, e', S', h1, h2, rs, h4, h5⟩
    · rename_i n a ea
      split at e1
      · rename_i xs e2
        cases e1
        obtain ⟨vs, q, rs⟩ := h2.row e2 ea
        exact (pg_unl hc h hn hst).run pins s σ H _ u Q I rv ⟨a, vs, rfl, q, by rw [← rs.len, hl], ρ, e, S, _, e', S', h1, h2, rs, h4, h5⟩
      · cases e1
/-! #### o[i] = v -/
def tSetN (K : PySem.W.Frag) : TSet := fun o i v H Q => ∃ ρ S od id vd S', SR K ρ H S ∧ VR ρ H od o ∧ VR ρ H id i ∧ VR ρ H vd v ∧ setI S od id vd = some S' ∧ ∀ ρ' H', Go ρ H ρ' H' → SR K ρ' H' S' → Q H'
theorem set_N (hu : X.A.units + 1 < cLine) : PSet X (tSetN X.K) := by
  intro pins s σ H o i v ov iv u Q I ro ri rv h
  obtain ⟨ρ, S, od, id, vd, S', hS, r1, r2, r3, hr, k⟩ := h
  unfold setI at hr
  split at hr
  case h_2 => cases hr
  rename_i n
  cases r1 with
  | ref ea =>
    rename_i a
    cases ro
    split at hr
    · rename_i xs e1
      split at hr
      · rename_i j
        obtain ⟨m, e2, e3⟩ := Option.map_eq_some_iff.mp hr
        cases e3
        cases r2
        obtain ⟨vs, q, rs⟩ := hS.lst e1 ea
        refine set_list pins s σ H (.ref a) _ v _ iv u _ I rfl ri rv ⟨a, vs, j, m, rfl, rfl, q, by rw [← rs.len]; exact e2, ?_⟩
        have g : Go ρ H ρ (upd H a (.lst (vs.set m v))) := Go.write (List.mem_of_getElem? ea) q trivial
        exact k _ _ g (hS.write e1 ea rfl rfl ⟨_, upd_same, (VRs.set r3 m rs).go g⟩)
      · cases hr
    · rename_i kvs e1
      split at hr
      · rename_i hk
        have hk := Bool.and_eq_true_iff.mp hk
        have hl := of_decide_eq_true hk.2
        cases hr
        obtain ⟨H1, I1, S1, g1, c⟩ := dict_for I hS e1 ea r2 hk.1
        rcases c with ⟨q, ks, rfl, rfl, e2, rk⟩ | ⟨q, ks, b, rfl, rfl, eb, e2, rk⟩
        · refine d_setItem hu I1 (DPut.k e2 (by rw [← rk.len, sizeLine_eq]; exact hl)) ri rv fun s4 I4 => ⟨_, I4, ?_⟩
          have g : Go ρ H1 ρ (upd H1 a (.dK (putK ks q v))) := Go.write (List.mem_of_getElem? ea) e2 trivial
          exact k _ _ (g1.trans g) (S1.write e1 ea rfl rfl (.inl ⟨_, upd_same, kR.imp (fun _ _ r => r.go g) (rk.put q (r3.go g1))⟩))
        · refine d_setItem hu I1 (DPut.t e2 eb (by rw [← rk.len, sizeLine_eq]; exact hl)) ri rv fun s4 I4 => ⟨_, I4, ?_⟩
          have g : Go ρ H1 ρ (upd H1 a (.dT (putK ks q v))) := Go.write (List.mem_of_getElem? ea) e2 trivial
          exact k _ _ (g1.trans g) (S1.write e1 ea rfl rfl (.inr ⟨_, upd_same, tR.imp (fun _ _ r => r.go g) (rk.put q (r3.go g1))⟩))
      · cases hr
    · cases hr
theorem sg_sub {o i : Ex} {O I : Expr} {pos : Pos} (hu : X.A.units + 1 < cLine) (ho : SE X O (evalE o)) (hi : SE X I (evalE i)) (ha : ∀ v, assign (.Subscript O I pos) X.env v = (do
      let ov ← holding [v] (eval O X.env)
      let iv ← holding [v, ov] (eval I X.env)
      standAt pos
      holding [v, ov, iv] (setItem ov iv v)
      release [v, ov, iv] [])) : SG X (.Subscript O I pos) (.tgS o i) := PG.imp (pg_sub ho hi (set_N hu) ha) fun v σ H Q q => by
  obtain ⟨ρ, e, S, d, e', S', h1, h2, h3, h4, h5⟩ := q
  simp only [bindT] at h4
  split at h4
  · cases h4
  rename_i x S1 e1
  split at h4
  · cases h4
  rename_i y S2 e2
  split at h4
  · cases h4
  rename_i S3 e3
  cases h4
  exact ⟨ρ, e, S, x, S1, h1, h2, e1, fun ρ1 H1 v1 g1 s1 r1 => ⟨ρ1, e, S1, y, S2, h1.go g1, s1, e2, fun ρ2 H2 v2 g2 s2 r2 =>
    ⟨ρ2, S2, x, y, d, _, s2, r1.go g2, r2, (h3.go g1).go g2, e3, fun ρ3 H3 g3 s3 => h5 ρ3 H3 σ ((g1.trans g2).trans g3) s3 (h1.go ((g1.trans g2).trans g3)) .refl⟩⟩⟩
/-! #### statements -/
theorem ss_asg {t x : Ex} {tg E : Expr} {pos : Pos} (he : SE X E (evalE x)) (hg : SG X tg t) (hs : swapsWithSole [tg] E pos.line X.env = pure false) (hw : swappedStores [tg] E X.env = pure none)
    (h1 : (assignEach [tg] X.env).map (·.2) = [assign tg X.env]) : SS X (.Assign [tg] E pos) (execS (.asg t x)) := PS.imp (ps_asg he hg hs hw h1) fun De σ H q => by
  obtain ⟨ρ, e, S, f, e', S', h1, h2, h3, h4⟩ := q
  simp only [execS] at h3
  split at h3
  · cases h3
  rename_i d S1 e1
  split at h3
  · cases h3
  rename_i e2 S2 e3
  cases h3
  exact ⟨ρ, e, S, d, S1, h1, h2, e1, fun ρ1 H1 v g s r => ⟨ρ1, e, S1, d, _, _, h1.go g, s, r, e3, fun ρ2 H2 σ2 g2 s2 E2 _ => h4 ρ2 H2 (g.trans g2) s2 σ2 E2⟩⟩
theorem ss_ex {x : Ex} {E : Expr} {pos : Pos} (he : SE X E (evalE x)) (hs : swapsWith E none pos.line X.env = pure false) : SS X (.Expr E pos) (execS (.ex x)) := PS.imp (ps_expr he hs) fun De σ H q => by
  obtain ⟨ρ, e, S, f, e', S', h1, h2, h3, h4⟩ := q
  simp only [execS] at h3
  split at h3
  · cases h3
  rename_i d S1 e1
  cases h3
  exact ⟨ρ, e, S, d, _, h1, h2, e1, fun ρ1 H1 v g s r => h4 ρ1 H1 g s σ (h1.go g)⟩
theorem ss_ret {x : Ex} {E : Expr} {pos : Pos} (he : SE X E (evalE x)) : SS X (.Return (some E) pos) (execS (.ret x)) := PS.imp (ps_ret he) fun De σ H q => by
  obtain ⟨ρ, e, S, f, e', S', h1, h2, h3, h4⟩ := q
  simp only [execS] at h3
  split at h3
  · cases h3
  rename_i d S1 e1
  cases h3
  exact ⟨ρ, e, S, d, _, h1, h2, e1, fun ρ1 H1 v g s r => h4 ρ1 H1 g s v r⟩
theorem ss_retN {pos : Pos} : SS X (.Return none pos) (execS .retN) := PS.imp ps_retN fun De σ H q => by
  obtain ⟨ρ, e, S, f, e', S', h1, h2, h3, h4⟩ := q
  simp only [execS] at h3
  cases h3
  exact h4 ρ H .refl h2 .non .non
theorem ss_brk {pos : Pos} : SS X (.Break pos) (execS .brk) := PS.imp ps_break fun De σ H q => by
  obtain ⟨ρ, e, S, f, e', S', h1, h2, h3, h4⟩ := q
  simp only [execS] at h3
  cases h3
  exact h4 ρ H .refl h2 σ h1
theorem ss_pass {pos : Pos} : SS X (.Pass pos) (execS .pass) := PS.imp ps_pass fun De σ H q => by
  obtain ⟨ρ, e, S, f, e', S', h1, h2, h3, h4⟩ := q
  simp only [execS] at h3
  cases h3
  exact h4 ρ H .refl h2 σ h1
theorem ss_doc {x j pos pos'} : SS X (.Expr (.Constant (.str x) j pos) pos') (execS .pass) := PS.imp ps_doc fun De σ H q => by
  obtain ⟨ρ, e, S, f, e', S', h1, h2, h3, h4⟩ := q
  simp only [execS] at h3
  cases h3
  exact h4 ρ H .refl h2 σ h1
theorem ss_never {st : Stmt} : SS X st (execS .never) := PS.imp ps_never fun De σ H q => by
  obtain ⟨ρ, e, S, f, e', S', h1, h2, h3, h4⟩ := q
  simp only [execS] at h3
  cases h3
theorem sss_nil : SSs X [] (execSs []) := PSs.imp pss_nil fun De σ H q => by
  obtain ⟨ρ, e, S, f, e', S', h1, h2, h3, h4⟩ := q
  simp only [execSs] at h3
  cases h3
  exact h4 ρ H .refl h2 σ h1
theorem sss_cons {s : St} {ss : List St} {E : Stmt} {Es : List Stmt} (h1 : SS X E (execS s)) (h2 : SSs X Es (execSs ss)) : SSs X (E :: Es) (execSs (s :: ss)) := PSs.imp (pss_cons h1 h2) fun De σ H q => by
  obtain ⟨ρ, e, S, f, e', S', h1, h2, h3, h4⟩ := q
  simp only [execSs] at h3
  split at h3
  · rename_i e1 S1 q1
    refine ⟨ρ, e, S, .nx, e1, S1, h1, h2, q1, fun ρ1 H1 g s => ?_⟩
    intro σ1 E1
    exact ⟨ρ1, e1, S1, f, e', S', E1, s, h3, h4.go g⟩
  · rename_i r hne
    refine ⟨ρ, e, S, f, e', S', h1, h2, h3, fun ρ1 H1 g s => ?_⟩
    have := h4 ρ1 H1 g s
    cases f with
    | nx => exact absurd h3 (hne e' S')
    | brk => exact this
    | rt d => exact this
theorem ss_ife {c : Ex} {a b : List St} {C : Expr} {A B : List Stmt} {pos : Pos} (hc : ST X C (evalE c)) (ha : SSs X A (execSs a)) (hb : SSs X B (execSs b)) : SS X (.If C A B pos) (execS (.ife c a b)) := PS.imp (ps_if hc ha hb) fun De σ H q => by
  obtain ⟨ρ, e, S, f, e', S', h1, h2, h3, h4⟩ := q
  simp only [execS, thenT] at h3
  split at h3
  · cases h3
  · rename_i S1 e1
    split at e1
    · rename_i d1 S2 e2
      obtain ⟨b', e3, e4⟩ := Option.map_eq_some_iff.mp e1
      cases e4
      exact ⟨ρ, e, S, d1, _, true, h1, h2, e2, e3, fun ρ' H' g s => ⟨ρ', e, S1, f, e', S', h1.go g, s, h3, h4.go g⟩⟩
    · cases e1
  · rename_i S1 e1
    split at e1
    · rename_i d1 S2 e2
      obtain ⟨b', e3, e4⟩ := Option.map_eq_some_iff.mp e1
      cases e4
      exact ⟨ρ, e, S, d1, _, false, h1, h2, e2, e3, fun ρ' H' g s => ⟨ρ', e, S1, f, e', S', h1.go g, s, h3, h4.go g⟩⟩
    · cases e1
end
end N
set_option autoImplicit false
set_option Elab.async false
set_option linter.all false
set_option maxRecDepth 100000
set_option maxHeartbeats 4000000
namespace N
open PySem L2 PySem.Spec PyProof.Rows
section
variable {X : Cx} {K : PySem.W.Frag} {ρ ρ' : List Addr} {H H' : Hp} {S S' : Sto} {d : D} {v : V} {e : Env} {σ : L2.St} {Q : VK}
theorem VRs.one' {d : D} {xs : List V} (r : VRs ρ H [d] xs) : ∃ x, xs = [x] ∧ VR ρ H d x := by
  cases r with
  | cons a b => cases b; exact ⟨_, rfl, a⟩
theorem VRs.two' {d1 d2 : D} {xs : List V} (r : VRs ρ H [d1, d2] xs) : ∃ x y, xs = [x, y] ∧ VR ρ H d1 x ∧ VR ρ H d2 y := by
  cases r with
  | cons a b =>
    obtain ⟨y, rfl, h⟩ := VRs.one' b
    exact ⟨_, _, rfl, a, h⟩
theorem call_lenN : CallR X (.builtin "len") (rN X.K lenI) := by
  intro pins s σ H xs us Q I r h
  obtain ⟨ρ, S, ds, d, S', hS, rs, hr, k⟩ := h
  have base : ∀ (x : V) (n : Nat), xs = [x] → LenV X.K x H n → d = .int n → S' = S → wpAny (model X.prog X.w) X.A (call (.builtin "len") us) (EP X pins σ Q) X.xe s := fun x n e1 e2 e3 e4 => by
    subst e1 e3 e4
    exact call_len pins s σ H _ us Q I r ⟨x, n, rfl, e2, k.ret hS (.int _)⟩
  unfold lenI at hr
  split at hr
  · rename_i x
    split at hr
    · rename_i hl
      cases hr
      obtain ⟨v, rfl, rv⟩ := rs.one'
      cases rv
      exact base _ _ rfl ⟨by rw [sizeLine_eq]; simpa [sOf, Str.length] using hl, rfl⟩ (by simp [sOf, Str.length]) rfl
    · cases hr
  · rename_i n
    obtain ⟨v, rfl, rv⟩ := rs.one'
    cases rv with
    | ref ea =>
      split at hr
      · rename_i ys e1
        cases hr
        obtain ⟨vs, q, rr⟩ := hS.row e1 ea
        exact base _ _ rfl (.inl ⟨vs, q, rfl⟩) (by rw [rr.len]) rfl
      · rename_i ys e1
        cases hr
        exact base _ _ rfl (.inl ⟨_, hS.scr e1 ea, rfl⟩) (by simp) rfl
      · rename_i kvs e1
        cases hr
        rcases hS.at_ n _ _ e1 ea with ⟨ks, e2, rk⟩ | ⟨ks, e2, rk⟩
        · exact call_lenD pins s σ H _ us Q I r ⟨_, ks, rfl, e2, by rw [← rk.len]; exact k.ret hS (.int _)⟩
        · exact call_len_dT pins s σ H _ us Q I r ⟨_, ks, rfl, e2, by rw [← rk.len]; exact k.ret hS (.int _)⟩
      · rename_i ys e1
        exact (hS.at_ n _ _ e1 ea).elim
      · cases hr
  · rename_i ys
    cases hr
    obtain ⟨v, rfl, rv⟩ := rs.one'
    cases rv with
    | tup ea rr => exact base _ _ rfl (.inr ⟨_, .of ea, rfl⟩) (by rw [rr.len]) rfl
  · cases hr
theorem call_absN : CallR X (.builtin "abs") (rN X.K absI) := by
  intro pins s σ H xs us Q I r h
  obtain ⟨ρ, S, ds, d, S', hS, rs, hr, k⟩ := h
  unfold absI at hr
  split at hr
  · rename_i i
    cases hr
    obtain ⟨v, rfl, rv⟩ := rs.one'
    cases rv
    exact call_abs pins s σ H _ us Q I r ⟨i, rfl, k.ret hS (.int _)⟩
  · cases hr
theorem call_intN : CallR X (.type "int") (rN X.K intB) := by
  intro pins s σ H xs us Q I r h
  obtain ⟨ρ, S, ds, d, S', hS, rs, hr, k⟩ := h
  unfold intB at hr
  split at hr
  · rename_i i
    cases hr
    obtain ⟨v, rfl, rv⟩ := rs.one'
    cases rv
    exact call_int1 pins s σ H _ us Q I r (.inl ⟨i, rfl, k.ret hS (.int _)⟩)
  · rename_i i
    cases hr
    obtain ⟨v, rfl, rv⟩ := rs.one'
    cases rv
    exact call_int1 pins s σ H _ us Q I r (.inr ⟨i, rfl, k.ret hS (.int _)⟩)
  · cases hr
theorem boolsD_eq : ∀ {xs : List D} {bs : List Bool}, boolsD xs = some bs → xs = bs.map .bl
  | [], _, h => by cases h; rfl
  | .bl i :: xs, ns, h => by
    simp only [boolsD] at h
    cases e : boolsD xs with
    | none => rw [e] at h; cases h
    | some l => rw [e] at h; cases h; rw [boolsD_eq e]; rfl
  | .non :: _, _, h => by cases h
  | .int _ :: _, _, h => by cases h
  | .str _ :: _, _, h => by cases h
  | .tup _ :: _, _, h => by cases h
  | .lst _ :: _, _, h => by cases h
  | .ref _ :: _, _, h => by cases h
  | .rep _ :: _, _, h => by cases h
theorem VRs.toBools : ∀ {ns : List Bool} {vs : List V}, VRs ρ H (ns.map .bl) vs → vs = ns.map V.bl
  | [], _, h => by cases h; rfl
  | n :: ns, _, h => by
    cases h with
    | cons r t => cases r; rw [VRs.toBools t]; rfl
/-- the items of a list or a tuple, as a row -/
theorem items_V {a : D} {xs : List D} (s : SR K ρ H S) (r : VR ρ H a v) (h : itemsI S a = some xs) : ∃ p vs, v = .ref p ∧ VRs ρ H xs vs ∧ ((∃ n, a = .ref n ∧ H p = some (.lst vs)) ∨ (a = .tup xs ∧ H p = some (.tup vs))) := by
  cases r <;> simp only [itemsI] at h <;> try (cases h; done)
  · rename_i ys p vs ea rs
    cases h
    exact ⟨p, vs, rfl, rs, .inr ⟨rfl, ea⟩⟩
  · rename_i n p ea
    split at h
    · rename_i ys e1
      cases h
      obtain ⟨vs, q, rs⟩ := s.lst e1 ea
      exact ⟨p, vs, rfl, rs, .inl ⟨n, rfl, q⟩⟩
    · cases h
theorem plain_bools : ∀ bs : List Bool, PyData.plainAll (bs.map PyData.bool) = true
  | [] => rfl
  | b :: bs => by simp only [List.map_cons, PyData.plainAll, PyData.plain, plain_bools bs, Bool.and_self]
theorem reads_bools (h : Heap) : ∀ bs : List Bool, ReadsAll h (bs.map Value.bool) (bs.map PyData.bool) []
  | [] => .nil
  | b :: bs => .cons (as := []) (bs := []) (.bool b) (reads_bools h bs)
theorem call_allN (hc : X.calm = true) : CallR X (.builtin "all") (rN X.K allB) := by
  intro pins s σ H xs us Q I r h
  obtain ⟨ρ, S, ds, d, S', hS, rs, hr, k⟩ := h
  unfold allB at hr
  split at hr
  · rename_i a
    split at hr
    · rename_i bs e1
      obtain ⟨l, e2, e3⟩ := Option.bind_eq_some_iff.mp e1
      cases hr
      obtain ⟨v, rfl, rv⟩ := rs.one'
      obtain ⟨p, vs, rfl, rr, c⟩ := items_V hS rv e2
      rw [boolsD_eq e3] at rr
      have ev := rr.toBools
      subst ev
      rcases c with ⟨n, _, e4⟩ | ⟨_, e4⟩
      · exact cr_all hc pins s σ H _ us Q I r ⟨p, bs, rfl, .of e4, k.ret hS (.bl _)⟩
      · obtain ⟨its, rv2, ht, _⟩ := I.tuple (.of e4)
        rw [Vals.ref1 r]
        have hb := rv2.bls
        subst hb
        refine PySem.W.all_tuple_data (I.ok.hd hc) ht (reads_bools _ bs) (plain_bools bs) (fun x hx => ?_) fun h' tk hk => ⟨.bl _, H, I.kept hk, rfl, ?_⟩
        · obtain ⟨b, _, rfl⟩ := List.mem_map.mp hx
          trivial
        · rw [show (bs.map PyData.bool).all PyData.truthy = bs.all id by rw [List.all_map]; rfl]
          exact k.ret hS (.bl _)
    · cases hr
  · cases hr
theorem call_anyN (hc : X.calm = true) : CallR X (.builtin "any") (rN X.K anyB) := by
  intro pins s σ H xs us Q I r h
  obtain ⟨ρ, S, ds, d, S', hS, rs, hr, k⟩ := h
  unfold anyB at hr
  split at hr
  · rename_i a
    split at hr
    · rename_i bs e1
      obtain ⟨l, e2, e3⟩ := Option.bind_eq_some_iff.mp e1
      cases hr
      obtain ⟨v, rfl, rv⟩ := rs.one'
      obtain ⟨p, vs, rfl, rr, c⟩ := items_V hS rv e2
      rw [boolsD_eq e3] at rr
      have ev := rr.toBools
      subst ev
      rcases c with ⟨n, _, e4⟩ | ⟨_, e4⟩
      · exact cr_any hc pins s σ H _ us Q I r ⟨p, bs, rfl, .of e4, k.ret hS (.bl _)⟩
      · obtain ⟨its, rv2, ht, _⟩ := I.tuple (.of e4)
        rw [Vals.ref1 r]
        have hb := rv2.bls
        subst hb
        refine PySem.W.any_tuple_data (I.ok.hd hc) ht (reads_bools _ bs) (plain_bools bs) (fun x hx => ?_) fun h' tk hk => ⟨.bl _, H, I.kept hk, rfl, ?_⟩
        · obtain ⟨b, _, rfl⟩ := List.mem_map.mp hx
          trivial
        · rw [show (bs.map PyData.bool).any PyData.truthy = bs.any id by rw [List.any_map]; rfl]
          exact k.ret hS (.bl _)
    · cases hr
  · cases hr
theorem call_sumN (hc : X.calm = true) : CallR X (.builtin "sum") (rN X.K sumB) := by
  intro pins s σ H xs us Q I r h
  obtain ⟨ρ, S, ds, d, S', hS, rs, hr, k⟩ := h
  unfold sumB at hr
  split at hr
  · rename_i a
    split at hr
    · rename_i bs e1
      obtain ⟨l, e2, e3⟩ := Option.bind_eq_some_iff.mp e1
      cases hr
      obtain ⟨v, rfl, rv⟩ := rs.one'
      obtain ⟨p, vs, rfl, rr, c⟩ := items_V hS rv e2
      rw [ints_app e3] at rr
      have ev := rr.toInts
      subst ev
      rcases c with ⟨n, _, e4⟩ | ⟨_, e4⟩
      · exact cr_sum hc pins s σ H _ us Q I r ⟨p, bs, rfl, .of e4, k.ret hS (.int _)⟩
      · obtain ⟨its, rv2, ht, _⟩ := I.tuple (.of e4)
        rw [Vals.ref1 r]
        have hi := rv2.ints
        obtain ⟨ys, hx⟩ := hi.allInts.items
        have hn : numsOf its.toArray.toList = bs := by rw [show its.toArray.toList = its from rfl, hi.numsOf]
        rw [hx] at ht hn
        rw [nums_intItems] at hn
        refine PySem.W.ktm_sumG (I.ok.hd hc) ht fun h' tk t' hk => ⟨.int _, H, I.kept hk, ⟨_, rfl⟩, ?_⟩
        rw [preSum_eq, List.take_of_length_le (by simp), hn]
        exact k.ret hS (.int _)
    · cases hr
  · cases hr
theorem maxI_eq (n : Int) : ∀ ns : List Int, ns.foldl (fun a b => if b > a then b else a) n = ns.foldl max n
  | [] => rfl
  | m :: ns => by
    simp only [List.foldl_cons]
    rw [show (if m > n then m else n) = max n m by omega]
    exact maxI_eq _ ns
theorem minI_eq (n : Int) : ∀ ns : List Int, ns.foldl (fun a b => if b < a then b else a) n = ns.foldl min n
  | [] => rfl
  | m :: ns => by
    simp only [List.foldl_cons]
    rw [show (if m < n then m else n) = min n m by omega]
    exact minI_eq _ ns
theorem maxI_mem (n : Int) : ∀ ns : List Int, ns.foldl max n ∈ n :: ns ∧ ∀ y ∈ n :: ns, y ≤ ns.foldl max n
  | [] => by simp
  | m :: ns => by
    simp only [List.foldl_cons]
    obtain ⟨h1, h2⟩ := maxI_mem (max n m) ns
    have h0 := h2 (max n m) (by simp)
    refine ⟨?_, fun y hy => ?_⟩
    · rcases List.mem_cons.mp h1 with e | e
      · rw [e]
        rcases Int.le_total n m with h | h
        · rw [Int.max_eq_right h]; simp
        · rw [Int.max_eq_left h]; simp
      · simp [e]
    · rcases List.mem_cons.mp hy with e | e
      · omega
      · rcases List.mem_cons.mp e with e | e
        · omega
        · exact h2 y (by simp [e])
theorem minI_mem (n : Int) : ∀ ns : List Int, ns.foldl min n ∈ n :: ns ∧ ∀ y ∈ n :: ns, ns.foldl min n ≤ y
  | [] => by simp
  | m :: ns => by
    simp only [List.foldl_cons]
    obtain ⟨h1, h2⟩ := minI_mem (min n m) ns
    have h0 := h2 (min n m) (by simp)
    refine ⟨?_, fun y hy => ?_⟩
    · rcases List.mem_cons.mp h1 with e | e
      · rw [e]
        rcases Int.le_total n m with h | h
        · rw [Int.min_eq_left h]; simp
        · rw [Int.min_eq_right h]; simp
      · simp [e]
    · rcases List.mem_cons.mp hy with e | e
      · omega
      · rcases List.mem_cons.mp e with e | e
        · omega
        · exact h2 y (by simp [e])
theorem alike_intsL (ns : List Int) : PySem.W.AlikeAll (ns.map PyData.int) := by
  refine ⟨fun x hx y hy => ?_, fun x hx => ?_⟩
  · obtain ⟨i, _, rfl⟩ := List.mem_map.mp hx
    obtain ⟨j, _, rfl⟩ := List.mem_map.mp hy
    simp [PySem.W.alike]
  · obtain ⟨i, _, rfl⟩ := List.mem_map.mp hx
    exact fun z => nomatch z
theorem readsInt {h : Heap} {v : Value} {m : Int} {bs : List Addr} (r : Reads h v (.int m) bs) : ∃ t, v = .int m t := by
  cases r; exact ⟨_, rfl⟩
theorem call_maxN (hc : X.calm = true) (hu : X.A.units + 2 < cLine) : CallR X (.builtin "max") (rN X.K maxB) := by
  intro pins s σ H xs us Q I r h
  obtain ⟨ρ, S, ds, d, S', hS, rs, hr, k⟩ := h
  unfold maxB at hr
  split at hr
  · rename_i i j
    cases hr
    obtain ⟨v, w, rfl, rv, rw'⟩ := rs.two'
    cases rv
    cases rw'
    exact call_max2 hc pins s σ H _ us Q I r ⟨i, j, rfl, k.ret hS (.int _)⟩
  · rename_i a
    split at hr
    · rename_i b bs e1
      obtain ⟨l, e2, e3⟩ := Option.bind_eq_some_iff.mp e1
      cases hr
      obtain ⟨v, rfl, rv⟩ := rs.one'
      obtain ⟨p, vs, rfl, rr, c⟩ := items_V hS rv e2
      rw [ints_app e3] at rr
      have ev := rr.toInts
      subst ev
      have em : maxI (b :: bs) = bs.foldl max b := maxI_eq b bs
      obtain ⟨m1, m2⟩ := maxI_mem b bs
      rcases c with ⟨n, _, e4⟩ | ⟨_, e4⟩
      · refine cr_max hc pins s σ H _ us Q I r ⟨p, b :: bs, rfl, .of e4, by simp, fun m h1 h2 => ?_⟩
        have := m2 m h1
        have := h2 _ m1
        rw [show m = maxI (b :: bs) by rw [em]; omega]
        exact k.ret hS (.int _)
      · obtain ⟨its, rv2, ht, _⟩ := I.tuple (.of e4)
        rw [Vals.ref1 r]
        have hi := rv2.ints
        have hd : PyData.depthAll (PyData.int b :: bs.map PyData.int) = 0 := PySem.W.depth_ints (b :: bs)
        refine PySem.W.max_tuple_data (x := .int b) (xs := bs.map .int) (I.ok.hd hc) ht (hi.reads _) (alike_intsL (b :: bs)) (by rw [hd]; omega) fun i v h' tk bs' hv r' hk => ?_
        rw [PySem.W.maxD_ints] at r'
        obtain ⟨t, rfl⟩ := readsInt r'
        refine ⟨.int (maxI (b :: bs)), H, I.kept hk, ⟨t, by rw [em]⟩, k.ret hS (.int _)⟩
    · cases hr
  · cases hr
theorem call_minN (hc : X.calm = true) (hu : X.A.units + 2 < cLine) : CallR X (.builtin "min") (rN X.K minB) := by
  intro pins s σ H xs us Q I r h
  obtain ⟨ρ, S, ds, d, S', hS, rs, hr, k⟩ := h
  unfold minB at hr
  split at hr
  · rename_i i j
    cases hr
    obtain ⟨v, w, rfl, rv, rw'⟩ := rs.two'
    cases rv
    cases rw'
    exact call_min2 hc pins s σ H _ us Q I r ⟨i, j, rfl, k.ret hS (.int _)⟩
  · rename_i a
    split at hr
    · rename_i b bs e1
      obtain ⟨l, e2, e3⟩ := Option.bind_eq_some_iff.mp e1
      cases hr
      obtain ⟨v, rfl, rv⟩ := rs.one'
      obtain ⟨p, vs, rfl, rr, c⟩ := items_V hS rv e2
      rw [ints_app e3] at rr
      have ev := rr.toInts
      subst ev
      have em : minI (b :: bs) = bs.foldl min b := minI_eq b bs
      obtain ⟨m1, m2⟩ := minI_mem b bs
      rcases c with ⟨n, _, e4⟩ | ⟨_, e4⟩
      · refine cr_min hc pins s σ H _ us Q I r ⟨p, b :: bs, rfl, .of e4, by simp, fun m h1 h2 => ?_⟩
        have := m2 m h1
        have := h2 _ m1
        rw [show m = minI (b :: bs) by rw [em]; omega]
        exact k.ret hS (.int _)
      · obtain ⟨its, rv2, ht, _⟩ := I.tuple (.of e4)
        rw [Vals.ref1 r]
        have hi := rv2.ints
        have hd : PyData.depthAll (PyData.int b :: bs.map PyData.int) = 0 := PySem.W.depth_ints (b :: bs)
        refine PySem.W.min_tuple_data (x := .int b) (xs := bs.map .int) (I.ok.hd hc) ht (hi.reads _) (alike_intsL (b :: bs)) (by rw [hd]; omega) fun i v h' tk bs' hv r' hk => ?_
        rw [PySem.W.minD_ints] at r'
        obtain ⟨t, rfl⟩ := readsInt r'
        refine ⟨.int (minI (b :: bs)), H, I.kept hk, ⟨t, by rw [em]⟩, k.ret hS (.int _)⟩
    · cases hr
  · cases hr
theorem call_tupN : CallR X (.type "tuple") (rN X.K tupB) := by
  intro pins s σ H xs us Q I r h
  obtain ⟨ρ, S, ds, d, S', hS, rs, hr, k⟩ := h
  unfold tupB at hr
  split at hr
  · rename_i a
    split at hr
    · rename_i l e2
      cases hr
      obtain ⟨v, rfl, rv⟩ := rs.one'
      obtain ⟨p, vs, rfl, rr, c⟩ := items_V hS rv e2
      rcases c with ⟨n, _, e4⟩ | ⟨_, e4⟩
      · exact call_tuple_of pins s σ H _ us Q I r ⟨p, vs, rfl, .inl ⟨.of e4, k.tup hS rr⟩⟩
      · exact call_tuple_of pins s σ H _ us Q I r ⟨p, vs, rfl, .inr ⟨.of e4, k.ret hS (.tup e4 rr)⟩⟩
    · cases hr
  · cases hr
theorem call_lstN : CallR X (.type "list") (rN X.K lstB) := by
  intro pins s σ H xs us Q I r h
  obtain ⟨ρ, S, ds, d, S', hS, rs, hr, k⟩ := h
  unfold lstB at hr
  split at hr
  · rename_i a
    split at hr
    · rename_i l e2
      cases hr
      obtain ⟨v, rfl, rv⟩ := rs.one'
      obtain ⟨p, vs, rfl, rr, c⟩ := items_V hS rv e2
      rcases c with ⟨n, _, e4⟩ | ⟨_, e4⟩
      · exact call_list_of pins s σ H _ us Q I r ⟨p, vs, rfl, .inl (.of e4), k.lst hS rr⟩
      · exact call_list_of pins s σ H _ us Q I r ⟨p, vs, rfl, .inr (.of e4), k.lst hS rr⟩
    · cases hr
  · cases hr
/-! repr -/
theorem str_toPy (s : List Nat) : (sOf s).cps.toList = s := by simp [sOf]
mutual
theorem show_py : ∀ t : D, D.shw t = true → (toPy t).showable = true
  | .non, _ => rfl
  | .bl _, _ => rfl
  | .int i, h => by
    have := of_decide_eq_true (show decide (i.natAbs.log2 < 320) = true from h)
    show decide (i.natAbs.log2 < 1920) = true
    exact decide_eq_true (by omega)
  | .str _, _ => rfl
  | .tup xs, h => shows_py xs h
  | .lst xs, h => shows_py xs h
  | .ref _, _ => rfl
  | .rep _, _ => rfl
theorem shows_py : ∀ ts : List D, D.shws ts = true → PyData.showableAll (toPys ts) = true
  | [], _ => rfl
  | x :: xs, h => by
    have h := Bool.and_eq_true_iff.mp (show (D.shw x && D.shws xs) = true from h)
    show (PyData.showable (toPy x) && PyData.showableAll (toPys xs)) = true
    rw [show_py x h.1, shows_py xs h.2]; rfl
end
mutual
theorem bulk_py : ∀ t : D, (toPy t).bulk = D.bulk t
  | .non => rfl
  | .bl _ => rfl
  | .int i => rfl
  | .str s => by show (sOf s).cps.size = s.length; simp [sOf]
  | .tup xs => bulks_py xs
  | .lst xs => bulks_py xs
  | .ref _ => rfl
  | .rep _ => rfl
theorem bulks_py : ∀ ts : List D, PyData.bulkAll (toPys ts) = D.bulks ts
  | [] => rfl
  | x :: xs => by
    show (toPy x).bulk + 1 + PyData.bulkAll (toPys xs) = D.bulk x + 1 + D.bulks xs
    rw [bulk_py x, bulks_py xs]
end
mutual
theorem short_py : ∀ t : D, D.shw t = true → D.okS t = true → (toPy t).leavesShort 321 = true
  | .non, _, _ => rfl
  | .bl _, _, _ => rfl
  | .int i, h, _ => by
    have := of_decide_eq_true (show decide (i.natAbs.log2 < 320) = true from h)
    show decide ((PyData.shown (.int i)).length ≤ 321) = true
    refine decide_eq_true ?_
    show (Str.ofString (toString i)).length ≤ 321
    have := int_text_length_le (k := 320) (by decide) this
    rw [PySem.ofString_length]
    exact this
  | .str s, _, h => by
    show ((sOf s).cps.toList.all fun c => decide (c < 16 ^ 8)) = true
    rw [str_toPy]
    refine List.all_eq_true.mpr fun c hc => decide_eq_true ?_
    have := of_decide_eq_true (List.all_eq_true.mp (show okStr s = true from h) c hc)
    omega
  | .tup xs, h, g => shorts_py xs h g
  | .lst xs, h, g => shorts_py xs h g
  | .ref _, _, _ => rfl
  | .rep _, _, _ => rfl
theorem shorts_py : ∀ ts : List D, D.shws ts = true → D.okSs ts = true → PyData.leavesShortAll 321 (toPys ts) = true
  | [], _, _ => rfl
  | x :: xs, h, g => by
    have h := Bool.and_eq_true_iff.mp (show (D.shw x && D.shws xs) = true from h)
    have g := Bool.and_eq_true_iff.mp (show (D.okS x && D.okSs xs) = true from g)
    show (PyData.leavesShort 321 (toPy x) && PyData.leavesShortAll 321 (toPys xs)) = true
    rw [short_py x h.1 g.1, shorts_py xs h.2 g.2]; rfl
end
theorem call_repN (hg : X.A.guards = some []) (hu : X.A.units + 65 < cLine) : CallR X (.builtin "repr") (rN X.K repB) := by
  intro pins s σ H xs us Q I r h
  obtain ⟨ρ, S, ds, d, S', hS, rs, hr, k⟩ := h
  unfold repB at hr
  split at hr
  · rename_i a
    split at hr
    · rename_i t e1
      split at hr
      · rename_i ok
        cases hr
        have k1 := Bool.and_eq_true_iff.mp ok
        have k2 := Bool.and_eq_true_iff.mp k1.2
        obtain ⟨v, rfl, rv⟩ := rs.one'
        have hb := of_decide_eq_true k2.2
        have hz : (toPy t).shown.length ≤ sizeLine := by
          have := PyData.shown_le_bulk 321 (by decide) (toPy t) (short_py t k2.1 k1.1)
          rw [bulk_py] at this
          rw [sizeLine_eq]; omega
        have dp := rd_dp hS RD a t v rv e1
        have hdp := (toPys_real _ _ _ _ e1).2
        obtain ⟨u, rfl, ru⟩ := vals1 r
        obtain ⟨as, q⟩ := Dp.reads I _ _ u dp ru
        cases rv with
        | tup ea rr =>
          cases ru
          exact repr_of_reads' q (show_py t k2.1) (PyData.noDict_hsm (PyData.hasDict_of_canLay _ (canLay_py t k1.1))) hg (by have : RD = 60 := rfl; omega) (fun _ _ e => e) (fun h' u tk hk => ⟨.str (toPy t).shown, H, I.kept hk, ⟨_, rfl⟩, k.ret hS .rep⟩) hz
        | ref ea =>
          cases ru
          exact repr_of_reads' q (show_py t k2.1) (PyData.noDict_hsm (PyData.hasDict_of_canLay _ (canLay_py t k1.1))) hg (by have : RD = 60 := rfl; omega) (fun _ _ e => e) (fun h' u tk hk => ⟨.str (toPy t).shown, H, I.kept hk, ⟨_, rfl⟩, k.ret hS .rep⟩) hz
        | int i =>
          simp only [rd] at e1
          cases e1
          have h1 := of_decide_eq_true (show decide (i.natAbs.log2 < 320) = true from k2.1)
          obtain ⟨t, rfl⟩ := ru
          exact PySem.P.repr_of_int (by omega) ⟨.str (toPy (.int i)).shown, H, I.tok _, ⟨_, rfl⟩, k.ret hS .rep⟩
        | non =>
          simp only [rd] at e1
          cases e1
          cases ru
          exact PySem.P.repr_of_none ⟨.str (toPy .non).shown, H, I.tok _, ⟨_, rfl⟩, k.ret hS .rep⟩
        | bl b =>
          simp only [rd] at e1
          cases e1
          cases ru
          exact PySem.P.repr_of_bool ⟨.str (toPy (.bl b)).shown, H, I.tok _, ⟨_, by cases b <;> rfl⟩, k.ret hS .rep⟩
        | str x =>
          simp only [rd] at e1
          cases e1
          obtain ⟨t, rfl⟩ := ru
          exact PySem.P.repr_of_str ⟨.str (toPy (.str x)).shown, H, I.tok _, ⟨_, rfl⟩, k.ret hS .rep⟩ hz
        | rep => simp [rd] at e1
      · cases hr
    · cases hr
  · cases hr
end
end N
set_option autoImplicit false
set_option Elab.async false
set_option linter.all false
set_option maxRecDepth 100000
set_option maxHeartbeats 4000000
namespace N
open PySem L2 PySem.Spec PyProof.Rows
/-! ### what a def of mine promises -/
/-- the call by values, as the evaluator has it, in a store of any sort -/
def rF (K : PySem.W.Frag) (n : Nat) (F : Fn) : List V → Hp → VK → Prop := fun vs H Q => vs.length = n ∧ ∃ ρ S ds d S', SR K ρ H S ∧ VRs ρ H ds vs ∧ F ds S = some (d, S') ∧ Fin K ρ H d S' Q
structure FnG (P : Program) (w : World) (K : PySem.W.Frag) (mg : Str → Option Value) (base : Heap) (k : Nat) (f : Addr) (fd : FuncData) (ps : List Str) (F : Fn) : Prop where
  go : ∀ {A : Around} {outer : List PySem.Env} {s : Shared} {H : Hp} {args : Args} {us : List Value} {vs : List V} {Q : VK}, A.guards = some [] → Room k A → Env0 P w K mg base A outer s H →
    Vals vs us → BindsTo s fd args (ps.zip us) → rF K ps.length F vs H Q → codeAny (model P w) A (.call (.ref f) args) (fun r s' => match r with
      | .ok (.ret u) => CE outer P w H s Q u s'
      | _ => False) s
/-- a def that may be called by its name -/
structure CalG (P : Program) (w : World) (K : PySem.W.Frag) (mg : Str → Option Value) (base : Heap) (k : Nat) (x : Str) (F : Fn) : Prop where
  ex : ∃ (f : Addr) (fd : FuncData) (ps : List Str), FnG P w K mg base k f fd ps F ∧ mg x = some (.ref f) ∧ PySem.W.keepIn K (.ref f) = true ∧ (∀ ds S r, F ds S = some r → ds.length = ps.length) ∧ ∀ us : List Value, us.length = ps.length → bindArgs fd ⟨us, []⟩ = pure (ps.zip us)
/-- .. by keywords alone -/
structure CalK (P : Program) (w : World) (K : PySem.W.Frag) (mg : Str → Option Value) (base : Heap) (k : Nat) (x : Str) (ks : List Str) (perm : List Nat) (F : Fn) : Prop where
  ex : ∃ (f : Addr) (fd : FuncData) (ps : List Str), FnG P w K mg base k f fd ps F ∧ mg x = some (.ref f) ∧ PySem.W.keepIn K (.ref f) = true ∧ (∀ ds S r, F ds S = some r → ds.length = ps.length) ∧ perm.length = ps.length ∧ (∀ i ∈ perm, i < ks.length) ∧
    ∀ us : List Value, us.length = ks.length → bindArgs fd ⟨[], ks.zip us⟩ = pure (ps.zip (perm.filterMap fun i => us[i]?))
section
variable {X : Cx} {K : PySem.W.Frag} {ρ ρ' δ : List Addr} {H H' : Hp} {S S' : Sto} {d : D} {v : V} {e : Env} {σ : L2.St} {Q : VK}
theorem CE.sp {outer : List PySem.Env} {P : Program} {w : World} {s s' : Shared} {u : Value} (h : CE outer P w H s Q u s') {Q' : VK} (i : ∀ v H', Q v H' → Q' v H') : CE outer P w H s Q' u s' := by
  obtain ⟨v, H', a, b, c, d, r, q⟩ := h
  exact ⟨v, H', a, b, c, d, r, i v H' q⟩
theorem kR.lo : ∀ {ps : List (D × D)} {qs : List (Key × V)}, kR (ρ ++ δ) H ps qs → (∀ p ∈ ps, D.lo ρ.length p.2 = true) → kR ρ H ps qs
  | [], [], _, _ => trivial
  | _ :: _, _ :: _, h, l => ⟨h.1, h.2.1.lo (l _ (by simp)), kR.lo h.2.2 fun p hp => l p (by simp [hp])⟩
theorem tR.lo : ∀ {ps : List (D × D)} {qs : List (List Key × V)}, tR (ρ ++ δ) H ps qs → (∀ p ∈ ps, D.lo ρ.length p.2 = true) → tR ρ H ps qs
  | [], [], _, _ => trivial
  | _ :: _, _ :: _, h, l => ⟨h.1, h.2.1.lo (l _ (by simp)), tR.lo h.2.2 fun p hp => l p (by simp [hp])⟩
theorem shift_kD (n : Nat) (k : Key) : D.shift n (kD k) = kD k := by cases k <;> rfl
theorem shift_kDs (n : Nat) : ∀ ks : List Key, D.shifts n (ks.map kD) = ks.map kD
  | [] => rfl
  | k :: ks => by
    show D.shift n (kD k) :: D.shifts n (ks.map kD) = _
    rw [shift_kD, shift_kDs n ks]; rfl
theorem kR.shift : ∀ {ps : List (D × D)} {qs : List (Key × V)}, kR δ H ps qs → kR (ρ ++ δ) H (ps.map fun p => (D.shift ρ.length p.1, D.shift ρ.length p.2)) qs
  | [], [], _ => trivial
  | _ :: _, _ :: _, h => ⟨by show D.shift _ _ = _; rw [h.1, shift_kD], h.2.1.shift, kR.shift h.2.2⟩
theorem tR.shift : ∀ {ps : List (D × D)} {qs : List (List Key × V)}, tR δ H ps qs → tR (ρ ++ δ) H (ps.map fun p => (D.shift ρ.length p.1, D.shift ρ.length p.2)) qs
  | [], [], _ => trivial
  | p :: _, q :: _, h => ⟨by show D.shift _ p.1 = _; rw [h.1]; show D.tup (D.shifts _ _) = _; rw [shift_kDs], h.2.1.shift, tR.shift h.2.2⟩
theorem live_shift (n : Nat) (o : O) : live (O.shift n o) = live o := by cases o <;> rfl
/-- two stores, one behind the other -/
theorem SR.join {T : Sto} (s : SR K ρ H S) (t : SR K δ H T) (fr : ∀ p ∈ δ, ∀ (n : Nat) (o : O) (a : Addr), S[n]? = some o → ρ[n]? = some a → live o = true → p ≠ a) : SR K (ρ ++ δ) H (S ++ T.map (O.shift S.length)) := by
  have lt : ∀ {n : Nat} {b : Addr}, (ρ ++ δ)[n]? = some b → (n < ρ.length ∧ ρ[n]? = some b) ∨ (ρ.length ≤ n ∧ δ[n - ρ.length]? = some b) := fun {n b} e => by
    by_cases h : n < ρ.length
    · rw [List.getElem?_append_left h] at e; exact .inl ⟨h, e⟩
    · rw [List.getElem?_append_right (by omega)] at e
      exact .inr ⟨by omega, e⟩
  have lo : ∀ {n : Nat} {w : O}, n < ρ.length → (S ++ T.map (O.shift S.length))[n]? = some w → S[n]? = some w := fun {n w} h e => by
    rw [List.getElem?_append_left (by rw [← s.len]; exact h)] at e; exact e
  have hi : ∀ {n : Nat} {w : O}, ρ.length ≤ n → (S ++ T.map (O.shift S.length))[n]? = some w → ∃ u, T[n - ρ.length]? = some u ∧ w = O.shift ρ.length u := fun {n w} h e => by
    rw [s.len] at h ⊢
    rw [List.getElem?_append_right h, List.getElem?_map] at e
    obtain ⟨u, h1, h2⟩ := Option.map_eq_some_iff.mp e
    exact ⟨u, h1, h2.symm⟩
  refine ⟨by simp [s.len, t.len], fun n w b h1 h2 => ?_, fun m n b w z h1 h2 h3 h4 l1 l2 => ?_⟩
  · rcases lt h2 with ⟨hn, e⟩ | ⟨hn, e⟩
    · exact (s.at_ n w b (lo hn h1) e).same (fun _ q => q) (fun _ _ r => r.cat) fun _ _ r => r.cat
    · obtain ⟨u, h5, rfl⟩ := hi hn h1
      have r := t.at_ _ u b h5 e
      cases u with
      | lst xs => obtain ⟨vs, e1, r⟩ := r; exact ⟨vs, e1, r.shift⟩
      | dct kvs =>
        rcases r with ⟨ks, e1, r⟩ | ⟨ks, e1, r⟩
        · exact .inl ⟨ks, e1, r.shift⟩
        · exact .inr ⟨ks, e1, r.shift⟩
      | set xs => exact r.elim
      | scr ns => exact r
      | ftp xs => obtain ⟨ob, vs, e1, c, d, r⟩ := r; exact ⟨ob, vs, e1, c, d, r.shift⟩
      | dead => exact r.elim
  · rcases lt h1 with ⟨x1, e1⟩ | ⟨x1, e1⟩ <;> rcases lt h2 with ⟨x2, e2⟩ | ⟨x2, e2⟩
    · exact s.nd m n b w z e1 e2 (lo x1 h3) (lo x2 h4) l1 l2
    · exact absurd rfl (fr b (List.mem_of_getElem? e2) m w b (lo x1 h3) e1 l1)
    · exact absurd rfl (fr b (List.mem_of_getElem? e1) n z b (lo x2 h4) e2 l2)
    · obtain ⟨u1, a1, rfl⟩ := hi x1 h3
      obtain ⟨u2, a2, rfl⟩ := hi x2 h4
      rw [live_shift] at l1 l2
      have := t.nd _ _ b u1 u2 e1 e2 a1 a2 l1 l2
      omega
/-- the first things of a store -/
theorem SR.first {n : Nat} (s : SR K (ρ ++ δ) H S) (hn : ρ.length = n) (h : ((S.take n).all (O.lo n)) = true) : SR K ρ H (S.take n) := by
  have hl := s.len
  rw [List.length_append] at hl
  refine ⟨by rw [List.length_take]; omega, fun m o a h1 h2 => ?_, fun m k a o u h1 h2 h3 h4 l1 l2 => ?_⟩
  · have hm := (List.getElem?_eq_some_iff.mp h2).1
    have h1' : S[m]? = some o := by
      rw [List.getElem?_take_of_lt (by omega)] at h1; exact h1
    have r := s.at_ m o a h1' (by rw [List.getElem?_append_left hm]; exact h2)
    have lo : O.lo n o = true := List.all_eq_true.mp h o (List.mem_of_getElem? h1)
    subst hn
    cases o with
    | lst xs => obtain ⟨vs, e1, r⟩ := r; exact ⟨vs, e1, r.lo lo⟩
    | dct kvs =>
      have lo : ∀ p ∈ kvs, D.lo ρ.length p.2 = true := fun p hp => (Bool.and_eq_true_iff.mp (List.all_eq_true.mp (show (kvs.all fun p => D.lo ρ.length p.1 && D.lo ρ.length p.2) = true from lo) p hp)).2
      rcases r with ⟨ks, e1, r⟩ | ⟨ks, e1, r⟩
      · exact .inl ⟨ks, e1, r.lo lo⟩
      · exact .inr ⟨ks, e1, r.lo lo⟩
    | set xs => exact r.elim
    | scr ns => exact r
    | ftp xs => obtain ⟨ob, vs, e1, c, d, r⟩ := r; exact ⟨ob, vs, e1, c, d, r.lo lo⟩
    | dead => exact r.elim
  · have hm := (List.getElem?_eq_some_iff.mp h1).1
    have hk := (List.getElem?_eq_some_iff.mp h2).1
    rw [List.getElem?_take_of_lt (by omega)] at h3 h4
    exact s.nd m k a o u (by rw [List.getElem?_append_left hm]; exact h1) (by rw [List.getElem?_append_left hk]; exact h2) h3 h4 l1 l2
theorem callI_len {f : Fn} {ds : List D} {n : Nat} (hf : ∀ ds S r, f ds S = some r → ds.length = n) (h : callI f ds S = some (d, S')) : ds.length = n := by
  unfold callI at h
  split at h
  · split at h
    · exact hf _ _ _ ‹_›
    · cases h
  · split at h
    · exact hf _ _ _ ‹_›
    · cases h
theorem runF_len {n k : Nat} {body : List St} (ds : List D) (S : Sto) (r : D × Sto) (h : runF n k body ds S = some r) : ds.length = k := by
  unfold runF at h
  split at h
  · assumption
  · cases h
/-- the evaluator's call stands for the def's own run -/
theorem rF_of {f : Fn} {ds : List D} {vs : List V} {n : Nat} (hS : SR K ρ H S) (r : VRs ρ H ds vs) (hn : vs.length = n) (h : callI f ds S = some (d, S')) (k : Fin K ρ H d S' Q) : rF K n f vs H Q := by
  refine ⟨hn, ?_⟩
  unfold callI at h
  split at h
  · rename_i h0
    split at h
    · rename_i d1 S1 e1
      refine ⟨[], [], ds, d1, S1, ⟨rfl, fun n o a q => by simp at q, fun m n a o u q => by simp at q⟩, r.pure h0, e1, fun ρ1 H1 v g s rv => ?_⟩
      have kp : ∀ a u, H a = some u → H1 a = some u := fun a u e => g.fr a u e fun z => absurd z.1 (by simp)
      split at h
      · rename_i h1
        cases h
        exact k ρ H1 v ⟨⟨[], by simp, by simp⟩, fun a o e _ => kp a o e, g.th⟩ (hS.keep kp) (rv.pure h1)
      · cases h
        obtain ⟨δ1, e2, nn⟩ := g.ext
        rw [List.nil_append] at e2
        subst e2
        refine k (ρ ++ ρ1) H1 v ⟨⟨ρ1, rfl, nn⟩, fun a o e _ => kp a o e, g.th⟩ ((hS.keep kp).join s fun p hp n o a q1 q2 l => ?_) (by rw [← hS.len]; exact rv.shift)
        obtain ⟨u, q3, _⟩ := (hS.at_ n o a q1 q2).live l
        intro z
        rw [← z, nn p hp] at q3
        cases q3
    · cases h
  · split at h
    · rename_i d1 S1 e1
      refine ⟨ρ, S, ds, d1, S1, hS, r, e1, fun ρ1 H1 v g s rv => ?_⟩
      split at h
      · rename_i h1
        have h1 := Bool.and_eq_true_iff.mp h1
        cases h
        obtain ⟨δ1, rfl, nn⟩ := g.ext
        rw [← hS.len] at h1
        rw [← hS.len] at k
        exact k ρ H1 v ⟨⟨[], by simp, by simp⟩, g.fr, g.th⟩ (s.first rfl h1.2) (rv.lo h1.1)
      · cases h
        exact k ρ1 H1 v g s rv
    · cases h
theorem call_own {k j : Nat} {x : Str} {f : Addr} {fd : FuncData} {ps : List Str} {F : Fn} {pins : List (Addr × Obj)} {s : Shared} {us : List Value} {vs : List V} (G : FnG X.prog X.w X.K X.mg X.base k f fd ps F) (hg : X.A.guards = some []) (hr : Room j X.A) (hk : k ≤ j) (b : ∀ us : List Value, us.length = ps.length → bindArgs fd ⟨us, []⟩ = pure (ps.zip us))
    (I : L2.Inv X pins σ H s) (r : Vals vs us) (h : rF X.K ps.length F vs H Q) : wpAny (model X.prog X.w) X.A (call (.ref f) us) (EP X pins σ Q) X.xe s := by
  have hl : us.length = ps.length := by rw [← r.length]; exact h.1
  refine wpAny_call (codeAny_mono (G.go hg (hr.mono hk) I.env0 r (.of_eq (b us hl)) h) fun q s' z => ?_)
  cases q with
  | error e => exact False.elim z
  | ok fl =>
    cases fl with
    | ret u => exact I.after z
    | next => exact False.elim z
    | brk => exact False.elim z
    | cont => exact False.elim z
theorem vals_pick (perm : List Nat) : ∀ {vs : List V} {us : List Value}, Vals vs us → Vals (perm.filterMap fun i => vs[i]?) (perm.filterMap fun i => us[i]?) := by
  induction perm with
  | nil => intro vs us _; exact .nil
  | cons i is ih =>
    intro vs us r
    rw [List.filterMap_cons, List.filterMap_cons]
    cases e : vs[i]? with
    | none =>
      have : us[i]? = none := by
        rw [List.getElem?_eq_none_iff] at e ⊢
        rw [← r.length]; exact e
      rw [this]
      exact ih r
    | some v =>
      obtain ⟨u, e2, r2⟩ := r.get e
      rw [e2]
      exact .cons r2 (ih r)
theorem vrs_pick (perm : List Nat) : ∀ {ds : List D} {vs : List V}, VRs ρ H ds vs → VRs ρ H (N.pick perm ds) (perm.filterMap fun i => vs[i]?) := by
  induction perm with
  | nil => intro vs us _; exact .nil
  | cons i is ih =>
    intro ds vs r
    unfold N.pick
    rw [List.filterMap_cons, List.filterMap_cons]
    cases e : ds[i]? with
    | none =>
      have : vs[i]? = none := by
        rw [List.getElem?_eq_none_iff] at e ⊢
        rw [← r.len]; exact e
      rw [this]
      exact ih r
    | some v =>
      obtain ⟨u, e2, r2⟩ := r.get e
      rw [e2]
      exact .cons r2 (ih r)
theorem pick_len {α : Type} (perm : List Nat) (vs : List α) (h : ∀ i ∈ perm, i < vs.length) : (perm.filterMap fun i => vs[i]?).length = perm.length := by
  induction perm with
  | nil => rfl
  | cons i is ih =>
    rw [List.filterMap_cons, List.getElem?_eq_getElem (h i (by simp))]
    show Nat.succ _ = Nat.succ _
    rw [ih fun j hj => h j (by simp [hj])]
theorem call_kw {k j : Nat} {x : Str} {f : Addr} {fd : FuncData} {ps ks : List Str} {perm : List Nat} {F : Fn} {pins : List (Addr × Obj)} {s : Shared} {us : List Value} {vs : List V} (G : FnG X.prog X.w X.K X.mg X.base k f fd ps F) (hg : X.A.guards = some []) (hr : Room j X.A) (hk : k ≤ j)
    (b : ∀ us : List Value, us.length = ks.length → bindArgs fd ⟨[], ks.zip us⟩ = pure (ps.zip (perm.filterMap fun i => us[i]?))) (hl : us.length = ks.length)
    (I : L2.Inv X pins σ H s) (r : Vals vs us) (h : rF X.K ps.length F (perm.filterMap fun i => vs[i]?) H Q) : wpAny (model X.prog X.w) X.A (call (.ref f) [] (ks.zip us)) (EP X pins σ Q) X.xe s := by
  refine wpAny_call (codeAny_mono (G.go hg (hr.mono hk) I.env0 (vals_pick perm r) (.of_eq (b us hl)) h) fun q s' z => ?_)
  cases q with
  | error e => exact False.elim z
  | ok fl =>
    cases fl with
    | ret u => exact I.after z
    | next => exact False.elim z
    | brk => exact False.elim z
    | cont => exact False.elim z
end
end N
set_option autoImplicit false
set_option Elab.async false
set_option linter.all false
set_option maxRecDepth 100000
set_option maxHeartbeats 4000000
namespace N
open PySem L2 PySem.Spec PyProof.Rows
/-- what the checks know of the context they stand in -/
structure Good (X : Cx) (ns : List Str) (sc : Scope) (fn : Str → Bool) (k : Nat) : Prop where
  nm : X.N = ns
  nd : ns.Nodup
  sco : X.env.scope = sc
  kd : sc.kind = .function
  fns : X.fn = fn
  cm : X.calm = true
  gd : X.A.guards = some []
  rm : Room k X.A
  noxe : X.xe = fun _ _ => False
section
variable {P : Program} {w : World} {K : PySem.W.Frag} {mg : Str → Option Value} {base : Heap}
theorem ER.start {ρ : List Addr} {H : Hp} {ds : List D} {vs : List V} {ns : List Str} {n : Nat} (r : VRs ρ H ds vs) (hn : n = ns.length) : ER ρ H (ds.map some ++ List.replicate (n - ds.length) none) (L2.start ns vs) := by
  subst hn
  refine ⟨by simp [L2.start, r.len], fun i d q => ?_⟩
  by_cases hi : i < ds.length
  · rw [List.getElem?_append_left (by simpa using hi), List.getElem?_map] at q
    obtain ⟨d', q1, q2⟩ := Option.map_eq_some_iff.mp q
    cases q2
    obtain ⟨v, e1, rv⟩ := r.get q1
    refine ⟨v, ?_, rv⟩
    unfold L2.start
    rw [List.getElem?_append_left (by rw [List.length_map, ← r.len]; exact hi), List.getElem?_map, e1]
    rfl
  · rw [List.getElem?_append_right (by simpa using hi), List.getElem?_replicate] at q
    split at q <;> cases q
def outV : Flow → Value
  | .ret v => v
  | _ => .none
/-- a def's run over the evaluator: its body's statements -/
theorem fn_G {x qual : Str} {st : Stmt} {f : Addr} {fd : FuncData} {ns ps : List Str} {k n : Nat} {body : List St} (hn : n = ns.length) (F : C8.Fun K x qual st f fd) (sc : FnScope ns ps (C8.fnScope st))
    (hb : ∀ X : Cx, X.prog = P → X.w = w → X.K = K → X.mg = mg → X.base = base → Good X ns (C8.fnScope st) (fun _ => true) k → SSs X (C8.fnBody st) (execSs body)) : FnG P w K mg base (k + 1) f fd ps (runF n ps.length body) := by
  obtain ⟨c1, c2, c3, c4, c5, c6, c7, cdv, c8, c9, rfl, look, code⟩ := F.ex
  refine ⟨fun {A frs0 s H ar us vs Q} gd room env rel bind sp => ?_⟩
  obtain ⟨hl, ρ, S, ds, d, S', hS, rs, run, fin⟩ := sp
  have kin : K.In s.heap := env.mod.kin.keeps fun b o e => (env.bs b o e).1
  have nolim : s.heap.NoLimit := env.mod.nolimit.keeps fun b o e => (env.bs b o e).1
  have names : ∀ y ∈ ps.zip us, (C8.fnScope st).names.lookup y.1 = some .local ∨ ((C8.fnScope st).names.lookup y.1 = some .cell ∧ ((cellsFrom (s.heap.objs.size + 1) (C8.fnScope st).names []).lookup y.1).isSome = true) := by
    rintro ⟨n1, v1⟩ hy
    rcases sc.par n1 (List.of_mem_zip hy).1 with q | q
    · exact .inl q
    · exact .inr ⟨q, PySem.W.cellsFrom_some _ _ _ (.inl q)⟩
  refine codeAny_call_function room.depth (kin _ _ look) rfl sc.co sc.gen rfl (PySem.W.codeRec_of kin code) (bind _ _ _ _ ?_)
  refine wpAny_newFunctionEnv_cells sc.kind names fun en hen s1 inc => ?_
  subst hen
  refine ⟨nolim.keeps inc.toInCall.keep, codeAny_func ?_⟩
  have I := inv_start (CX := C8.CX0) (P := P) (w := w) (E := fun _ _ _ => False) sc room.hd env hl rel inc
  have good : Good (cxOf C8.CX0 P w K mg base ns qual (C8.fnScope st) f cdv A frs0 s H fun _ _ _ => False).nox ns (C8.fnScope st) (fun _ => true) k :=
    ⟨rfl, sc.nd, rfl, sc.kind, rfl, rfl, gd, room.deeper _, rfl⟩
  have ss := hb _ rfl rfl rfl rfl rfl good
  unfold runF at run
  split at run
  · rename_i hk
    split at run
    · rename_i d1 e1 S1 ex
      cases run
      refine wpAny_mono (ss.run [] s1 _ H { nx := fun _ H' => Q .non H', rt := Q } (I.wish _) ⟨ρ, _, S, _, e1, _, ER.start rs hn, hS, by rw [hk]; exact ex, fun ρ' H' g sr => (fun v rv => fin ρ' H' v g sr rv : ∀ v, VR ρ' H' d v → Q v H')⟩) (fun fl s' z => ?_) fun e s' z => False.elim z
      have q := fin_ok z.unwish
      cases fl <;> exact q
    · rename_i e1 S1 ex
      cases run
      refine wpAny_mono (ss.run [] s1 _ H { nx := fun _ H' => Q .non H', rt := Q } (I.wish _) ⟨ρ, _, S, _, e1, _, ER.start rs hn, hS, by rw [hk]; exact ex, fun ρ' H' g sr => (fun σ' _ => fin ρ' H' .non g sr .non : ∀ σ', ER ρ' H' e1 σ' → Q .non H')⟩) (fun fl s' z => ?_) fun e s' z => False.elim z
      have q := fin_ok z.unwish
      cases fl <;> exact q
    · cases run
  · cases run
where
  fin_ok {P : Program} {w : World} {K : PySem.W.Frag} {mg : Str → Option Value} {base : Heap} {ns : List Str} {qual : Str} {sc : Scope} {f : Addr} {cdv : Value} {A : Around} {frs0 : List PySem.Env} {s s' : Shared} {H : Hp} {Q : VK} {fl : Flow}
    (z : SP (cxOf C8.CX0 P w K mg base ns qual sc f cdv A frs0 s H fun _ _ _ => False) [] { nx := fun _ H' => Q .non H', rt := Q } fl s') : CE frs0 P w H s Q (outV fl) s' := by
    cases fl with
    | ret u => obtain ⟨v, σ', H', J, rv, q⟩ := z; exact ⟨v, H', J.os, J.bare, J.base, J.hok, rv, q⟩
    | next => obtain ⟨σ', H', J, q⟩ := z; exact ⟨.non, H', J.os, J.bare, J.base, J.hok, rfl, q⟩
    | brk => obtain ⟨_, _, _, q⟩ := z; exact q.elim
    | cont => obtain ⟨_, _, _, q⟩ := z; exact q.elim
end
end N
set_option autoImplicit false
set_option Elab.async false
set_option linter.all false
set_option maxRecDepth 100000
set_option maxHeartbeats 4000000
/-! zip's steps, each row a list or a tuple; its own tuple may still be held by the pair that stands ahead -/
namespace N
open PySem L2 PySem.Spec PyProof.Rows
inductive Side where
  | lst | tup
def SIter (sd : Side) (h : Heap) (i l : Addr) (k : Nat) : Prop := match sd with
  | .lst => h.IsListIter i l k
  | .tup => h.IsTupleIter i l k
def SSeq (sd : Side) (h : Heap) (l : Addr) (xs : Array Value) : Prop := match sd with
  | .lst => h.IsList l xs
  | .tup => h.IsTuple l xs
theorem SIter.extBut {sd : Side} {h h' : Heap} {a b l : Addr} {i : Nat} (x : SIter sd h a l i) (hs : Heap.ExtBut b h h') (n : a ≠ b) : SIter sd h' a l i := by
  cases sd with
  | lst => exact Heap.IsListIter.extBut x hs n
  | tup => exact Heap.IsTupleIter.extBut x hs n
theorem SIter.at {sd : Side} {h h' : Heap} {a l : Addr} {i : Nat} (x : SIter sd h a l i) (e : ∀ o, h.get? a = some o → h'.get? a = some o) : SIter sd h' a l i := by
  cases sd with
  | lst => exact Heap.IsListIter.at x e
  | tup => exact Heap.IsTupleIter.at x e
theorem SIter.get {sd : Side} {h : Heap} {a l : Addr} {i : Nat} (x : SIter sd h a l i) : ∃ o, h.get? a = some o ∧ ∀ v, o.data ≠ .cell v := by
  cases sd with
  | lst => obtain ⟨o, e, _, d⟩ := x; exact ⟨o, e, fun v q => by rw [d] at q; cases q⟩
  | tup => obtain ⟨o, e, _, d⟩ := x; exact ⟨o, e, fun v q => by rw [d] at q; cases q⟩
theorem SSeq.extBut {sd : Side} {h h' : Heap} {a b : Addr} {items : Array Value} (x : SSeq sd h a items) (hs : Heap.ExtBut b h h') (n : a ≠ b) : SSeq sd h' a items := by
  cases sd with
  | lst => exact Heap.IsList.extBut x hs n
  | tup => exact Heap.IsTuple.extBut x hs n
theorem SSeq.lt {sd : Side} {h : Heap} {a : Addr} {items : Array Value} (x : SSeq sd h a items) : a < h.objs.size := by
  cases sd with
  | lst => obtain ⟨o, e, _⟩ := x; exact Heap.lt_size e
  | tup => obtain ⟨o, e, _⟩ := x; exact Heap.lt_size e
section
variable {sd : Side} {prog : Program} {w : World} {A : Around} {E : Value → Shared → Prop} {s : Shared}
theorem snext_item {it l : Addr} {i : Nat} {items : Array Value} {x : Value} {Q : Value → Shared → Prop} (hit : SIter sd s.heap it l i) (hl : SSeq sd s.heap l items) (hx : items[i]? = some x)
    (hQ : ∀ h', SIter sd h' it l (i + 1) → Heap.SameBut it s.heap h' → Q x { s with heap := h' }) : wpAny (model prog w) A (Builtin.SmallTypes.nextOf (.ref it)) Q E s := by
  cases sd with
  | lst => exact wpAny_nextOf_list_item hit hl hx hQ
  | tup => exact RZ.nextOf_tuple_item hit hl hx hQ
theorem snext_end {it l : Addr} {i : Nat} {items : Array Value} {Q : Value → Shared → Prop} (hh : A.handled = none) (hit : SIter sd s.heap it l i) (hl : SSeq sd s.heap l items) (hx : items[i]? = none)
    (hE : ∀ h' e, Heap.ExtBut it s.heap h' → (∃ o, h'.get? e = some o ∧ o.cls = .type "StopIteration") → E (.ref e) { s with heap := h' }) : wpAny (model prog w) A (Builtin.SmallTypes.nextOf (.ref it)) Q E s := by
  cases sd with
  | lst => exact wpAny_nextOf_list_end hh hit hl hx hE
  | tup => exact RZ.nextOf_tuple_end hh hit hl hx hE
end
/-- what zip keeps of its own tuple: nothing, or where it went -/
def ZOwn (x : Value) : Prop := x = .none ∨ ∃ T : Nat, x = rawInt T
/-- the zip z, whatever it keeps -/
def ZObj (h : Heap) (z TI TO : Addr) (x : Value) (b : Bool) : Prop := h.get? z = some { cls := .type "zip", dict := none, data := .fields #[x, .bool b, .bool false, .ref TI, .ref TO], slots := #[] }
structure ZAt (sa sb : Side) (h : Heap) (z TI TO i1 i2 l1 l2 : Addr) (k : Nat) : Prop where
  z : ∃ x b, ZOwn x ∧ ZObj h z TI TO x b
  ti : IsPair h TI (.ref i1) (.ref i2)
  to : ∃ x y, IsPair h TO x y
  a : SIter sa h i1 l1 k
  b : SIter sb h i2 l2 k
theorem ZAt.at {sa sb : Side} {h h' : Heap} {z TI TO i1 i2 l1 l2 : Addr} {k : Nat} (s : ZAt sa sb h z TI TO i1 i2 l1 l2 k) (e : ∀ c ∈ [z, TI, TO, i1, i2], ∀ o, h.get? c = some o → h'.get? c = some o) : ZAt sa sb h' z TI TO i1 i2 l1 l2 k := by
  obtain ⟨x, b, hx, hz⟩ := s.z
  obtain ⟨u, v, hto⟩ := s.to
  exact ⟨⟨x, b, hx, e z (by simp) _ hz⟩, e TI (by simp) _ s.ti, ⟨u, v, e TO (by simp) _ hto⟩, s.a.at fun o q => e i1 (by simp) o q, s.b.at fun o q => e i2 (by simp) o q⟩
section
variable {sa sb : Side} {prog : Program} {w : World} {A : Around} {E : Value → Shared → Prop} {s : Shared} {z TI TO i1 i2 l1 l2 : Addr} {k : Nat} {xs ys : Array Value} {x y : Value}
/-- is zip's own tuple free -/
theorem own_free {x : Value} {b : Bool} {Q : Bool → Shared → Prop} (hx : ZOwn x) (hz : ZObj s.heap z TI TO x b)
    (h : ∀ r b' h', ZObj h' z TI TO x b' → Heap.SameBut z s.heap h' → Q r { s with heap := h' }) : wpAny (model prog w) A (Builtin.SmallTypes.ownedTupleIsFree (.ref z)) Q E s := by
  have q0 := h true b s.heap hz (Heap.SameBut.refl _ _)
  have q1 := h false b s.heap hz (Heap.SameBut.refl _ _)
  unfold Builtin.SmallTypes.ownedTupleIsFree
  refine wpAny_bind (wpAny_field hz rfl (x := x) rfl ?_)
  rcases hx with rfl | ⟨T, rfl⟩
  · exact wpAny_pure q0
  · show wpAny _ _ (loadIfAlive ((T : Int).toNat) >>= _) _ _ _
    rw [Int.toNat_natCast]
    refine wpAny_bind ?_
    have al : ∀ {R : Option Obj → Shared → Prop}, R (s.heap.get? T) s → wpAny (model prog w) A (loadIfAlive T) R E s := fun {R} q => fun _ _ _ => q
    refine al ?_
    cases s.heap.get? T with
    | none => exact wpAny_pure q0
    | some o =>
      simp only [Option.isNone_some, Bool.false_eq_true, if_false]
      refine wpAny_bind (wpAny_field hz rfl (x := .bool b) rfl ?_)
      cases b with
      | true =>
        rw [if_neg (show ¬ ((Value.bool true != Value.bool true) = true) by decide)]
        exact wpAny_pure q1
      | false =>
        rw [if_pos (show (Value.bool false != Value.bool true) = true by decide)]
        exact wpAny_bind (wpAny_setField_rec hz (by simp) fun h₁ hz₁ hs₁ => wpAny_pure (h false true h₁ hz₁ hs₁))
/-- what a turn of zip leaves: but z, TO, i1, i2 all stands -/
structure ZKeep (z TO i1 i2 : Addr) (h h' : Heap) : Prop where
  sz : h'.objs.size = h.objs.size
  k : ∀ c o, c ≠ z → c ≠ TO → c ≠ i1 → c ≠ i2 → h.get? c = some o → h'.get? c = some o
theorem ZKeep.of {h h' : Heap} {c : Addr} (s : Heap.SameBut c h h') (e : c = z ∨ c = TO ∨ c = i1 ∨ c = i2) : ZKeep z TO i1 i2 h h' :=
  ⟨s.1, fun d o d1 d2 d3 d4 q => s.extBut d o (by rcases e with e | e | e | e <;> (subst e; assumption)) q⟩
theorem ZKeep.trans {h h1 h2 : Heap} (a : ZKeep z TO i1 i2 h h1) (b : ZKeep z TO i1 i2 h1 h2) : ZKeep z TO i1 i2 h h2 :=
  ⟨b.sz.trans a.sz, fun c o c1 c2 c3 c4 e => b.k c o c1 c2 c3 c4 (a.k c o c1 c2 c3 c4 e)⟩
/-- the next pair of zip -/
theorem zat_next {Q : Value → Shared → Prop} (D : ZipApart z TI TO i1 i2 l1 l2) (st : ZAt sa sb s.heap z TI TO i1 i2 l1 l2 k) (hl1 : SSeq sa s.heap l1 xs) (hl2 : SSeq sb s.heap l2 ys) (hx : xs[k]? = some x) (hy : ys[k]? = some y)
    (hQ : ∀ h', ZAt sa sb h' z TI TO i1 i2 l1 l2 (k + 1) → IsPair h' s.heap.objs.size x y → h'.objs.size = s.heap.objs.size + 1 → (∀ c o, c ∉ [z, TO, i1, i2] → s.heap.get? c = some o → h'.get? c = some o) → Q (.ref s.heap.objs.size) { s with heap := h' }) :
    wpAny (model prog w) A (Builtin.«zip.__next__» ⟨[.ref z], []⟩) (fun fin s' => ∃ v, fin = .done (.ret v) ∧ Q v s') E s := by
  obtain ⟨own, fl, hown, hz⟩ := st.z
  obtain ⟨pa, pb, hTO⟩ := st.to
  have hTI := st.ti
  show wpAny _ _ (field (.ref z) 2 >>= _) _ _ _
  refine wpAny_bind (wpAny_field hz rfl (x := .bool false) rfl ?_)
  show wpAny _ _ (field (.ref z) 3 >>= _) _ _ _
  refine wpAny_bind (wpAny_field hz rfl (x := .ref TI) rfl ?_)
  refine wpAny_bind (wpAny_seqItems hTI rfl ?_)
  show wpAny _ _ (Builtin.SmallTypes.ownedTupleIsFree (.ref z) >>= _) _ _ _
  refine wpAny_bind (own_free hown hz fun r fl' g hz' sg => ?_)
  have K0 : ZKeep z TO i1 i2 s.heap g := .of sg (.inl rfl)
  have hTO0 : IsPair g TO pa pb := sg.extBut _ _ D.TOz hTO
  have h1 := st.a.extBut sg.extBut D.i1z
  have h2 := st.b.extBut sg.extBut D.i2z
  have hl1' := hl1.extBut sg.extBut D.l1z
  have hl2' := hl2.extBut sg.extBut D.l2z
  have hTI0 : IsPair g TI (.ref i1) (.ref i2) := sg.extBut _ _ D.TIz hTI
  -- the end: all kept but z, TO, i1, i2, a new pair
  have fin : ∀ {h5 : Heap} {ta tb : Value}, ZKeep z TO i1 i2 s.heap h5 → z < h5.objs.size → IsPair h5 TO ta tb → SIter sa h5 i1 l1 (k + 1) → SIter sb h5 i2 l2 (k + 1) →
      ∀ h8 : Heap, (∀ c o, c ≠ z → (h5.push { cls := .type "tuple", data := .seq #[x, y] }).get? c = some o → h8.get? c = some o) → h8.objs.size = h5.objs.size + 1 → (∃ x8 b8, ZOwn x8 ∧ ZObj h8 z TI TO x8 b8) → Q (.ref h5.objs.size) { s with heap := h8 } := by
    intro h5 ta tb K5 z5 t5 a5 c5 h8 k8 s8 z8
    have up : ∀ c o, c ≠ z → h5.get? c = some o → h8.get? c = some o := fun c o n e => k8 c o n (Heap.get?_push_of_some _ e)
    have hne : h5.objs.size ≠ z := Nat.ne_of_gt z5
    have new : IsPair h8 h5.objs.size x y := k8 _ _ hne (Heap.get?_push_size _ rfl)
    rw [K5.sz] at new s8 ⊢
    refine hQ h8 ⟨z8, up _ _ D.TIz (K5.k _ _ D.TIz D.TITO D.TIi1 D.TIi2 hTI), ⟨ta, tb, up _ _ D.TOz t5⟩, a5.at fun o e => up _ o D.i1z e, c5.at fun o e => up _ o D.i2z e⟩ new s8 fun c o hc e => ?_
    simp only [List.mem_cons, List.not_mem_nil, or_false, not_or] at hc
    exact up c o hc.1 (K5.k c o hc.1 hc.2.1 hc.2.2.1 hc.2.2.2 e)
  cases r with
  | false =>
    simp only [Bool.false_eq_true, if_false]
    refine wpAny_bind ?_
    rw [← Array.forIn_toList]
    simp only [List.forIn_cons, List.forIn_nil]
    refine wpAny_bind (wpAny_bind (wpAny_holding ?_))
    show wpAny _ _ (Builtin.SmallTypes.nextOf (.ref i1) >>= _) _ _ _
    refine wpAny_bind (snext_item (s := { s with heap := g }) h1 hl1' hx fun g2 a2 s2 => wpAny_pure (wpAny_pure ?_))
    refine wpAny_bind (wpAny_bind (wpAny_holding ?_))
    show wpAny _ _ (Builtin.SmallTypes.nextOf (.ref i2) >>= _) _ _ _
    refine wpAny_bind (snext_item (s := { s with heap := g2 }) (h2.extBut s2.extBut D.i12.symm) (hl2'.extBut s2.extBut D.l2i1) hy fun g3 a3 s3 => wpAny_pure (wpAny_pure (wpAny_pure ?_)))
    show wpAny _ _ (newTuple [x, y] >>= _) _ _ _
    have K3 : ZKeep z TO i1 i2 s.heap g3 := (K0.trans (.of s2 (.inr (.inr (.inl rfl))))).trans (.of s3 (.inr (.inr (.inr rfl))))
    have z3 : ZObj g3 z TI TO own fl' := s3.extBut _ _ D.i2z.symm (s2.extBut _ _ D.i1z.symm hz')
    have t3 : IsPair g3 TO pa pb := s3.extBut _ _ D.TOi2 (s2.extBut _ _ D.TOi1 hTO0)
    refine wpAny_bind (wpAny_newTuple (wpAny_pure ⟨_, rfl, ?_⟩))
    exact fin K3 (Heap.lt_size z3) t3 (a2.extBut s3.extBut D.i12) a3 _ (fun c o _ e => e) (Heap.size_push ..) ⟨own, fl', hown, Heap.get?_push_of_some _ z3⟩
  | true =>
    simp only [if_true]
    refine wpAny_bind (wpAny_rule ?_)
    refine wpAny_bind (wpAny_field hz' rfl (x := .ref TO) rfl ?_)
    refine wpAny_bind (wpAny_setField_rec hz' (by simp) fun g1 z1 s1 => ?_)
    have z1 : ZObj g1 z TI TO .ellipsis fl' := z1
    refine wpAny_bind ?_
    simp only [List.zipIdx_cons, List.zipIdx_nil, List.forIn_cons, List.forIn_nil]
    refine wpAny_bind (wpAny_bind (wpAny_onRaise ?_))
    show wpAny _ _ (Builtin.SmallTypes.nextOf (.ref i1) >>= _) _ _ _
    refine wpAny_bind (snext_item (h1.extBut s1.extBut D.i1z) (hl1'.extBut s1.extBut D.l1z) hx fun g2 a2 s2 => wpAny_pure ?_)
    have t2 : IsPair g2 TO pa pb := s2.extBut _ _ D.TOi1 (s1.extBut _ _ D.TOz hTO0)
    refine wpAny_bind (wpAny_seqItems t2 rfl ?_)
    refine wpAny_bind (wpAny_updateSeq_pair t2 fun g3 t3 s3 => ?_)
    have t3 : IsPair g3 TO x pb := t3
    refine wpAny_bind (wpAny_letGo (wpAny_pure ?_))
    refine wpAny_bind (wpAny_bind (wpAny_onRaise ?_))
    show wpAny _ _ (Builtin.SmallTypes.nextOf (.ref i2) >>= _) _ _ _
    refine wpAny_bind (snext_item (((h2.extBut s1.extBut D.i2z).extBut s2.extBut D.i12.symm).extBut s3.extBut D.TOi2.symm) (((hl2'.extBut s1.extBut D.l2z).extBut s2.extBut D.l2i1).extBut s3.extBut D.l2TO) hy fun g4 a4 s4 => wpAny_pure ?_)
    have t4 : IsPair g4 TO x pb := s4.extBut _ _ D.TOi2 t3
    refine wpAny_bind (wpAny_seqItems t4 rfl ?_)
    refine wpAny_bind (wpAny_updateSeq_pair t4 fun g5 t5 s5 => ?_)
    have t5 : IsPair g5 TO x y := t5
    refine wpAny_bind (wpAny_letGo (wpAny_pure (wpAny_pure ?_)))
    refine wpAny_bind (wpAny_seqItems t5 rfl ?_)
    refine wpAny_bind (wpAny_newTuple ?_)
    have K5 : ZKeep z TO i1 i2 s.heap g5 := ((((K0.trans (.of s1 (.inl rfl))).trans (.of s2 (.inr (.inr (.inl rfl))))).trans (.of s3 (.inr (.inl rfl)))).trans (.of s4 (.inr (.inr (.inr rfl))))).trans (.of s5 (.inr (.inl rfl)))
    have z5 : ZObj g5 z TI TO .ellipsis fl' := s5.extBut _ _ D.TOz.symm (s4.extBut _ _ D.i2z.symm (s3.extBut _ _ D.TOz.symm (s2.extBut _ _ D.i1z.symm z1)))
    have a5 : SIter sa g5 i1 l1 (k + 1) := ((a2.extBut s3.extBut D.TOi1.symm).extBut s4.extBut D.i12).extBut s5.extBut D.TOi1.symm
    have c5 : SIter sb g5 i2 l2 (k + 1) := a4.extBut s5.extBut D.TOi2.symm
    show wpAny _ _ (Builtin.SmallTypes.ownedTupleHandOut (.ref z) (.ref g5.objs.size) >>= _) _ _ _
    refine wpAny_bind ?_
    unfold Builtin.SmallTypes.ownedTupleHandOut
    have z6 : ZObj (g5.push { cls := .type "tuple", data := .seq #[x, y] }) z TI TO .ellipsis fl' := Heap.get?_push_of_some _ z5
    refine wpAny_bind (wpAny_setField_rec z6 (by simp) fun g7 z7 s7 => ?_)
    have z7 : ZObj g7 z TI TO (rawInt g5.objs.size) fl' := z7
    refine wpAny_setField_rec z7 (by simp) fun g8 z8 s8 => ?_
    have z8 : ZObj g8 z TI TO (rawInt g5.objs.size) false := z8
    refine wpAny_pure ⟨_, rfl, ?_⟩
    show Q (.ref g5.objs.size) _
    have o8 : ZOwn (rawInt g5.objs.size) := .inr ⟨_, rfl⟩
    exact fin K5 (Heap.lt_size z5) t5 a5 c5 g8 (fun c o n e => s8.extBut _ _ n (s7.extBut _ _ n e)) (by rw [s8.1, s7.1, Heap.size_push]) ⟨_, _, o8, z8⟩
/-- one of the rows has come to its end -/
theorem zat_end {Q : PySem.Fin → Shared → Prop} (hh : A.handled = none) (D : ZipApart z TI TO i1 i2 l1 l2) (st : ZAt sa sb s.heap z TI TO i1 i2 l1 l2 k) (hl1 : SSeq sa s.heap l1 xs) (hl2 : SSeq sb s.heap l2 ys) (hend : xs[k]? = none ∨ ys[k]? = none)
    (hE : ∀ h' e, (∀ c o, c ∉ [z, TO, i1, i2] → s.heap.get? c = some o → h'.get? c = some o) → (∃ o, h'.get? e = some o ∧ o.cls = .type "StopIteration") → E (.ref e) { s with heap := h' }) :
    wpAny (model prog w) A (Builtin.«zip.__next__» ⟨[.ref z], []⟩) Q E s := by
  obtain ⟨own, fl, hown, hz⟩ := st.z
  obtain ⟨pa, pb, hTO⟩ := st.to
  have hTI := st.ti
  show wpAny _ _ (field (.ref z) 2 >>= _) _ _ _
  refine wpAny_bind (wpAny_field hz rfl (x := .bool false) rfl ?_)
  show wpAny _ _ (field (.ref z) 3 >>= _) _ _ _
  refine wpAny_bind (wpAny_field hz rfl (x := .ref TI) rfl ?_)
  refine wpAny_bind (wpAny_seqItems hTI rfl ?_)
  show wpAny _ _ (Builtin.SmallTypes.ownedTupleIsFree (.ref z) >>= _) _ _ _
  refine wpAny_bind (own_free hown hz fun r fl' g hz' sg => ?_)
  have hTO0 : IsPair g TO pa pb := sg.extBut _ _ D.TOz hTO
  have h1 := st.a.extBut sg.extBut D.i1z
  have h2 := st.b.extBut sg.extBut D.i2z
  have hl1' := hl1.extBut sg.extBut D.l1z
  have hl2' := hl2.extBut sg.extBut D.l2z
  have fin : ∀ (g5 : Heap) (e : Addr), (∀ c o, c ≠ z → c ≠ TO → c ≠ i1 → c ≠ i2 → g.get? c = some o → g5.get? c = some o) → (∃ o, g5.get? e = some o ∧ o.cls = .type "StopIteration") → E (.ref e) { s with heap := g5 } := fun g5 e kk he =>
    hE g5 e (fun c o hc q => by
      simp only [List.mem_cons, List.not_mem_nil, or_false, not_or] at hc
      exact kk c o hc.1 hc.2.1 hc.2.2.1 hc.2.2.2 (sg.extBut c o hc.1 q)) he
  cases r with
  | false =>
    simp only [Bool.false_eq_true, if_false]
    refine wpAny_bind ?_
    rw [← Array.forIn_toList]
    simp only [List.forIn_cons, List.forIn_nil]
    refine wpAny_bind (wpAny_bind (wpAny_holding ?_))
    show wpAny _ _ (Builtin.SmallTypes.nextOf (.ref i1) >>= _) _ _ _
    cases hx : xs[k]? with
    | none => exact wpAny_bind (snext_end (s := { s with heap := g }) hh h1 hl1' hx fun g2 e s2 he => fin g2 e (fun c o _ _ c3 _ q => s2 c o c3 q) he)
    | some x =>
      have hy : ys[k]? = none := hend.elim (fun h => by rw [hx] at h; cases h) id
      refine wpAny_bind (snext_item (s := { s with heap := g }) h1 hl1' hx fun g2 a2 s2 => wpAny_pure (wpAny_pure ?_))
      refine wpAny_bind (wpAny_bind (wpAny_holding ?_))
      show wpAny _ _ (Builtin.SmallTypes.nextOf (.ref i2) >>= _) _ _ _
      exact wpAny_bind (snext_end (s := { s with heap := g2 }) hh (h2.extBut s2.extBut D.i12.symm) (hl2'.extBut s2.extBut D.l2i1) hy fun g3 e s3 he => fin g3 e (fun c o _ _ c3 c4 q => s3 c o c4 (s2.extBut c o c3 q)) he)
  | true =>
    simp only [if_true]
    refine wpAny_bind (wpAny_rule ?_)
    refine wpAny_bind (wpAny_field hz' rfl (x := .ref TO) rfl ?_)
    refine wpAny_bind (wpAny_setField_rec hz' (by simp) fun g1 z1 s1 => ?_)
    have z1 : ZObj g1 z TI TO .ellipsis fl' := z1
    refine wpAny_bind ?_
    simp only [List.zipIdx_cons, List.zipIdx_nil, List.forIn_cons, List.forIn_nil]
    refine wpAny_bind (wpAny_bind (wpAny_onRaise ?_))
    show wpAny _ _ (Builtin.SmallTypes.nextOf (.ref i1) >>= _) _ _ _
    -- the raise, then z is let go
    have out : ∀ (g4 g5 : Heap) (e : Addr), ZObj g4 z TI TO .ellipsis fl' → (∀ c o, c ≠ z → c ≠ TO → c ≠ i1 → c ≠ i2 → g.get? c = some o → g4.get? c = some o) → (∃ o, g5.get? e = some o ∧ o.cls = .type "StopIteration") → (∀ c o, c ≠ i1 → c ≠ i2 → g4.get? c = some o → g5.get? c = some o) →
        wpAny (model prog w) A (setField (.ref z) 0 .none) (fun _ s' => E (.ref e) s') E { s with heap := g5 } := by
      intro g4 g5 e z4 k4 he k5
      obtain ⟨oe, hoe, hce⟩ := he
      have z5 : ZObj g5 z TI TO .ellipsis fl' := k5 _ _ D.i1z.symm D.i2z.symm z4
      have hez : e ≠ z := fun q => by
        subst q
        have z5 : g5.get? e = _ := z5
        rw [z5] at hoe
        cases hoe
        simp at hce
      exact wpAny_setField_rec z5 (by simp) fun g6 _ s6 => fin g6 e (fun c o c1 c2 c3 c4 q => s6.extBut c o c1 (k5 c o c3 c4 (k4 c o c1 c2 c3 c4 q))) ⟨oe, s6.extBut _ _ hez hoe, hce⟩
    cases hx : xs[k]? with
    | none => exact wpAny_bind (snext_end hh (h1.extBut s1.extBut D.i1z) (hl1'.extBut s1.extBut D.l1z) hx fun g2 e s2 he => out g1 g2 e z1 (fun c o c1 _ _ _ q => s1.extBut c o c1 q) he fun c o c3 _ q => s2 c o c3 q)
    | some x =>
      have hy : ys[k]? = none := hend.elim (fun h => by rw [hx] at h; cases h) id
      refine wpAny_bind (snext_item (h1.extBut s1.extBut D.i1z) (hl1'.extBut s1.extBut D.l1z) hx fun g2 a2 s2 => wpAny_pure ?_)
      have t2 : IsPair g2 TO pa pb := s2.extBut _ _ D.TOi1 (s1.extBut _ _ D.TOz hTO0)
      refine wpAny_bind (wpAny_seqItems t2 rfl ?_)
      refine wpAny_bind (wpAny_updateSeq_pair t2 fun g3 t3 s3 => ?_)
      refine wpAny_bind (wpAny_letGo (wpAny_pure ?_))
      refine wpAny_bind (wpAny_bind (wpAny_onRaise ?_))
      show wpAny _ _ (Builtin.SmallTypes.nextOf (.ref i2) >>= _) _ _ _
      exact wpAny_bind (snext_end hh (((h2.extBut s1.extBut D.i2z).extBut s2.extBut D.i12.symm).extBut s3.extBut D.TOi2.symm) (((hl2'.extBut s1.extBut D.l2z).extBut s2.extBut D.l2i1).extBut s3.extBut D.l2TO) hy fun g4 e s4 he =>
        out g3 g4 e (s3.extBut _ _ D.TOz.symm (s2.extBut _ _ D.i1z.symm z1)) (fun c o c1 c2 c3 _ q => s3.extBut c o c2 (s2.extBut c o c3 (s1.extBut c o c1 q))) he fun c o _ c4 q => s4 c o c4 q)
theorem zat_type (st : ZAt sa sb s.heap z TI TO i1 i2 l1 l2 k) : s.TypeIs (.ref z) "zip" := by
  obtain ⟨own, fl, hown, hz⟩ := st.z
  exact ⟨_, hz, rfl⟩
end
end N
set_option autoImplicit false
set_option Elab.async false
set_option linter.all false
set_option maxRecDepth 100000
set_option maxHeartbeats 4000000
/-! zip of a list and a tuple -/
namespace N
open PySem L2 PySem.Spec PyProof.Rows
def sObj (sd : Side) (l : Addr) : Obj := match sd with
  | .lst => { cls := .type "list_iterator", data := .fields #[.ref l, .int 0 0] }
  | .tup => { cls := .type "tuple_iterator", data := .fields #[.ref l, .int 0 0] }
abbrev zs1 (sa sb : Side) (h : Heap) (l1 l2 : Addr) : Heap := h.push (sObj sa l1)
abbrev zs2 (sa sb : Side) (h : Heap) (l1 l2 : Addr) : Heap := (zs1 sa sb h l1 l2).push (sObj sb l2)
abbrev zs3 (sa sb : Side) (h : Heap) (l1 l2 : Addr) : Heap := (zs2 sa sb h l1 l2).push { cls := .type "tuple", data := .seq #[.ref h.objs.size, .ref (zs1 sa sb h l1 l2).objs.size] }
abbrev zs4 (sa sb : Side) (h : Heap) (l1 l2 : Addr) : Heap := (zs3 sa sb h l1 l2).push { cls := .type "tuple", data := .seq #[.none, .none] }
abbrev zs5 (sa sb : Side) (h : Heap) (l1 l2 : Addr) : Heap := (zs4 sa sb h l1 l2).push { cls := .type "zip", data := .fields #[.none, .bool false, .bool false, .ref (zs2 sa sb h l1 l2).objs.size, .ref (zs3 sa sb h l1 l2).objs.size] }
theorem meets_lt (l1 l2 : Addr) (xs ys : Array Value) : Meets (Builtin.«zip.__new__» ⟨[.type "zip", .ref l1, .ref l2], []⟩) (fun _ R s => SSeq .lst s.heap l1 xs ∧ SSeq .tup s.heap l2 ys ∧ R (.ok (.ret (.ref (zs4 .lst .tup s.heap l1 l2).objs.size))) { s with heap := zs5 .lst .tup s.heap l1 l2 }) :=
  .of_wp fun prog w A R s h => by
    obtain ⟨hp, g, d, tk, os⟩ := s
    obtain ⟨q1, q2, q⟩ := h
    have sz := sub_zip
    have a1 : Heap.IsList (Shared.heap ⟨hp, g, d, tk, os⟩) l1 xs := q1
    have a2 : Heap.IsTuple (Shared.heap ⟨hp.push { cls := .type "list_iterator", data := .fields #[.ref l1, .int 0 0] }, g, d, tk, os⟩) l2 ys := Heap.IsTuple.push q2 _
    wp_walk using wpAny_pyIter_list a1, wpAny_pyIter_tuple a2
    exact ⟨_, rfl, q⟩
theorem meets_tl (l1 l2 : Addr) (xs ys : Array Value) : Meets (Builtin.«zip.__new__» ⟨[.type "zip", .ref l1, .ref l2], []⟩) (fun _ R s => SSeq .tup s.heap l1 xs ∧ SSeq .lst s.heap l2 ys ∧ R (.ok (.ret (.ref (zs4 .tup .lst s.heap l1 l2).objs.size))) { s with heap := zs5 .tup .lst s.heap l1 l2 }) :=
  .of_wp fun prog w A R s h => by
    obtain ⟨hp, g, d, tk, os⟩ := s
    obtain ⟨q1, q2, q⟩ := h
    have sz := sub_zip
    have a1 : Heap.IsTuple (Shared.heap ⟨hp, g, d, tk, os⟩) l1 xs := q1
    have a2 : Heap.IsList (Shared.heap ⟨hp.push { cls := .type "tuple_iterator", data := .fields #[.ref l1, .int 0 0] }, g, d, tk, os⟩) l2 ys := Heap.IsList.push q2 _
    wp_walk using wpAny_pyIter_tuple a1, wpAny_pyIter_list a2
    exact ⟨_, rfl, q⟩
/-- the two sides that are not alike -/
inductive Mix : Side → Side → Prop
  | lt : Mix .lst .tup
  | tl : Mix .tup .lst
section
variable {sa sb : Side} {prog : Program} {w : World} {A : Around} {E : Value → Shared → Prop} {s : Shared}
theorem call_zipM (m : Mix sa sb) {l1 l2 : Addr} {xs ys : Array Value} {Q : Value → Shared → Prop} (q1 : SSeq sa s.heap l1 xs) (q2 : SSeq sb s.heap l2 ys)
    (h : ∀ h', ZAt sa sb h' (s.heap.objs.size + 4) (s.heap.objs.size + 2) (s.heap.objs.size + 3) s.heap.objs.size (s.heap.objs.size + 1) l1 l2 0 → (∀ c o, s.heap.get? c = some o → h'.get? c = some o) → Q (.ref (s.heap.objs.size + 4)) { s with heap := h' }) :
    wpAny (model prog w) A (call (.type "zip") [.ref l1, .ref l2]) Q E s := by
  have z1 : (zs1 sa sb s.heap l1 l2).objs.size = s.heap.objs.size + 1 := Heap.size_push ..
  have z2 : (zs2 sa sb s.heap l1 l2).objs.size = s.heap.objs.size + 2 := by rw [Heap.size_push, z1]
  have z3 : (zs3 sa sb s.heap l1 l2).objs.size = s.heap.objs.size + 3 := by rw [Heap.size_push, z2]
  have z4 : (zs4 sa sb s.heap l1 l2).objs.size = s.heap.objs.size + 4 := by rw [Heap.size_push, z3]
  have up : ∀ (h : Heap) (o : Obj) {c : Addr} {u : Obj}, h.get? c = some u → (h.push o).get? c = some u := fun h o {c u} e => Heap.get?_push_of_some _ e
  have g5 : (zs5 sa sb s.heap l1 l2).get? (zs4 sa sb s.heap l1 l2).objs.size = some _ := Heap.get?_push_size _ rfl
  have g4 : (zs5 sa sb s.heap l1 l2).get? (zs3 sa sb s.heap l1 l2).objs.size = some _ := up _ _ (Heap.get?_push_size _ rfl)
  have g3 : (zs5 sa sb s.heap l1 l2).get? (zs2 sa sb s.heap l1 l2).objs.size = some _ := up _ _ (up _ _ (Heap.get?_push_size _ rfl))
  have g2 : (zs5 sa sb s.heap l1 l2).get? (zs1 sa sb s.heap l1 l2).objs.size = some (sObj sb l2) := up _ _ (up _ _ (up _ _ (Heap.get?_push_size _ (by cases sb <;> rfl))))
  have g1 : (zs5 sa sb s.heap l1 l2).get? s.heap.objs.size = some (sObj sa l1) := up _ _ (up _ _ (up _ _ (up _ _ (Heap.get?_push_size _ (by cases sa <;> rfl)))))
  rw [z2, z3, z4] at g5
  rw [z1, z2] at g3
  rw [z3] at g4
  rw [z1] at g2
  have fin : (Shared.TypeIs { s with heap := zs5 sa sb s.heap l1 l2 } (.ref (s.heap.objs.size + 4)) "zip") ∧ Q (.ref (s.heap.objs.size + 4)) { s with heap := zs5 sa sb s.heap l1 l2 } := by
    refine ⟨⟨_, g5, rfl⟩, h _ ⟨⟨_, _, .inl rfl, g5⟩, g3, ⟨_, _, g4⟩, ?_, ?_⟩ fun c o e => up _ _ (up _ _ (up _ _ (up _ _ (up _ _ e))))⟩
    · cases sa with
      | lst => exact ⟨_, g1, rfl, rfl⟩
      | tup => exact ⟨_, g1, rfl, rfl⟩
    · cases sb with
      | lst => exact ⟨_, g2, rfl, rfl⟩
      | tup => exact ⟨_, g2, rfl, rfl⟩
  cases m with
  | lt =>
    refine callType_new F.called_zip (by decide) (F.typeCall_zip_2 _ _) (F.newCall_zip_2 _ _) (fun obj => F.args_object_init_3 obj _ _) F.entry_zip_new (meets_lt l1 l2 xs ys) ⟨q1, q2, ?_⟩
    show _ ∧ _
    rw [z4]
    exact fin
  | tl =>
    refine callType_new F.called_zip (by decide) (F.typeCall_zip_2 _ _) (F.newCall_zip_2 _ _) (fun obj => F.args_object_init_3 obj _ _) F.entry_zip_new (meets_tl l1 l2 xs ys) ⟨q1, q2, ?_⟩
    show _ ∧ _
    rw [z4]
    exact fin
variable {z TI TO i1 i2 l1 l2 : Addr} {k : Nat} {xs ys : Array Value} {x y : Value}
theorem zat_iter {Q : Value → Shared → Prop} (st : ZAt sa sb s.heap z TI TO i1 i2 l1 l2 k) (h : Q (.ref z) s) : wpAny (model prog w) A (pyIter (.ref z)) Q E s := by
  have hT := zat_type st
  refine wpAny_pyIter_slot hT F.slot_zip_iter (wpAny_call_entry F.slot_zip_iter hT F.entry_zip_iter ?_ (F.args_zip_iter_1 _))
  show wpAny _ _ (ret (.ref z)) _ _ s
  exact wpAny_pure ⟨_, rfl, "zip", _, hT, F.slot_zip_next.lookup, h⟩
/-- the pair is let go, or not -/
theorem zat_go {elts : List Expr} {kk : Nat} {pos : Pos} {T : Addr} {Q : Unit → Shared → Prop} (D : ZipApart z TI TO i1 i2 l1 l2) (st : ZAt sa sb s.heap z TI TO i1 i2 l1 l2 k)
    (h : ∀ h', ZAt sa sb h' z TI TO i1 i2 l1 l2 k → Heap.SameBut z s.heap h' → Q () { s with heap := h' }) : wpAny (model prog w) A (letOwnedTupleGo (.Tuple elts kk pos) (.ref z) (.ref T)) Q E s := by
  obtain ⟨own, fl, hown, hz⟩ := st.z
  unfold letOwnedTupleGo
  refine wpAny_bind (wpAny_load hz ?_)
  show wpAny _ _ (if (["enumerate", "zip", "dict_itemiterator", "dict_reverseitemiterator", "odict_iterator", "itertools.zip_longest", "itertools.pairwise"].contains "zip" &&
      (#[own, .bool fl, .bool false, .ref TI, .ref TO] : Array Value)[0]? == some (rawInt T)) = true then _ else _) Q E s
  split
  · refine wpAny_bind (wpAny_rule ?_)
    show wpAny _ _ (setField (.ref z) 0 .none) Q E s
    refine wpAny_setField_rec hz (by simp) fun h' hz' hs' => h h' ⟨⟨.none, fl, .inl rfl, hz'⟩, hs'.extBut _ _ D.TIz st.ti, ?_, st.a.extBut hs'.extBut D.i1z, st.b.extBut hs'.extBut D.i2z⟩ hs'
    obtain ⟨u, v, hto⟩ := st.to
    exact ⟨u, v, hs'.extBut _ _ D.TOz hto⟩
  · exact wpAny_pure (h s.heap st (Heap.SameBut.refl _ _))
theorem zat_py {Q : Option Value → Shared → Prop} (D : ZipApart z TI TO i1 i2 l1 l2) (st : ZAt sa sb s.heap z TI TO i1 i2 l1 l2 k) (hl1 : SSeq sa s.heap l1 xs) (hl2 : SSeq sb s.heap l2 ys) (hx : xs[k]? = some x) (hy : ys[k]? = some y)
    (hQ : ∀ h', ZAt sa sb h' z TI TO i1 i2 l1 l2 (k + 1) → IsPair h' s.heap.objs.size x y → h'.objs.size = s.heap.objs.size + 1 → (∀ c o, c ∉ [z, TO, i1, i2] → s.heap.get? c = some o → h'.get? c = some o) → Q (some (.ref s.heap.objs.size)) { s with heap := h' }) : wpAny (model prog w) A (pyNext (.ref z)) Q E s := by
  have hT := zat_type st
  unfold pyNext
  exact wpAny_bind (wpAny_attempt (wpAny_callSpecial?_slot (name := Str.ofString "__next__") hT F.slot_zip_next (wpAny_call_entry F.slot_zip_next hT F.entry_zip_next (zat_next D st hl1 hl2 hx hy fun h' a1 a2 a3 a4 => wpAny_pure (hQ h' a1 a2 a3 a4)) (F.args_zip_next_1 _))))
theorem zat_pyEnd {Q : Option Value → Shared → Prop} (hh : A.handled = none) (D : ZipApart z TI TO i1 i2 l1 l2) (st : ZAt sa sb s.heap z TI TO i1 i2 l1 l2 k) (hl1 : SSeq sa s.heap l1 xs) (hl2 : SSeq sb s.heap l2 ys) (hend : xs[k]? = none ∨ ys[k]? = none)
    (hQ : ∀ h', (∀ c o, c ∉ [z, TO, i1, i2] → s.heap.get? c = some o → h'.get? c = some o) → Q none { s with heap := h' }) : wpAny (model prog w) A (pyNext (.ref z)) Q E s := by
  have hT := zat_type st
  unfold pyNext
  refine wpAny_bind (wpAny_attempt (wpAny_callSpecial?_slot (name := Str.ofString "__next__") hT F.slot_zip_next (wpAny_call_entry F.slot_zip_next hT F.entry_zip_next (zat_end hh D st hl1 hl2 hend fun h' e hk he => ?_) (F.args_zip_next_1 _))))
  obtain ⟨o, ho, hc⟩ := he
  refine wpAny_bind (wpAny_isInstance (T := "StopIteration") (b := true) ⟨o, ho, hc⟩ isSubtype_stop ?_)
  exact wpAny_pure (hQ _ hk)
end
/-! ### as an iterator -/
def SqS (sd : Side) (K : PySem.W.Frag) (H : Hp) (a : Addr) (xs : List V) : Prop := match sd with
  | .lst => SqL K H a xs
  | .tup => SqT K H a xs
section
variable {X : Cx} {sa sb : Side} {pins : List (Addr × Obj)} {σ : L2.St} {H : Hp} {s : Shared} {a : Addr} {xs ys : List V}
theorem sq_raw {sd : Side} (I : L2.Inv X pins σ H s) (q : SqS sd X.K H a xs) : ∃ its : List Value, Vals xs its ∧ SSeq sd s.heap a its.toArray := by
  cases sd with
  | lst => obtain ⟨its, rv, p, _⟩ := I.list q; exact ⟨its, rv, p.isList⟩
  | tup => obtain ⟨its, rv, p, _⟩ := I.tuple q; exact ⟨its, rv, p⟩
theorem sq_inj {sd : Side} (I : L2.Inv X pins σ H s) (q : SqS sd X.K H a xs) (q' : SqS sd X.K H a ys) : xs = ys := by
  cases sd with
  | lst => exact I.list_inj q q'
  | tup => exact I.tuple_inj q q'
def Izm (sa sb : Side) (K : PySem.W.Frag) (a b : Addr) : It :=
  ⟨fun i H => ∃ (xs ys : List V) (x y : V), SqS sa K H a xs ∧ SqS sb K H b ys ∧ xs[i]? = some x ∧ ys[i]? = some y,
    fun i H v H' => ∃ T x y, v = .ref T ∧ H T = none ∧ H' = upd H T (.tup [x, y]) ∧ (∀ xs, SqS sa K H a xs → xs[i]? = some x) ∧ ∀ ys, SqS sb K H b ys → ys[i]? = some y,
    fun i H => ∃ xs ys : List V, SqS sa K H a xs ∧ SqS sb K H b ys ∧ (xs.length ≤ i ∨ ys.length ≤ i)⟩
theorem turn_zm {P : Program} {w : World} {K : PySem.W.Frag} {elts : List Expr} {kk : Nat} {tpos : Pos} {a b z TI TO i1 i2 : Addr} (D : ZipApart z TI TO i1 i2 a b) :
    Turn P w K (.Tuple elts kk tpos) (Izm sa sb K a b) [z, TI, TO, i1, i2] z (fun i h => ZAt sa sb h z TI TO i1 i2 a b i) where
  mem := by simp
  obj := fun i h sz c hc => by
    obtain ⟨x, fl, _, hz⟩ := sz.z
    obtain ⟨u, v, hto⟩ := sz.to
    simp only [List.mem_cons, List.not_mem_nil, or_false] at hc
    rcases hc with q | q | q | q | q
    · rw [q]; exact ⟨_, hz, fun v q => nomatch q⟩
    · rw [q]; exact ⟨_, sz.ti, fun v q => nomatch q⟩
    · rw [q]; exact ⟨_, hto, fun v q => nomatch q⟩
    · rw [q]; exact sz.a.get
    · rw [q]; exact sz.b.get
  keep := fun i h h' sz k => sz.at fun c hc o q => k c hc o q
  item := by
    intro X hP hw hK hc i pins s σ H E I hf sz hg
    subst hP hw hK
    obtain ⟨xs, ys, x, y, hqx, hqy, hx, hy⟩ := hg
    obtain ⟨its, rv, tp⟩ := sq_raw I hqx
    obtain ⟨its2, rv2, tp2⟩ := sq_raw I hqy
    obtain ⟨u, hu, ru⟩ := rv.get hx
    obtain ⟨u2, hu2, ru2⟩ := rv2.get hy
    obtain ⟨own, fl, _, hz⟩ := sz.z
    have hzl : z < s.heap.objs.size := Heap.lt_size hz
    refine zat_py D sz tp tp2 (x := u) (y := u2) (by simpa using hu) (by simpa using hu2) fun h1 st1 p1 sz1 k1 => ?_
    refine ⟨_, rfl, zat_go (s := { s with heap := h1 }) D st1 fun h2 st2 sb2 => ?_⟩
    have p2 : IsPair h2 s.heap.objs.size u u2 := (sb2.2 _ (Nat.ne_of_gt hzl)).trans p1
    have new : ObjOk X.prog X.w (upd H s.heap.objs.size (.tup [x, y])) h2 s.heap.objs.size (.tup [x, y]) := ⟨by show 2 ≤ sizeLine; decide, [u, u2], .cons ru (.cons ru2 .nil), ⟨_, p2, rfl, _, rfl⟩⟩
    have I1 : L2.Inv X pins σ (upd H s.heap.objs.size (.tup [x, y])) { s with heap := h2 } := I.turnedNew (t' := s.toks) (ch := [z, TI, TO, i1, i2]) (fun c o hb q => (sb2.2 c (fun q' => hb (by simp [q']))).trans (k1 c o (fun q' => hb (by
      simp only [List.mem_cons, List.not_mem_nil, or_false] at q' ⊢
      rcases q' with q' | q' | q' | q' <;> simp [q'])) q)) hf (Nat.le_refl _) new
    refine ⟨.ref s.heap.objs.size, _, I1, rfl, ⟨_, x, y, rfl, I.hok.fresh (Nat.le_refl _), rfl, fun l hl => by rw [sq_inj I hl hqx]; exact hx, fun l hl => by rw [sq_inj I hl hqy]; exact hy⟩, st2, fun c hcm => ?_⟩
    have hlt : c < s.heap.objs.size := by
      obtain ⟨u, v, hto⟩ := sz.to
      obtain ⟨o1, e1, _⟩ := sz.a.get
      obtain ⟨o2, e2, _⟩ := sz.b.get
      simp only [List.mem_cons, List.not_mem_nil, or_false] at hcm
      rcases hcm with q | q | q | q | q
      · rw [q]; exact hzl
      · rw [q]; exact Heap.lt_size sz.ti
      · rw [q]; exact Heap.lt_size hto
      · rw [q]; exact Heap.lt_size e1
      · rw [q]; exact Heap.lt_size e2
    rw [upd_ne (Nat.ne_of_lt hlt)]
    exact (hf c hcm).1
  done := by
    intro X hP hw hK hc i pins s σ H E I hf sz hg
    subst hP hw hK
    obtain ⟨xs, ys, hqx, hqy, hend⟩ := hg
    obtain ⟨its, rv, tp⟩ := sq_raw I hqx
    obtain ⟨its2, rv2, tp2⟩ := sq_raw I hqy
    have l1 := rv.length
    have l2 := rv2.length
    have he : its.toArray[i]? = none ∨ its2.toArray[i]? = none := by
      rcases hend with q | q
      · exact .inl (by simp; omega)
      · exact .inr (by simp; omega)
    exact zat_pyEnd (I.ok.hd hc) D sz tp tp2 he fun h' hk => ⟨rfl, I.turnedL (t' := s.toks) (ch := [z, TI, TO, i1, i2]) (fun c o hb q => hk c o (fun q' => hb (by
      simp only [List.mem_cons, List.not_mem_nil, or_false] at q' ⊢
      rcases q' with q' | q' | q' | q' <;> simp [q'])) q) hf⟩
  self := fun A i s Q E st h => zat_iter st h
def iZm (K : PySem.W.Frag) (ta : TA) : TI := fun σ H R => ta σ H fun vs H1 => ∃ sa sb a b xs ys, Mix sa sb ∧ vs = [.ref a, .ref b] ∧ SqS sa K H1 a xs ∧ SqS sb K H1 b ys ∧ R (Izm sa sb K a b) H1
theorem pi_zm {e e2 : Expr} {ta : TA} {p pos tpos : Pos} {elts : List Expr} {kk : Nat} (hg : Gl X "zip") (hm : X.mg "zip" = none) (ha : PA X [e, e2] ta)
    (hs : starEach [e, e2] X.env = (false, eval e X.env) :: starEach [e2] X.env) (hpl : (backTo pos (starEach [e2] X.env)).any (·.1) = false) : PI X (.Tuple elts kk tpos) (.Call (.Name "zip" p) [e, e2] [] pos) (iZm X.K ta) := by
  refine ⟨fun pins s σ H R I h => ?_⟩
  refine Call_ (ld_blt I hg hm PyProof.Rows.boot_zip (PyProof.Rows.callWith_type1 (thn (ha.run pos pins s σ H _ I h) fun us s1 ⟨vs, H1, I1, r1, q1⟩ => ?_) hs hpl))
  obtain ⟨sa, sb, a, b, xs, ys, m, rfl, hqx, hqy, q⟩ := q1
  cases r1 with
  | cons r rr =>
    cases rr with
    | cons r' rr =>
      cases rr
      cases r
      cases r'
      obtain ⟨its, rv, p1⟩ := sq_raw I1 hqx
      obtain ⟨its2, rv2, p2⟩ := sq_raw I1 hqy
      refine call_zipM m p1 p2 fun h' st hk => zat_iter (s := { s1 with heap := h' }) st ?_
      have I2 : L2.Inv X pins σ H1 { s1 with heap := h' } := I1.kept (t' := s1.toks) hk
      refine ⟨s1.heap.objs.size + 4, [s1.heap.objs.size + 4, s1.heap.objs.size + 2, s1.heap.objs.size + 3, s1.heap.objs.size, s1.heap.objs.size + 1], _, _, H1, rfl, I2, turn_zm (PySem.W.ktu_apart s1.heap.objs.size a b p1.lt p2.lt), st, fun c hcm => ?_, q⟩
      have hle : s1.heap.objs.size ≤ c := by
        simp only [List.mem_cons, List.not_mem_nil, or_false] at hcm
        rcases hcm with z | z | z | z | z <;> rw [z] <;> first | exact Nat.le_add_right _ _ | exact Nat.le_refl _
      exact I1.fpOk hle (I1.hok.fresh hle)
end
end N
set_option autoImplicit false
set_option Elab.async false
set_option linter.all false
set_option maxRecDepth 100000
set_option maxHeartbeats 4000000
namespace N
open PySem L2 PySem.Spec PyProof.Rows
/-- the iterator J gives the row ds as long as what g names stays -/
def Yields (K : PySem.W.Frag) (J : It) (ρ0 : List Addr) (H0 : Hp) (ds : List D) (g : List (Nat × O)) : Prop :=
  ∀ (i : Nat) (ρ : List Addr) (H : Hp) (S : Sto), Go ρ0 H0 ρ H → SR K ρ H S → guardOk S g = true → (ds.length ≤ i → J.stop i H) ∧
    ∀ d, ds[i]? = some d → J.go i H ∧ ∀ x H', J.yld i H x H' → Go ρ H ρ H' ∧ SR K ρ H' S ∧ VR ρ H' d x
def TIv (K : PySem.W.Frag) (x : Env → Sto → RI) : TI := fun σ H R => ∃ ρ e S ds g S', ER ρ H e σ ∧ SR K ρ H S ∧ x e S = some (ds, g, S') ∧ ∀ ρ' H' J, Go ρ H ρ' H' → SR K ρ' H' S' → Yields K J ρ' H' ds g → R J H'
def SI (X : Cx) (tg iter : Expr) (x : Env → Sto → RI) : Prop := PI X tg iter (TIv X.K x)
theorem PI.imp {X : Cx} {tg iter : Expr} {t u : TI} (h : PI X tg iter t) (i : ∀ σ H R, u σ H R → t σ H R) : PI X tg iter u := ⟨fun pins s σ H R I q => h.run pins s σ H R I (i σ H R q)⟩
theorem guard_app {S : Sto} {g h : List (Nat × O)} : guardOk S (g ++ h) = true ↔ guardOk S g = true ∧ guardOk S h = true := by
  unfold guardOk; rw [List.all_append, Bool.and_eq_true]
theorem guard_one {S : Sto} {n : Nat} {o : O} : guardOk S [(n, o)] = true ↔ S[n]? = some o := by
  unfold guardOk; simp
section
variable {X : Cx} {K : PySem.W.Frag} {ρ ρ0 ρ' : List Addr} {H H0 H' : Hp} {S S' : Sto} {d : D} {v : V} {e : Env} {σ : L2.St}
/-! #### rows -/
/-- the row at n of the store, whatever comes -/
theorem row_sq {n : Nat} {a : Addr} {ds : List D} {g : List (Nat × O)} {T : Sto} (h : rowV n T = some (ds, g)) (ea : ρ0[n]? = some a) (gg : Go ρ0 H0 ρ H) (s : SR K ρ H S) (ok : guardOk S g = true) : ∃ vs, SqL K H a vs ∧ VRs ρ H ds vs := by
  unfold rowV at h
  split at h
  · cases h
    exact s.row (guard_one.mp ok) (gg.at_ ea)
  · cases h
    exact ⟨_, s.scr (guard_one.mp ok) (gg.at_ ea), VRs.ofInts _⟩
  · cases h
theorem yields_row {n : Nat} {a : Addr} {ds : List D} {g : List (Nat × O)} {T : Sto} (h : rowV n T = some (ds, g)) (ea : ρ0[n]? = some a) : Yields K (Itl K a) ρ0 H0 ds g := by
  intro i ρ H S gg s ok
  obtain ⟨vs, q, rs⟩ := row_sq h ea gg s ok
  refine ⟨fun hl => ⟨vs, q, by rw [← rs.len]; exact hl⟩, fun d hd => ?_⟩
  obtain ⟨v, e1, r⟩ := rs.get hd
  refine ⟨⟨vs, v, q, e1⟩, fun x H' y => ?_⟩
  obtain ⟨e2, y⟩ := y
  subst e2
  have := y vs q
  rw [e1] at this
  cases this
  exact ⟨.refl, s, r⟩
theorem yields_tup {a : Addr} {ds : List D} {vs : List V} (ea : H0 a = some (.tup vs)) (rs : VRs ρ0 H0 ds vs) : Yields K (Itt K a) ρ0 H0 ds [] := by
  intro i ρ H S gg s ok
  have q := SqT.of (K := K) (gg.tup ea)
  have rs := rs.go gg
  refine ⟨fun hl => ⟨vs, q, by rw [← rs.len]; exact hl⟩, fun d hd => ?_⟩
  obtain ⟨v, e1, r⟩ := rs.get hd
  refine ⟨⟨vs, v, q, e1⟩, fun x H' y => ?_⟩
  obtain ⟨e2, y⟩ := y
  subst e2
  have := y vs q
  rw [e1] at this
  cases this
  exact ⟨.refl, s, r⟩
/-- a pair just laid -/
theorem laid_pair {T : Addr} {d1 d2 : D} {x y : V} (s : SR K ρ H S) (hT : H T = none) (r1 : VR ρ H d1 x) (r2 : VR ρ H d2 y) : Go ρ H ρ (upd H T (.tup [x, y])) ∧ SR K ρ (upd H T (.tup [x, y])) S ∧ VR ρ (upd H T (.tup [x, y])) (.tup [d1, d2]) (.ref T) :=
  ⟨Go.laid hT, s.laid hT, .tup upd_same (.cons (r1.go (Go.laid hT)) (.cons (r2.go (Go.laid hT)) .nil))⟩
theorem yields_enum {n : Nat} {a : Addr} {ds : List D} {g : List (Nat × O)} {T : Sto} (h : rowV n T = some (ds, g)) (ea : ρ0[n]? = some a) : Yields K (Ite K a) ρ0 H0 (enumV ds) g := by
  intro i ρ H S gg s ok
  obtain ⟨vs, q, rs⟩ := row_sq h ea gg s ok
  refine ⟨fun hl => ⟨vs, q, by rw [← rs.len]; simpa [enumV] using hl⟩, fun d hd => ?_⟩
  unfold enumV at hd
  rw [List.getElem?_map, List.getElem?_zipIdx] at hd
  obtain ⟨p, hp, rfl⟩ := Option.map_eq_some_iff.mp hd
  obtain ⟨d1, h1, rfl⟩ := Option.map_eq_some_iff.mp hp
  obtain ⟨v, e1, r⟩ := rs.get h1
  refine ⟨⟨vs, v, q, e1⟩, fun x H' y => ?_⟩
  obtain ⟨T', z, rfl, hT, rfl, y⟩ := y
  have := y vs q
  rw [e1] at this
  cases this
  rw [Nat.zero_add]
  exact laid_pair s hT (.int _) r
theorem yields_zipL {m n : Nat} {a b : Addr} {ds es : List D} {g h : List (Nat × O)} {T : Sto} (h1 : rowV m T = some (ds, g)) (h2 : rowV n T = some (es, h)) (ea : ρ0[m]? = some a) (eb : ρ0[n]? = some b) : Yields K (Itz K a b) ρ0 H0 (zipV ds es) (g ++ h) := by
  intro i ρ H S gg s ok
  obtain ⟨ok1, ok2⟩ := guard_app.mp ok
  obtain ⟨vs, q, rs⟩ := row_sq h1 ea gg s ok1
  obtain ⟨ws, q', rs'⟩ := row_sq h2 eb gg s ok2
  refine ⟨fun hl => ⟨vs, ws, q, q', ?_⟩, fun d hd => ?_⟩
  · unfold zipV at hl
    rw [List.length_map, List.length_zip, rs.len, rs'.len] at hl
    omega
  · unfold zipV at hd
    rw [List.getElem?_map] at hd
    obtain ⟨p, hp, rfl⟩ := Option.map_eq_some_iff.mp hd
    obtain ⟨hp1, hp2⟩ := List.getElem?_zip_eq_some.mp hp
    obtain ⟨v, e1, r⟩ := rs.get hp1
    obtain ⟨w, e2, r'⟩ := rs'.get hp2
    refine ⟨⟨vs, ws, v, w, q, q', e1, e2⟩, fun x H' y => ?_⟩
    obtain ⟨T', z1, z2, rfl, hT, rfl, y1, y2⟩ := y
    have t1 := y1 vs q
    have t2 := y2 ws q'
    rw [e1] at t1
    rw [e2] at t2
    cases t1
    cases t2
    exact laid_pair s hT r r'
theorem yields_zipT {a b : Addr} {ds es : List D} {vs ws : List V} (ea : H0 a = some (.tup vs)) (eb : H0 b = some (.tup ws)) (rs : VRs ρ0 H0 ds vs) (rs' : VRs ρ0 H0 es ws) : Yields K (RZ.ItzT K a b) ρ0 H0 (zipV ds es) [] := by
  intro i ρ H S gg s ok
  have q := SqT.of (K := K) (gg.tup ea)
  have q' := SqT.of (K := K) (gg.tup eb)
  have rs := rs.go gg
  have rs' := rs'.go gg
  refine ⟨fun hl => ⟨vs, ws, q, q', ?_⟩, fun d hd => ?_⟩
  · unfold zipV at hl
    rw [List.length_map, List.length_zip, rs.len, rs'.len] at hl
    omega
  · unfold zipV at hd
    rw [List.getElem?_map] at hd
    obtain ⟨p, hp, rfl⟩ := Option.map_eq_some_iff.mp hd
    obtain ⟨hp1, hp2⟩ := List.getElem?_zip_eq_some.mp hp
    obtain ⟨v, e1, r⟩ := rs.get hp1
    obtain ⟨w, e2, r'⟩ := rs'.get hp2
    refine ⟨⟨vs, ws, v, w, q, q', e1, e2⟩, fun x H' y => ?_⟩
    obtain ⟨T', z1, z2, rfl, hT, rfl, y1, y2⟩ := y
    have t1 := y1 vs q
    have t2 := y2 ws q'
    rw [e1] at t1
    rw [e2] at t2
    cases t1
    cases t2
    exact laid_pair s hT r r'
theorem yields_zipM {sa sb : Side} {a b : Addr} {ds es : List D} {g : List (Nat × O)} (f1 : ∀ ρ H S, Go ρ0 H0 ρ H → SR K ρ H S → guardOk S g = true → ∃ vs, SqS sa K H a vs ∧ VRs ρ H ds vs) (f2 : ∀ ρ H S, Go ρ0 H0 ρ H → SR K ρ H S → guardOk S g = true → ∃ vs, SqS sb K H b vs ∧ VRs ρ H es vs) : Yields K (Izm sa sb K a b) ρ0 H0 (zipV ds es) g := by
  intro i ρ H S gg s ok
  obtain ⟨vs, q, rs⟩ := f1 ρ H S gg s ok
  obtain ⟨ws, q', rs'⟩ := f2 ρ H S gg s ok
  refine ⟨fun hl => ⟨vs, ws, q, q', ?_⟩, fun d hd => ?_⟩
  · unfold zipV at hl
    rw [List.length_map, List.length_zip, rs.len, rs'.len] at hl
    omega
  · unfold zipV at hd
    rw [List.getElem?_map] at hd
    obtain ⟨p, hp, rfl⟩ := Option.map_eq_some_iff.mp hd
    obtain ⟨hp1, hp2⟩ := List.getElem?_zip_eq_some.mp hp
    obtain ⟨v, e1, r⟩ := rs.get hp1
    obtain ⟨w, e2, r'⟩ := rs'.get hp2
    refine ⟨⟨vs, ws, v, w, q, q', e1, e2⟩, fun x H' y => ?_⟩
    obtain ⟨T', z1, z2, rfl, hT, rfl, y1, y2⟩ := y
    have t1 := y1 vs q
    have t2 := y2 ws q'
    rw [e1] at t1
    rw [e2] at t2
    cases t1
    cases t2
    exact laid_pair s hT r r'
theorem yields_rng (lo : Int) (n : Nat) : Yields K (Itr lo n) ρ0 H0 ((List.range n).map fun k => .int (lo + (k : Nat))) [] := by
  intro i ρ H S gg s ok
  refine ⟨fun hl => (show n ≤ i by simpa using hl), fun d hd => ?_⟩
  rw [List.getElem?_map] at hd
  obtain ⟨p, hp, rfl⟩ := Option.map_eq_some_iff.mp hd
  have hi := (List.getElem?_eq_some_iff.mp hp).1
  have := (List.getElem?_eq_some_iff.mp hp).2
  simp at hi this
  subst this
  refine ⟨hi, fun x H' y => ?_⟩
  obtain ⟨rfl, rfl⟩ := y
  exact ⟨.refl, s, .int _⟩
theorem yields_dn (lo : Int) (n : Nat) : Yields K (Itc lo (-1) n) ρ0 H0 ((List.range n).map fun k => .int (lo - (k : Nat))) [] := by
  intro i ρ H S gg s ok
  refine ⟨fun hl => (show n ≤ i by simpa using hl), fun d hd => ?_⟩
  rw [List.getElem?_map] at hd
  obtain ⟨p, hp, rfl⟩ := Option.map_eq_some_iff.mp hd
  have hi := (List.getElem?_eq_some_iff.mp hp).1
  have := (List.getElem?_eq_some_iff.mp hp).2
  simp at hi this
  subst this
  refine ⟨hi, fun x H' y => ?_⟩
  obtain ⟨rfl, rfl⟩ := y
  rw [show lo + ((i : Nat) : Int) * -1 = lo - (i : Nat) by omega]
  exact ⟨.refl, s, .int _⟩
/-! #### what is walked -/
theorem si_wk {tg E : Expr} {x : Ex} (he : SE X E (evalE x)) : SI X tg E (evalIt (.wk x)) := by
  refine ⟨fun pins s σ H R I h => ?_⟩
  obtain ⟨ρ, e, S, ds, g, S', h1, h2, h3, k⟩ := h
  simp only [evalIt] at h3
  split at h3
  · cases h3
  rename_i d S1 e1
  split at h3
  · cases h3
  rename_i xs g' e2
  cases h3
  unfold walkV at e2
  split at e2
  · cases e2
    refine (pi_tup he).run pins s σ H R I ⟨ρ, e, S, _, S', h1, h2, e1, fun ρ' H' v gg s' r => ?_⟩
    cases r with
    | tup ea rs => exact ⟨_, rfl, ⟨_, .of ea⟩, k ρ' H' _ gg s' (yields_tup ea rs)⟩
  · rename_i n
    refine (pi_list he).run pins s σ H R I ⟨ρ, e, S, _, S', h1, h2, e1, fun ρ' H' v gg s' r => ?_⟩
    cases r with
    | ref ea =>
      refine ⟨_, rfl, ?_, k ρ' H' _ gg s' (yields_row e2 ea)⟩
      unfold rowV at e2
      split at e2
      · rename_i e3
        obtain ⟨vs, q, _⟩ := s'.row e3 ea
        exact ⟨vs, q⟩
      · rename_i e3
        exact ⟨_, s'.scr e3 ea⟩
      · cases e2
  · cases e2
theorem sq_row {n : Nat} {a : Addr} {ds : List D} {g : List (Nat × O)} (h : rowV n S = some (ds, g)) (ea : ρ[n]? = some a) (s : SR K ρ H S) : ∃ vs, SqL K H a vs := by
  unfold rowV at h
  split at h
  · rename_i e3
    obtain ⟨vs, q, _⟩ := s.row e3 ea
    exact ⟨vs, q⟩
  · rename_i e3
    exact ⟨_, s.scr e3 ea⟩
  · cases h
theorem sa_one {E : Expr} {x : Ex} (he : SE X E (evalE x)) (hs : starEach [E] X.env = (false, eval E X.env) :: starEach [] X.env) : SA X [E] (evalEs [x]) := PA.imp (sa_cons he (sa_nil (X := X)) hs) fun σ H Q q => by
  obtain ⟨ρ, e, S, ds, S', h1, h2, h3, k⟩ := q
  simp only [evalEs] at h3
  exact ⟨ρ, e, S, ds, S', h1, h2, h3, k⟩
theorem si_enumL {E : Expr} {x : Ex} {elts : List Expr} {kk : Nat} {p pos tpos : Pos} (hg : Gl X "enumerate") (hm : X.mg "enumerate" = none) (he : SE X E (evalE x)) (hs : starEach [E] X.env = (false, eval E X.env) :: starEach [] X.env) :
    SI X (.Tuple elts kk tpos) (.Call (.Name "enumerate" p) [E] [] pos) (fun e S => match evalE x e S with
    | none => none
    | some (d, S1) => match enumL d S1 with
      | none => none
      | some (xs, g) => some (xs, g, S1)) := PI.imp (pi_enum hg hm (pa_cons he pa_nil hs) (by rw [hs]; rfl)) fun σ H R h => by
  obtain ⟨ρ, e, S, ds, g, S', h1, h2, h3, k⟩ := h
  simp only at h3
  split at h3
  · cases h3
  rename_i d S1 e1
  split at h3
  · cases h3
  rename_i xs g' e2
  cases h3
  unfold enumL at e2
  split at e2
  · rename_i n
    split at e2
    · cases e2
    · rename_i ys gg0 e3
      cases e2
      refine ⟨ρ, e, S, _, S', h1, h2, e1, fun ρ' H' v gg s' r => ?_⟩
      cases r with
      | ref ea =>
        obtain ⟨vs, q⟩ := sq_row e3 ea s'
        exact ⟨_, vs, rfl, q, k ρ' H' _ gg s' (yields_enum e3 ea)⟩
  · cases e2
theorem pi_either {tg it : Expr} {t u : TI} (h1 : PI X tg it t) (h2 : PI X tg it u) : PI X tg it (fun σ H R => t σ H R ∨ u σ H R) := ⟨fun pins s σ H R I h => h.elim (h1.run pins s σ H R I) (h2.run pins s σ H R I)⟩
theorem si_zip {E E2 : Expr} {x y : Ex} {elts : List Expr} {kk : Nat} {p pos tpos : Pos} (hg : Gl X "zip") (hm : X.mg "zip" = none) (he : SE X E (evalE x)) (he2 : SE X E2 (evalE y)) (hs : starEach [E, E2] X.env = (false, eval E X.env) :: starEach [E2] X.env) (hs2 : starEach [E2] X.env = (false, eval E2 X.env) :: starEach [] X.env) (hpl : (backTo pos (starEach [E2] X.env)).any (·.1) = false) :
    SI X (.Tuple elts kk tpos) (.Call (.Name "zip" p) [E, E2] [] pos) (evalIt (.zip x y)) := PI.imp (pi_either (RZ.pi_zipA hg hm (pa_cons he (pa_cons he2 pa_nil hs2) hs) hs hpl) (pi_zm hg hm (pa_cons he (pa_cons he2 pa_nil hs2) hs) hs hpl)) fun σ H R h => by
  obtain ⟨ρ, e, S, ds, g, S', h1, h2, h3, k⟩ := h
  simp only [evalIt] at h3
  split at h3
  · cases h3
  rename_i d S1 e1
  split at h3
  · cases h3
  rename_i d2 S2 e2
  split at h3
  · cases h3
  rename_i xs g' e3
  cases h3
  unfold zipI at e3
  split at e3
  · cases e3
    refine .inl ⟨ρ, e, S, _, S1, h1, h2, e1, fun ρ1 H1 v1 g1 s1 r1 => ⟨ρ1, e, S1, _, _, h1.go g1, s1, e2, fun ρ2 H2 v2 g2 s2 r2 => ?_⟩⟩
    have r1 := r1.go g2
    cases r1 with
    | tup ea rs =>
      cases r2 with
      | tup eb rs' => exact ⟨_, _, _, _, rfl, .inr ⟨.of ea, .of eb, k ρ2 H2 _ (g1.trans g2) s2 (yields_zipT ea eb rs rs')⟩⟩
  · split at e3
    · rename_i m n _ _ _ _ e4 e5
      cases e3
      refine .inl ⟨ρ, e, S, _, S1, h1, h2, e1, fun ρ1 H1 v1 g1 s1 r1 => ⟨ρ1, e, S1, _, _, h1.go g1, s1, e2, fun ρ2 H2 v2 g2 s2 r2 => ?_⟩⟩
      have r1 := r1.go g2
      cases r1 with
      | ref ea =>
        cases r2 with
        | ref eb =>
          obtain ⟨vs, q⟩ := sq_row e4 ea s2
          obtain ⟨ws, q'⟩ := sq_row e5 eb s2
          exact ⟨_, _, vs, ws, rfl, .inl ⟨q, q', k ρ2 H2 _ (g1.trans g2) s2 (yields_zipL e4 e5 ea eb)⟩⟩
    · cases e3
  · split at e3
    · rename_i _ _ _ _ _ e5
      cases e3
      refine .inr ⟨ρ, e, S, _, S1, h1, h2, e1, fun ρ1 H1 v1 g1 s1 r1 => ⟨ρ1, e, S1, _, _, h1.go g1, s1, e2, fun ρ2 H2 v2 g2 s2 r2 => ?_⟩⟩
      have r1 := r1.go g2
      cases r1 with
      | tup ea rs =>
        cases r2 with
        | ref eb =>
          obtain ⟨ws, q'⟩ := sq_row e5 eb s2
          exact ⟨.tup, .lst, _, _, _, ws, .tl, rfl, SqT.of ea, q', k ρ2 H2 _ (g1.trans g2) s2 (yields_zipM (fun ρ H S gg s ok => ⟨_, SqT.of (gg.tup ea), rs.go gg⟩) (fun ρ H S gg s ok => row_sq e5 eb gg s ok))⟩
    · cases e3
  · split at e3
    · rename_i _ _ _ _ _ e4
      cases e3
      refine .inr ⟨ρ, e, S, _, S1, h1, h2, e1, fun ρ1 H1 v1 g1 s1 r1 => ⟨ρ1, e, S1, _, _, h1.go g1, s1, e2, fun ρ2 H2 v2 g2 s2 r2 => ?_⟩⟩
      have r1 := r1.go g2
      cases r1 with
      | ref ea =>
        cases r2 with
        | tup eb rs =>
          obtain ⟨vs, q⟩ := sq_row e4 ea s2
          exact ⟨.lst, .tup, _, _, vs, _, .lt, rfl, q, SqT.of eb, k ρ2 H2 _ (g1.trans g2) s2 (yields_zipM (fun ρ H S gg s ok => row_sq e4 ea gg s ok) (fun ρ H S gg s ok => ⟨_, SqT.of (gg.tup eb), rs.go gg⟩))⟩
    · cases e3
  · cases e3
/-! #### ranges -/
theorem rngV_up (lo hi : Int) : rngV lo hi 1 = (List.range (hi - lo).toNat).map fun k => .int (lo + (k : Nat)) := by
  unfold rngV; rw [if_pos rfl]
theorem rngV_dn (lo hi : Int) : rngV lo hi (-1) = (List.range (lo - hi).toNat).map fun k => .int (lo - (k : Nat)) := by
  unfold rngV; rw [if_neg (by decide), if_pos rfl]
theorem rng1 {i : Int} {xs : List D} (h : rngI [.int i] = some xs) : (-1000000000 ≤ i ∧ i ≤ line) ∧ xs = rngV 0 i 1 := by
  simp only [rngI] at h
  split at h
  · rename_i c
    cases h
    rw [Bool.and_eq_true, decide_eq_true_eq, decide_eq_true_eq] at c
    exact ⟨c, rfl⟩
  · cases h
theorem rng2 {i j : Int} {xs : List D} (h : rngI [.int i, .int j] = some xs) : (-1000000000 ≤ i ∧ i ≤ 1000000000 ∧ -1000000000 ≤ j ∧ j ≤ 1000000000 ∧ j - i ≤ line) ∧ xs = rngV i j 1 := by
  simp only [rngI] at h
  split at h
  · rename_i c
    cases h
    simp only [Bool.and_eq_true, decide_eq_true_eq] at c
    exact ⟨c, rfl⟩
  · cases h
theorem rng3 {i j c : Int} {xs : List D} (h : rngI [.int i, .int j, .int c] = some xs) : c = -1 ∧ (-1000000000 ≤ i ∧ i ≤ 1000000000 ∧ -1000000000 ≤ j ∧ j ≤ 1000000000 ∧ i - j ≤ line) ∧ xs = rngV i j (-1) := by
  simp only [rngI] at h
  split at h
  · rename_i c
    cases h
    simp only [Bool.and_eq_true, decide_eq_true_eq] at c
    exact ⟨c.1, c.2, rfl⟩
  · cases h
/-- the forms of a row of arguments that rngI takes -/
theorem rng_args {ds xs : List D} (h : rngI ds = some xs) : (∃ i, ds = [.int i]) ∨ (∃ i j, ds = [.int i, .int j]) ∨ ∃ i j c, ds = [.int i, .int j, .int c] := by
  unfold rngI at h
  split at h
  · exact .inl ⟨_, rfl⟩
  · exact .inr (.inl ⟨_, _, rfl⟩)
  · exact .inr (.inr ⟨_, _, _, rfl⟩)
  · cases h
theorem evalEs_len : ∀ {xs : List Ex} {e : Env} {S S' : Sto} {ds : List D}, evalEs xs e S = some (ds, S') → ds.length = xs.length
  | [], _, _, _, _, h => by simp only [evalEs] at h; cases h; rfl
  | x :: xs, e, S, S', ds, h => by
    simp only [evalEs] at h
    split at h
    · cases h
    · split at h
      · cases h
      · rename_i e2
        cases h
        rw [List.length_cons, List.length_cons, evalEs_len e2]
theorem si_rng1 {tg E : Expr} {x : Ex} {p pos : Pos} (hg : Gl X "range") (hm : X.mg "range" = none) (ha : SA X [E] (evalEs [x])) (hs : starEach [E] X.env = (false, eval E X.env) :: starEach [] X.env) :
    SI X tg (.Call (.Name "range" p) [E] [] pos) (evalIt (.rng [x])) := PI.imp (pi_range1 hg hm ha (by rw [hs]; rfl)) fun σ H R h => by
  obtain ⟨ρ, e, S, ds, g, S', h1, h2, h3, k⟩ := h
  simp only [evalIt] at h3
  split at h3
  · cases h3
  rename_i as S1 e1
  split at h3
  · cases h3
  rename_i xs e2
  cases h3
  refine ⟨ρ, e, S, as, S', h1, h2, e1, fun ρ' H' vs gg s' r => ?_⟩
  have hl := evalEs_len e1
  rcases rng_args e2 with ⟨i, rfl⟩ | ⟨i, j, rfl⟩ | ⟨i, j, c, rfl⟩
  · obtain ⟨⟨b1, b2⟩, rfl⟩ := rng1 e2
    have := r.toInts (ns := [i])
    subst this
    have hb : ((line : Nat) : Int) = 16777216 := rfl
    refine ⟨i, rfl, by omega, by omega, k ρ' H' _ gg s' ?_⟩
    rw [rngV_up, show i - 0 = i by omega]
    exact yields_rng 0 i.toNat
  · cases hl
  · cases hl
theorem si_rng2 {tg E E2 : Expr} {x y : Ex} {p pos : Pos} (hg : Gl X "range") (hm : X.mg "range" = none) (ha : SA X [E, E2] (evalEs [x, y])) (hs : starEach [E, E2] X.env = (false, eval E X.env) :: starEach [E2] X.env) (hs2 : starEach [E2] X.env = (false, eval E2 X.env) :: starEach [] X.env) :
    SI X tg (.Call (.Name "range" p) [E, E2] [] pos) (evalIt (.rng [x, y])) := PI.imp (pi_range2 hg hm ha (by rw [hs, hs2]; rfl) (by rw [hs2]; rfl)) fun σ H R h => by
  obtain ⟨ρ, e, S, ds, g, S', h1, h2, h3, k⟩ := h
  simp only [evalIt] at h3
  split at h3
  · cases h3
  rename_i as S1 e1
  split at h3
  · cases h3
  rename_i xs e2
  cases h3
  refine ⟨ρ, e, S, as, S', h1, h2, e1, fun ρ' H' vs gg s' r => ?_⟩
  have hl := evalEs_len e1
  rcases rng_args e2 with ⟨i, rfl⟩ | ⟨i, j, rfl⟩ | ⟨i, j, c, rfl⟩
  · cases hl
  · obtain ⟨⟨b1, b2, b3, b4, b5⟩, rfl⟩ := rng2 e2
    have := r.toInts (ns := [i, j])
    subst this
    refine ⟨i, j, rfl, ⟨by omega, by omega, by omega, by omega⟩, k ρ' H' _ gg s' ?_⟩
    rw [rngV_up]
    exact yields_rng i (j - i).toNat
  · cases hl
theorem si_rng3 {tg E E2 E3 : Expr} {x y z : Ex} {p pos : Pos} (hg : Gl X "range") (hm : X.mg "range" = none) (ha : SA X [E, E2, E3] (evalEs [x, y, z])) (hs : starEach [E, E2, E3] X.env = (false, eval E X.env) :: starEach [E2, E3] X.env) (hpl : (backTo pos (starEach [E2, E3] X.env)).any (·.1) = false) :
    SI X tg (.Call (.Name "range" p) [E, E2, E3] [] pos) (evalIt (.rng [x, y, z])) := PI.imp (pi_range3 hg hm ha hs hpl) fun σ H R h => by
  obtain ⟨ρ, e, S, ds, g, S', h1, h2, h3, k⟩ := h
  simp only [evalIt] at h3
  split at h3
  · cases h3
  rename_i as S1 e1
  split at h3
  · cases h3
  rename_i xs e2
  cases h3
  refine ⟨ρ, e, S, as, S', h1, h2, e1, fun ρ' H' vs gg s' r => ?_⟩
  have hl := evalEs_len e1
  rcases rng_args e2 with ⟨i, rfl⟩ | ⟨i, j, rfl⟩ | ⟨i, j, c, rfl⟩
  · cases hl
  · cases hl
  · obtain ⟨rfl, ⟨b1, b2, b3, b4, b5⟩, rfl⟩ := rng3 e2
    have := r.toInts (ns := [i, j, -1])
    subst this
    refine ⟨i, j, -1, (i - j).toNat, rfl, RgC.neg (by omega) (by omega) (by omega) (by omega), k ρ' H' _ gg s' ?_⟩
    rw [rngV_dn]
    exact yields_dn i (i - j).toNat
/-! #### for -/
theorem ss_for {t it : Ex} {b : List St} {tg iter : Expr} {body : List Stmt} {pos : Pos} (hx : X.xe = fun _ _ => False) (hc : X.calm = true) (hi : SI X tg iter (evalIt it)) (hg : SG X tg t) (hb : SSs X body (execSs b))
    (hs : ∀ x, foldedSetIterable iter X.env x = pure x) : SS X (.For tg iter body [] pos) (execS (.forS t it b)) := by
  refine PS.imp (ps_for (by rw [hx]; exact PassesOwn.never) hc hi hg hb hs) fun De σ H q => ?_
  obtain ⟨ρ, e, S, f, e', S', h1, h2, h3, h4⟩ := q
  simp only [execS] at h3
  split at h3
  · cases h3
  rename_i ds g S1 e1
  refine ⟨ρ, e, S, ds, g, S1, h1, h2, e1, fun ρ1 H1 J g1 s1 y => ?_⟩
  -- what is left to run at turn i
  let Pv : Nat → L2.St → Hp → Prop := fun i σ H => ∃ ρ e S, i ≤ ds.length ∧ Go ρ1 H1 ρ H ∧ ER ρ H e σ ∧ SR X.K ρ H S ∧ forL (bindT t) (execSs b) g (ds.drop i) e S = some (f, e', S') ∧ EFin X.K ρ H f e' S' De
  refine ⟨fun i m σ H => m = ds.length - i ∧ Pv i σ H, ⟨_, rfl, ρ1, e, S1, Nat.zero_le _, .refl, h1.go g1, s1, h3, h4.go g1⟩, ?_⟩
  rintro i m σ2 H2 ⟨rfl, ρ2, e2, S2, hi, g2, E2, s2, run, fin⟩
  cases hd : ds.drop i with
  | nil =>
    rw [hd] at run
    simp only [forL] at run
    split at run
    · rename_i ok
      cases run
      have hl : ds.length ≤ i := by
        have := congrArg List.length hd
        rw [List.length_drop, List.length_nil] at this
        omega
      exact .inl ⟨(y i ρ2 H2 _ g2 s2 ok).1 hl, fin ρ2 H2 .refl s2 σ2 E2⟩
    · cases run
  | cons d rest =>
    rw [hd] at run
    simp only [forL] at run
    split at run
    · rename_i ok
      have hget : ds[i]? = some d := by
        have := List.getElem?_drop (xs := ds) (i := i) (j := 0)
        rw [hd] at this
        simpa using this.symm
      have hlt : i < ds.length := (List.getElem?_eq_some_iff.mp hget).1
      have hrest : ds.drop (i + 1) = rest := by
        rw [← List.drop_drop, hd]; rfl
      obtain ⟨go, yl⟩ := (y i ρ2 H2 _ g2 s2 ok).2 d hget
      refine .inr ⟨go, Pv (i + 1), fun σ' H' p => ⟨_, by omega, rfl, p⟩, fun x H3 hy => ?_⟩
      obtain ⟨g3, s3, r3⟩ := yl x H3 hy
      split at run
      · cases run
      rename_i e4 S4 q4
      refine ⟨ρ2, e2, S2, d, e4, S4, E2.go g3, s3, r3, q4, fun ρ5 H5 σ5 g5 s5 E5 _ => ?_⟩
      have g25 := g3.trans g5
      have fin5 := fin.go g25
      split at run
      · rename_i e6 S6 q6
        refine ⟨ρ5, e4, S4, .nx, e6, S6, E5, s5, q6, fun ρ7 H7 g7 s7 => (fun σ7 E7 => ?_ : ∀ σ7, ER ρ7 H7 e6 σ7 → Pv (i + 1) σ7 H7)⟩
        exact ⟨ρ7, e6, S6, hlt, g2.trans (g25.trans g7), E7, s7, by rw [hrest]; exact run, fin5.go g7⟩
      · rename_i e6 S6 q6
        cases run
        exact ⟨ρ5, e4, S4, .brk, _, _, E5, s5, q6, fun ρ7 H7 g7 s7 => fin5 ρ7 H7 g7 s7⟩
      · rename_i d6 e6 S6 q6
        cases run
        exact ⟨ρ5, e4, S4, .rt _, _, _, E5, s5, q6, fun ρ7 H7 g7 s7 => fin5 ρ7 H7 g7 s7⟩
      · cases run
    · cases run
/-! #### while -/
theorem ss_wh {c : Ex} {b : List St} {n : Nat} {C : Expr} {body : List Stmt} {pos : Pos} (hx : X.xe = fun _ _ => False) (hc : ST X C (evalE c)) (hb : SSs X body (execSs b)) : SS X (.While C body [] pos) (execS (.wh n c b)) := by
  refine PS.imp (ps_while (by rw [hx]; exact PassesOwn.never) hc hb) fun De σ H q => ?_
  obtain ⟨ρ, e, S, f, e', S', h1, h2, h3, h4⟩ := q
  simp only [execS] at h3
  let Pv : Nat → L2.St → Hp → Prop := fun m σ H => ∃ ρ e S, ER ρ H e σ ∧ SR X.K ρ H S ∧ whL (fun e S => thenT (evalE c e S)) (execSs b) m e S = some (f, e', S') ∧ EFin X.K ρ H f e' S' De
  refine ⟨fun m σ H => Pv m σ H, ⟨n, ρ, e, S, h1, h2, h3, h4⟩, ?_⟩
  rintro m σ2 H2 ⟨ρ2, e2, S2, E2, s2, run, fin⟩
  cases m with
  | zero => simp only [whL] at run; cases run
  | succ m =>
    simp only [whL] at run
    split at run
    · cases run
    · rename_i S3 q3
      cases run
      simp only [thenT] at q3
      split at q3
      · rename_i d3 S4 q4
        obtain ⟨b', q5, q6⟩ := Option.map_eq_some_iff.mp q3
        cases q6
        exact ⟨ρ2, _, S2, d3, _, false, E2, s2, q4, q5, fun ρ' H' g s => fin ρ' H' g s σ2 (E2.go g)⟩
      · cases q3
    · rename_i S3 q3
      simp only [thenT] at q3
      split at q3
      · rename_i d3 S4 q4
        obtain ⟨b', q5, q6⟩ := Option.map_eq_some_iff.mp q3
        cases q6
        refine ⟨ρ2, _, S2, d3, _, true, E2, s2, q4, q5, fun ρ' H' g s => ⟨Pv m, fun σ' H' p => ⟨m, Nat.lt_succ_self _, p⟩, ?_⟩⟩
        have fin' := fin.go g
        split at run
        · rename_i e6 S6 q6
          refine ⟨ρ', e2, S3, .nx, e6, S6, E2.go g, s, q6, fun ρ7 H7 g7 s7 => (fun σ7 E7 => ?_ : ∀ σ7, ER ρ7 H7 e6 σ7 → Pv m σ7 H7)⟩
          exact ⟨ρ7, e6, S6, E7, s7, run, fin'.go g7⟩
        · rename_i e6 S6 q6
          cases run
          exact ⟨ρ', e2, S3, .brk, _, _, E2.go g, s, q6, fun ρ7 H7 g7 s7 => fin' ρ7 H7 g7 s7⟩
        · rename_i d6 e6 S6 q6
          cases run
          exact ⟨ρ', e2, S3, .rt _, _, _, E2.go g, s, q6, fun ρ7 H7 g7 s7 => fin' ρ7 H7 g7 s7⟩
        · cases run
      · cases q3
end
end N
set_option autoImplicit false
set_option Elab.async false
set_option linter.all false
set_option maxRecDepth 100000
set_option maxHeartbeats 4000000
namespace N
open PySem L2 PySem.Spec PyProof.Rows
section
variable {X : Cx} {K : PySem.W.Frag} {ρ ρ0 ρ' : List Addr} {H H0 H' : Hp} {S S' : Sto} {d : D} {v : V} {e : Env} {σ : L2.St} {D0 : Addr}
mutual
theorem VR.tups (g : ∀ a vs, H a = some (.tup vs) → H' a = some (.tup vs)) : ∀ {d : D} {v : V}, VR ρ H d v → VR ρ H' d v
  | _, _, .non => .non
  | _, _, .bl b => .bl b
  | _, _, .int i => .int i
  | _, _, .str s => .str s
  | _, _, .tup e r => .tup (g _ _ e) (VRs.tups g r)
  | _, _, .ref e => .ref e
  | _, _, .rep => .rep
theorem VRs.tups (g : ∀ a vs, H a = some (.tup vs) → H' a = some (.tup vs)) : ∀ {d : List D} {v : List V}, VRs ρ H d v → VRs ρ H' d v
  | _, _, .nil => .nil
  | _, _, .cons a b => .cons (VR.tups g a) (VRs.tups g b)
end
theorem upd_tups {ys zs : List V} (hD : H D0 = some (.lst ys)) : ∀ a vs, H a = some (.tup vs) → upd H D0 (.lst zs) a = some (.tup vs) := fun a vs e => by
  rw [upd_ne (show a ≠ D0 from fun z => by rw [z, hD] at e; cases e)]; exact e
/-- a list that no place of the store tells is changed -/
theorem SR.off {ys zs : List V} (s : SR K ρ H S) (hD : H D0 = some (.lst ys)) (hn : D0 ∉ ρ) : SR K ρ (upd H D0 (.lst zs)) S :=
  ⟨s.len, fun n o a h1 h2 => (s.at_ n o a h1 h2).same (fun u e => by rw [upd_ne (show a ≠ D0 from fun z => hn (z ▸ List.mem_of_getElem? h2))]; exact e) (fun _ _ r => r.tups (upd_tups hD)) fun _ _ r => r.tups (upd_tups hD), s.nd⟩
/-- a list that stands already comes into the store -/
theorem SR.push {xs : List D} {vs : List V} (s : SR K ρ H S) (hD : H D0 = some (.lst vs)) (hn : D0 ∉ ρ) (r : VRs ρ H xs vs) : SR K (ρ ++ [D0]) H (S ++ [.lst xs]) := by
  have lt : ∀ {n : Nat} {b : Addr}, (ρ ++ [D0])[n]? = some b → (n < ρ.length ∧ ρ[n]? = some b) ∨ (n = ρ.length ∧ b = D0) := fun {n b} e => by
    by_cases h : n < ρ.length
    · rw [List.getElem?_append_left h] at e; exact .inl ⟨h, e⟩
    · rw [List.getElem?_append_right (by omega)] at e
      have h1 := (List.getElem?_eq_some_iff.mp e).1
      have h2 : n = ρ.length := by simp at h1; omega
      subst h2
      simp at e
      exact .inr ⟨rfl, e.symm⟩
  have lo : ∀ {n : Nat} {w : O}, n < ρ.length → (S ++ [O.lst xs])[n]? = some w → S[n]? = some w := fun {n w} h e => by
    rw [List.getElem?_append_left (by rw [← s.len]; exact h)] at e; exact e
  have last : ∀ {w : O}, (S ++ [O.lst xs])[ρ.length]? = some w → w = .lst xs := fun {w} e => by
    rw [s.len, List.getElem?_append_right (Nat.le_refl _)] at e; simp at e; exact e.symm
  refine ⟨by simp [s.len], fun n w b h1 h2 => ?_, fun m n b w z h1 h2 h3 h4 l1 l2 => ?_⟩
  · rcases lt h2 with ⟨hn', e⟩ | ⟨hn', e⟩
    · exact (s.at_ n w b (lo hn' h1) e).same (fun _ q => q) (fun _ _ r => r.cat) fun _ _ r => r.cat
    · subst e; subst hn'
      rw [last h1]
      exact ⟨vs, hD, r.cat⟩
  · rcases lt h1 with ⟨x1, e1⟩ | ⟨x1, e1⟩ <;> rcases lt h2 with ⟨x2, e2⟩ | ⟨x2, e2⟩
    · exact s.nd m n b w z e1 e2 (lo x1 h3) (lo x2 h4) l1 l2
    · exact absurd (e2 ▸ List.mem_of_getElem? e1) hn
    · exact absurd (e1 ▸ List.mem_of_getElem? e2) hn
    · rw [x1, x2]
theorem wipe_len (e : Env) : ∀ vs : List Nat, (N.wipe e vs).length = e.length
  | [] => rfl
  | v :: vs => by show ((N.wipe e vs).set v none).length = _; rw [List.length_set, wipe_len e vs]
theorem wipe_get {e : Env} {i : Nat} {d : D} : ∀ {vs : List Nat}, (N.wipe e vs)[i]? = some (some d) → e[i]? = some (some d) ∧ i ∉ vs
  | [], h => ⟨h, by simp⟩
  | v :: vs, h => by
    have h : ((N.wipe e vs).set v none)[i]? = some (some d) := h
    by_cases hi : v = i
    · subst hi
      by_cases hv : v < (N.wipe e vs).length
      · rw [List.getElem?_set_self hv] at h; cases h
      · rw [List.getElem?_eq_none (by simpa using hv)] at h; cases h
    · rw [List.getElem?_set_ne hi] at h
      obtain ⟨h1, h2⟩ := wipe_get h
      exact ⟨h1, by simp only [List.mem_cons, not_or]; exact ⟨fun e => hi e.symm, h2⟩⟩
theorem wipe_off (σ : L2.St) {i : Nat} : ∀ {vs : List Nat}, i ∉ vs → (L2.wipe σ vs)[i]? = σ[i]?
  | [], _ => rfl
  | v :: vs, h => by
    show ((L2.wipe σ vs).set v none)[i]? = _
    rw [List.getElem?_set_ne (fun z => h (by simp [z])), wipe_off σ (fun z => h (by simp [z]))]
theorem wipe_in (σ : L2.St) {i : Nat} : ∀ {vs : List Nat}, i ∈ vs → (L2.wipe σ vs)[i]? = if i < σ.length then some none else none
  | v :: vs, h => by
    show ((L2.wipe σ vs).set v none)[i]? = _
    by_cases hi : v = i
    · subst hi
      rw [List.getElem?_set]
      simp [L2.wipe_length]
    · rw [List.getElem?_set_ne hi]
      exact wipe_in σ (by simpa [Ne.symm hi] using h)
theorem ER.wipe (h : ER ρ H e σ) (vs : List Nat) : ER ρ H (N.wipe e vs) (L2.wipe σ vs) := by
  refine ⟨by rw [wipe_len, L2.wipe_length, h.1], fun i d q => ?_⟩
  obtain ⟨h1, h2⟩ := wipe_get q
  obtain ⟨v, e1, r⟩ := h.2 i d h1
  exact ⟨v, by rw [wipe_off σ h2]; exact e1, r⟩
theorem wipe_eq {vs ws : List Nat} {σ σ' : L2.St} (o : Off ws (L2.wipe σ vs) σ') (h : ∀ j ∈ ws, j ∈ vs) : L2.wipe σ' vs = L2.wipe σ vs := by
  have hl : σ'.length = σ.length := by rw [o.1, L2.wipe_length]
  apply List.ext_getElem?
  intro i
  by_cases hi : i ∈ vs
  · rw [wipe_in σ' hi, wipe_in σ hi, hl]
  · rw [wipe_off σ' hi, o.2 i fun z => hi (h i z)]
/-- the tests of a list comprehension -/
theorem spts_nil : PTs X [] (TTv X.K (evalE (.bl true))) := ⟨fun pins s σ H Q I h => pts_nil.run pins s σ H Q I (by
  obtain ⟨ρ, e, S, d, S', b, h1, h2, h3, h4, h5⟩ := h
  simp only [evalE] at h3
  cases h3
  simp only [tru] at h4
  cases h4
  exact h5 ρ H .refl h2)⟩
theorem lc_read {t it c elt : Ex} {own : List Nat} (hsl : ∀ j ∈ slots t, j ∈ own) {Q : VK} (h : TEv X.K (evalE (.comp elt t it c own)) σ H Q) :
    tLc (TIv X.K (evalIt it)) (TGv X.K (slots t) (bindT t)) (TTv X.K (evalE c)) (TEv X.K (evalE elt)) own σ H Q := by
  obtain ⟨ρ, e, S, d, S', h1, h2, h3, k⟩ := h
  simp only [evalE] at h3
  split at h3
  · cases h3
  rename_i ds g S1 e1
  split at h3
  case isFalse => cases h3
  rename_i hlen
  have hlen := of_decide_eq_true hlen
  split at h3
  · cases h3
  rename_i all S2 e2
  cases h3
  refine ⟨ρ, e, S, ds, g, S1, h1, h2, e1, fun ρ1 H1 J g1 s1 y => ?_⟩
  intro D0 hD0
  have E1 := h1.go g1
  have k1 := k.go g1
  let Pv : Nat → Hp → Prop := fun i H => ∃ ρ S done acc rest, i ≤ ds.length ∧ Go ρ1 H1 ρ H ∧ SR X.K ρ H S ∧ H D0 = some (.lst acc) ∧ D0 ∉ ρ ∧ VRs ρ H done acc ∧ done.length ≤ i ∧
    compL (bindT t) (fun e S => thenT (evalE c e S)) (evalE elt) g (N.wipe e own) (ds.drop i) S = some (rest, S2) ∧ done ++ rest = all
  refine ⟨fun i m H => m = ds.length - i ∧ Pv i H, ⟨_, rfl, ρ1, S1, [], [], all, Nat.zero_le _, Go.laid hD0, s1.laid hD0, upd_same, fun z => ?_, .nil, Nat.zero_le _, e2, rfl⟩, ?_⟩
  · exact s1.told z hD0
  rintro i m H2 ⟨rfl, ρ2, S2', done, acc, rest, hi, g2, s2, hD, hnD, rd, hdl, run, hall⟩
  cases hd : ds.drop i with
  | nil =>
    rw [hd] at run
    simp only [compL] at run
    split at run
    · rename_i ok
      cases run
      have hl : ds.length ≤ i := by
        have := congrArg List.length hd
        rw [List.length_drop, List.length_nil] at this
        omega
      rw [List.append_nil] at hall
      subst hall
      refine .inl ⟨(y i ρ2 H2 _ g2 s2 ok).1 hl, k1 (ρ2 ++ [D0]) H2 _ ⟨?_, fun a o e n => ?_, g2.th⟩ (s2.push hD hnD rd) ?_⟩
      · obtain ⟨δ, e, nn⟩ := g2.ext
        refine ⟨δ ++ [D0], by rw [e, List.append_assoc], fun p hp => ?_⟩
        rcases List.mem_append.mp hp with z | z
        · exact nn p z
        · rw [List.mem_singleton.mp z]; exact hD0
      · exact g2.fr a o e n
      · exact .ref (by rw [← s2.len]; simp)
    · cases run
  | cons d rest' =>
    rw [hd] at run
    simp only [compL] at run
    split at run
    · rename_i ok
      have hget : ds[i]? = some d := by
        have := List.getElem?_drop (xs := ds) (i := i) (j := 0)
        rw [hd] at this
        simpa using this.symm
      have hlt : i < ds.length := (List.getElem?_eq_some_iff.mp hget).1
      have hrest : ds.drop (i + 1) = rest' := by
        rw [← List.drop_drop, hd]; rfl
      obtain ⟨go, yl⟩ := (y i ρ2 H2 _ g2 s2 ok).2 d hget
      refine .inr ⟨go, Pv (i + 1), fun H' p => ⟨_, by omega, rfl, p⟩, fun x H3 hy => ?_⟩
      obtain ⟨g3, s3, r3⟩ := yl x H3 hy
      -- the new list stands through any step
      have keepD : ∀ {ρ4 : List Addr} {H4 : Hp}, Go ρ2 H2 ρ4 H4 → H4 D0 = some (.lst acc) ∧ D0 ∉ ρ4 := fun {ρ4 H4} g => by
        refine ⟨g.fr D0 _ hD fun z => hnD z.1, fun z => ?_⟩
        obtain ⟨δ, e, nn⟩ := g.ext
        rw [e] at z
        rcases List.mem_append.mp z with z | z
        · exact hnD z
        · have := nn D0 z
          rw [hD] at this; cases this
      split at run
      · cases run
      rename_i e4 S4 q4
      have E3 : ER ρ2 H3 (N.wipe e own) (L2.wipe σ own) := ((E1.go g2).wipe own).go g3
      refine ⟨ρ2, N.wipe e own, S2', d, e4, S4, E3, s3, r3, q4, fun ρ5 H5 σ5 g5 s5 E5 o5 => ⟨wipe_eq o5 hsl, ?_⟩⟩
      have g25 := g3.trans g5
      split at run
      · cases run
      · -- the test says no
        rename_i S6 q6
        simp only [thenT] at q6
        split at q6
        case h_2 => cases q6
        rename_i d6 S7 q7
        obtain ⟨b', q8, q9⟩ := Option.map_eq_some_iff.mp q6
        cases q9
        refine ⟨ρ5, e4, S4, d6, _, false, E5, s5, q7, q8, fun ρ8 H8 g8 s8 => ?_⟩
        have g28 := g25.trans g8
        obtain ⟨hD8, hn8⟩ := keepD g28
        exact ⟨ρ8, _, done, acc, rest, hlt, g2.trans g28, s8, hD8, hn8, rd.go g28, by omega, by rw [hrest]; exact run, hall⟩
      · rename_i S6 q6
        simp only [thenT] at q6
        split at q6
        case h_2 => cases q6
        rename_i d6 S7 q7
        obtain ⟨b', q8, q9⟩ := Option.map_eq_some_iff.mp q6
        cases q9
        split at run
        · cases run
        rename_i yv S9 q9
        split at run
        · cases run
        rename_i ys S10 q10
        cases run
        refine ⟨ρ5, e4, S4, d6, _, true, E5, s5, q7, q8, fun ρ8 H8 g8 s8 => ⟨ρ8, e4, S6, yv, S9, E5.go g8, s8, q9, fun ρ9 H9 w g9 s9 r9 => ?_⟩⟩
        have g29 := (g25.trans g8).trans g9
        obtain ⟨hD9, hn9⟩ := keepD g29
        have racc := rd.go g29
        refine ⟨acc, hD9, ?_, ρ9, S9, done ++ [yv], acc ++ [w], ys, hlt, ?_, s9.off hD9 hn9, upd_same, hn9, ?_, ?_, by rw [hrest]; exact q10, ?_⟩
        · rw [← racc.len, sizeLine_eq]
          have : (line : Nat) = 16777216 := rfl
          omega
        · have gg := g2.trans g29
          refine ⟨gg.ext, fun a o e n => ?_, fun a e => ?_⟩
          · rw [upd_ne (show a ≠ D0 from fun z => by rw [z, hD0] at e; cases e)]
            exact gg.fr a o e n
          · rw [upd_ne (show a ≠ D0 from fun z => e (by rw [z]; exact hD0))]
            exact gg.th a e
        · exact VRs.tups (upd_tups hD9) (racc.app (.cons r9 .nil))
        · rw [List.length_append, List.length_singleton]; omega
        · rw [List.append_assoc]; exact hall
    · cases run
/-- a list comprehension with one for, one test (or none) -/
theorem se_comp {t it c elt : Ex} {own : List (Str × Nat)} {Elt Tg Iter : Expr} {ifs : List Expr} {scope : Scope} {pos : Pos} (hc : X.calm = true) (hN : X.N.Nodup) (hi : SI X Tg Iter (evalIt it)) (ok : BlkOk X.N X.env.scope scope own)
    (hg : ∀ (s : Shared) (H : Hp) (C : Addr) (cl : List (Str × Addr)) (fp : List Addr), SG (X.blk s H scope (compEnvC scope cl C X.env) fp) Tg t)
    (ht : ∀ (s : Shared) (H : Hp) (C : Addr) (cl : List (Str × Addr)) (fp : List Addr), PTs (X.blk s H scope (compEnvC scope cl C X.env) fp) ifs (TTv X.K (evalE c)))
    (he : ∀ (s : Shared) (H : Hp) (C : Addr) (cl : List (Str × Addr)) (fp : List Addr), SE (X.blk s H scope (compEnvC scope cl C X.env) fp) Elt (evalE elt))
    (hs : ∀ x, foldedSetIterable Iter X.env x = pure x) (hsl : ∀ j ∈ slots t, j ∈ own.map (·.2)) : SE X (.ListComp Elt [⟨Tg, Iter, ifs, 0⟩] scope pos) (evalE (.comp elt t it c (own.map (·.2)))) :=
  PE.imp (pe_lc (g := TGv X.K (slots t) (bindT t)) (tt := TTv X.K (evalE c)) (te := TEv X.K (evalE elt)) hc hN hi ok hg ht he hs) fun σ H Q h => lc_read hsl h
theorem ss_setLc {i : Nat} {nm : Str} {py : Pos} {t it c elt : Ex} {own : List (Str × Nat)} {Elt Tg Iter : Expr} {ifs : List Expr} {scope : Scope} {pos spos : Pos} (hc : X.calm = true) (hN : X.N.Nodup) (hy : X.N[i]? = some nm) (hyl : X.env.scope.names.lookup nm = some .local)
    (hsw : swapsWith (.ListComp Elt [⟨Tg, Iter, ifs, 0⟩] scope pos) (some (.Name nm py)) spos.line X.env = pure true) (hi : SI X Tg Iter (evalIt it)) (ok : BlkOk X.N X.env.scope scope own)
    (hg : ∀ (s : Shared) (H : Hp) (C : Addr) (cl : List (Str × Addr)) (fp : List Addr), SG (X.blk s H scope (compEnvC scope cl C X.env) fp) Tg t)
    (ht : ∀ (s : Shared) (H : Hp) (C : Addr) (cl : List (Str × Addr)) (fp : List Addr), PTs (X.blk s H scope (compEnvC scope cl C X.env) fp) ifs (TTv X.K (evalE c)))
    (he : ∀ (s : Shared) (H : Hp) (C : Addr) (cl : List (Str × Addr)) (fp : List Addr), SE (X.blk s H scope (compEnvC scope cl C X.env) fp) Elt (evalE elt))
    (hs : ∀ x, foldedSetIterable Iter X.env x = pure x) (hsl : ∀ j ∈ slots t, j ∈ own.map (·.2)) : SS X (.Assign [.Name nm py] (.ListComp Elt [⟨Tg, Iter, ifs, 0⟩] scope pos) spos) (execS (.asg (.tgN i) (.comp elt t it c (own.map (·.2))))) :=
  PS.imp (ps_setLc (g := TGv X.K (slots t) (bindT t)) (tt := TTv X.K (evalE c)) (te := TEv X.K (evalE elt)) hc hN hy hyl hsw hi ok hg ht he hs) fun De σ H q => lc_read hsl (by
    obtain ⟨ρ, e, S, f, e', S', h1, h2, h3, h4⟩ := q
    simp only [execS, bindT] at h3
    split at h3
    · cases h3
    rename_i d S1 e1
    cases h3
    refine ⟨ρ, e, S, d, _, h1, h2, e1, fun ρ1 H1 v g s r => ?_⟩
    exact h4 ρ1 H1 g s _ ((h1.go g).set r))
end
end N
set_option autoImplicit false
set_option Elab.async false
set_option linter.all false
set_option maxRecDepth 100000
set_option maxHeartbeats 4000000
namespace N
open PySem L2 PySem.Spec PyProof.Rows
section
variable {X : Cx} {K : PySem.W.Frag} {ρ ρ' : List Addr} {H H' : Hp} {S S' : Sto} {d : D} {v : V} {e : Env} {σ : L2.St} {Q : VK}
def rM (K : PySem.W.Frag) (g : Sto → D → List D → RE) : V → List V → Hp → VK → Prop := fun x xs H Q => ∃ ρ S dx ds d S', SR K ρ H S ∧ VR ρ H dx x ∧ VRs ρ H ds xs ∧ g S dx ds = some (d, S') ∧ Fin K ρ H d S' Q
/-- a list of the store is written -/
theorem Fin.wr {n : Nat} {a : Addr} {xs ys : List D} {vs ws : List V} (k : Fin K ρ H d (S.set n (.lst ys)) Q) (s : SR K ρ H S) (h1 : S[n]? = some (.lst xs)) (h2 : ρ[n]? = some a) (e : H a = some (.lst vs)) (r : VRs ρ H ys ws) (rv : VR ρ H d v) : Q v (upd H a (.lst ws)) := by
  have g : Go ρ H ρ (upd H a (.lst ws)) := Go.write (List.mem_of_getElem? h2) e trivial
  exact k ρ _ v g (s.write h1 h2 rfl rfl ⟨ws, upd_same, r.go g⟩) (rv.go g)
theorem VRs.zero' {xs : List V} (r : VRs ρ H [] xs) : xs = [] := by cases r; rfl
theorem mt_app : MtR X "list.append" (rM X.K appM) := by
  intro pins s σ H x xs v us Q I rx rxs h
  obtain ⟨ρ, S, dx, ds, d, S', hS, r1, rs, hr, k⟩ := h
  unfold appM at hr
  split at hr
  · rename_i n y
    split at hr
    · rename_i zs e1
      split at hr
      · rename_i hl
        have hl := of_decide_eq_true hl
        cases hr
        cases r1 with
        | ref ea =>
          obtain ⟨w, rfl, rw'⟩ := rs.one'
          obtain ⟨vs, q, rr⟩ := hS.lst e1 ea
          exact mt_append pins s σ H _ _ v us Q I rx rxs ⟨_, vs, w, rfl, rfl, q, by rw [← rr.len, sizeLine_eq]; exact hl, k.wr hS e1 ea q (rr.app (.cons rw' .nil)) .non⟩
      · cases hr
    · cases hr
  · cases hr
theorem mt_ext : MtR X "list.extend" (rM X.K extM) := by
  intro pins s σ H x xs v us Q I rx rxs h
  obtain ⟨ρ, S, dx, ds, d, S', hS, r1, rs, hr, k⟩ := h
  unfold extM at hr
  split at hr
  · rename_i n m
    split at hr
    · rename_i zs ys e1 e2
      split at hr
      · rename_i hl
        have hl := of_decide_eq_true hl
        cases hr
        cases r1 with
        | ref ea =>
          obtain ⟨w, rfl, rw'⟩ := rs.one'
          cases rw' with
          | ref eb =>
            obtain ⟨vs, q, rr⟩ := hS.lst e1 ea
            obtain ⟨ws, q2, rr2⟩ := hS.lst e2 eb
            exact mt_extend pins s σ H _ _ v us Q I rx rxs ⟨_, _, vs, ws, rfl, rfl, q, q2, by rw [← rr.len, ← rr2.len, sizeLine_eq]; exact hl, k.wr hS e1 ea q (rr.app rr2) .non⟩
      · cases hr
    · cases hr
  · cases hr
theorem mt_ins : MtR X "list.insert" (rM X.K insM) := by
  intro pins s σ H x xs v us Q I rx rxs h
  obtain ⟨ρ, S, dx, ds, d, S', hS, r1, rs, hr, k⟩ := h
  unfold insM at hr
  split at hr
  · rename_i n i y
    split at hr
    · rename_i zs e1
      split at hr
      · rename_i hl
        simp only [Bool.and_eq_true, decide_eq_true_eq] at hl
        cases hr
        cases r1 with
        | ref ea =>
          obtain ⟨w1, w, rfl, rw1, rw'⟩ := rs.two'
          cases rw1
          obtain ⟨vs, q, rr⟩ := hS.lst e1 ea
          exact mt_insert pins s σ H _ _ v us Q I rx rxs ⟨_, vs, i, w, rfl, rfl, q, by rw [← rr.len, sizeLine_eq]; exact hl.1, hl.2.1, by omega, k.wr hS e1 ea q (((rr.take _).app (.cons rw' .nil)).app (rr.drop _)) .non⟩
      · cases hr
    · cases hr
  · cases hr
theorem VRs.dropLast : ∀ {xs : List D} {vs : List V}, VRs ρ H xs vs → VRs ρ H xs.dropLast vs.dropLast
  | _, _, .nil => .nil
  | _, _, .cons _ .nil => .nil
  | _, _, .cons r (.cons q t) => .cons r (VRs.dropLast (.cons q t))
theorem VRs.erase : ∀ {xs : List D} {vs : List V} (n : Nat), VRs ρ H xs vs → VRs ρ H (xs.eraseIdx n) (vs.eraseIdx n)
  | _, _, _, .nil => .nil
  | _, _, 0, .cons _ t => t
  | _, _, n + 1, .cons r t => .cons r (VRs.erase n t)
theorem ixN_seqIndex {n : Nat} {i : Int} {j : Nat} (h : N.ixN n i = some j) : seqIndex? i n = some j ∧ j < n ∧ -(n : Int) ≤ i ∧ i < n := L2.ixN_seq (show L2.ixN n i = some j from h)
theorem mt_popN : MtR X "list.pop" (rM X.K popM) := by
  intro pins s σ H x xs v us Q I rx rxs h
  obtain ⟨ρ, S, dx, ds, d, S', hS, r1, rs, hr, k⟩ := h
  unfold popM at hr
  split at hr
  · rename_i n
    split at hr
    · rename_i zs e1
      split at hr
      · rename_i y e2
        cases hr
        cases r1 with
        | ref ea =>
          have := rs.zero'
          subst this
          obtain ⟨vs, q, rr⟩ := hS.lst e1 ea
          rw [List.getLast?_eq_getElem?] at e2
          obtain ⟨w, h1, h2⟩ := rr.get e2
          exact mt_pop pins s σ H _ _ v us Q I rx rxs ⟨_, vs, w, rfl, rfl, q, by rw [← rr.len]; exact h1, k.wr hS e1 ea q rr.dropLast h2⟩
      · cases hr
    · cases hr
  · rename_i n i
    split at hr
    · rename_i zs e1
      split at hr
      · rename_i j e2
        split at hr
        · rename_i y e3
          cases hr
          cases r1 with
          | ref ea =>
            obtain ⟨w1, rfl, rw1⟩ := rs.one'
            cases rw1
            obtain ⟨vs, q, rr⟩ := hS.lst e1 ea
            obtain ⟨h1, h2, h3, h4⟩ := ixN_seqIndex e2
            obtain ⟨w, h5, h6⟩ := rr.get e3
            have hz := (I.lstM q).1
            have hn := line63
            rw [← rr.len] at hz
            exact mt_popAt pins s σ H _ _ v us Q I rx rxs ⟨_, vs, i, j, w, rfl, rfl, q, by omega, by omega, by rw [← rr.len]; exact h1, h5, k.wr hS e1 ea q (rr.erase j) h6⟩
        · cases hr
      · cases hr
    · cases hr
  · cases hr
theorem oR.getD {o : Option D} {r : Option V} {d : D} {v : V} (h : oR ρ H o r) (hd : VR ρ H d v) : VR ρ H (o.getD d) (r.getD v) := by
  cases o <;> cases r <;> first | exact hd | exact h | cases h
theorem mt_getN (hu : X.A.units + 1 < cLine) : MtR X "dict.get" (rM X.K getM) := by
  intro pins s σ H x xs v us Q I rx rxs h
  obtain ⟨ρ, S, dx, ds, d, S', hS, r1, rs, hr, k⟩ := h
  unfold getM at hr
  split at hr
  · rename_i n kk
    split at hr
    · rename_i kvs e1
      split at hr
      · rename_i hk
        cases hr
        cases r1 with
        | ref ea =>
          cases rx
          obtain ⟨w, rfl, rw'⟩ := rs.one'
          obtain ⟨u, rfl, ru⟩ := vals1 rxs
          obtain ⟨H1, r, I1, S1, g, dg, o⟩ := dict_get I hS e1 ea rw' hk
          exact d_get1 hu I1 dg ru fun w' s' I2 r2 => ⟨_, H1, I2, r2, k ρ H1 _ g S1 (o.getD .non)⟩
      · cases hr
    · cases hr
  · rename_i n kk z
    split at hr
    · rename_i kvs e1
      split at hr
      · rename_i hk
        cases hr
        cases r1 with
        | ref ea =>
          cases rx
          obtain ⟨w, w2, rfl, rw', rz⟩ := rs.two'
          obtain ⟨u, u2, rfl, ru, ru2⟩ := vals2 rxs
          obtain ⟨H1, r, I1, S1, g, dg, o⟩ := dict_get I hS e1 ea rw' hk
          exact d_get2 hu I1 dg ru ru2 fun w' s' I2 r2 => ⟨_, H1, I2, r2, k ρ H1 _ g S1 (o.getD (rz.go g))⟩
      · cases hr
    · cases hr
  · cases hr
theorem mt_cnt : MtR X "list.count" (rM X.K cntM) := by
  intro pins s σ H x xs v us Q I rx rxs h
  obtain ⟨ρ, S, dx, ds, d, S', hS, r1, rs, hr, k⟩ := h
  unfold cntM at hr
  split at hr
  · rename_i n i
    split at hr
    · rename_i zs e1
      split at hr
      · rename_i ns e2
        cases hr
        cases r1 with
        | ref ea =>
          obtain ⟨w, rfl, rw'⟩ := rs.one'
          cases rw'
          obtain ⟨vs, q, rr⟩ := hS.lst e1 ea
          rw [ints_app e2] at rr
          have := rr.toInts
          subst this
          exact mt_lcount pins s σ H _ _ v us Q I rx rxs ⟨_, ns, i, rfl, rfl, .of q, k.ret hS (.int _)⟩
      · cases hr
    · cases hr
  · cases hr
/-! #### the calls -/
/-- the type whose method it is -/
def mty : Mth → String
  | .get => "dict"
  | _ => "list"
theorem methT_V {m : Mth} {x : D} (hk : m ≠ .tcount ∧ m ≠ .tindex) (s : SR K ρ H S) (r : VR ρ H x v) (h : methT S m x = true) : tyV K (mty m) v H := by
  unfold methT at h
  split at h
  · rename_i n
    cases r with
    | ref ea =>
      split at h
      · rename_i xs e1
        obtain ⟨vs, q, _⟩ := s.row e1 ea
        cases m <;> first | exact .inl ⟨rfl, vs, q⟩ | cases h
      · rcases of_decide_eq_true h with h | h
        · exact absurd h hk.1
        · exact absurd h hk.2
      · rename_i kvs e1
        cases m <;> first | cases h | skip
        refine .inr (.inr (.inl ⟨rfl, ?_⟩))
        rcases s.at_ n _ _ e1 ea with ⟨ks, e2, _⟩ | ⟨ks, e2, _⟩
        · exact .inl ⟨ks, e2⟩
        · exact .inr ⟨ks, e2⟩
      · cases h
  · cases h
theorem se_meth {m : Mth} {id : String} {name : Str} {g : Sto → D → List D → RE} {O E : Expr} {Es : List Expr} {o y : Ex} {ys : List Ex} {apos cpos : Pos} (hk : m ≠ .tcount ∧ m ≠ .tindex) (hg : ∀ S x ds, methI S m x ds = g S x ds) (pa : PlainAttrs (mty m)) (slot : Slot (mty m) name id) (hty : typeOf (.builtin id) = pure (.type "method_descriptor")) (hm : MtR X id (rM X.K g))
    (ho : SE X O (evalE o)) (ha : SA X (E :: Es) (evalEs (y :: ys))) (hbase : attributeBase O name X.env (eval O X.env) = eval O X.env)
    (hfew : ((backTo cpos (starEach (E :: Es) X.env)).all (fun x => !x.1) && (backToKw cpos (keywordEach [] X.env)).all (fun x => x.1.isSome)
      && decide ((E :: Es).length + ([] : List Keyword).length + (if ([] : List Keyword).isEmpty then 0 else 1) < 30)) = true)
    (hline : (apos.endLine == cpos.line) = true) (hs : starEach (E :: Es) X.env = (false, eval E X.env) :: starEach Es X.env) (hplain : (backTo cpos (starEach Es X.env)).any (·.1) = false) :
    SE X (.Call (.Attribute O name apos) (E :: Es) [] cpos) (evalE (.meth m o (y :: ys))) := PE.imp (pe_bm pa slot hty hm ho ha hbase hfew hline hs hplain) fun σ H Q q => by
  obtain ⟨ρ, e, S, d, S', h1, h2, h3, k⟩ := q
  simp only [evalE] at h3
  split at h3
  · cases h3
  rename_i x S1 e1
  split at h3
  case isFalse => cases h3
  rename_i ht
  split at h3
  · cases h3
  rename_i ds S2 e2
  rw [hg] at h3
  exact ⟨ρ, e, S, x, S1, h1, h2, e1, fun ρ1 H1 v1 g1 s1 r1 => ⟨methT_V hk s1 r1 ht, ρ1, e, S1, ds, S2, h1.go g1, s1, e2, fun ρ2 H2 vs g2 s2 r2 => ⟨ρ2, S2, x, ds, d, S', s2, r1.go g2, r2, h3, k.go (g1.trans g2)⟩⟩⟩
theorem se_meth0 {m : Mth} {id : String} {name : Str} {g : Sto → D → List D → RE} {O : Expr} {o : Ex} {apos cpos : Pos} (hk : m ≠ .tcount ∧ m ≠ .tindex) (hg : ∀ S x ds, methI S m x ds = g S x ds) (pa : PlainAttrs (mty m)) (slot : Slot (mty m) name id) (hty : typeOf (.builtin id) = pure (.type "method_descriptor")) (hm : MtR X id (rM X.K g))
    (ho : SE X O (evalE o)) (hbase : attributeBase O name X.env (eval O X.env) = eval O X.env) (hline : (apos.endLine == cpos.line) = true) :
    SE X (.Call (.Attribute O name apos) [] [] cpos) (evalE (.meth m o [])) := PE.imp (pe_bm0 pa slot hty hm ho hbase hline) fun σ H Q q => by
  obtain ⟨ρ, e, S, d, S', h1, h2, h3, k⟩ := q
  simp only [evalE, evalEs] at h3
  split at h3
  · cases h3
  rename_i x S1 e1
  split at h3
  case isFalse => cases h3
  rename_i ht
  rw [hg] at h3
  exact ⟨ρ, e, S, x, S1, h1, h2, e1, fun ρ1 H1 v1 g1 s1 r1 => ⟨methT_V hk s1 r1 ht, ρ1, S1, x, [], d, S', s1, r1, .nil, h3, k.go g1⟩⟩
end
end N
set_option autoImplicit false
set_option Elab.async false
set_option linter.all false
set_option maxRecDepth 100000
set_option maxHeartbeats 4000000
namespace N
open PySem L2 PySem.Spec PyProof.Rows
/-! ### no stars -/
def noStar : Expr → Bool
  | .Starred _ _ => false
  | _ => true
def noStars : List Expr → Bool
  | [] => true
  | e :: es => noStar e && noStars es
theorem star_cons {e : Expr} {es : List Expr} {env : PySem.Env} (h : noStar e = true) : starEach (e :: es) env = (false, eval e env) :: starEach es env := by
  cases e <;> first | rfl | cases h
theorem star_any {pos : Pos} {env : PySem.Env} : ∀ {es : List Expr}, noStars es = true → (backTo pos (starEach es env)).any (·.1) = false
  | [], _ => rfl
  | e :: es, h => by
    have h := Bool.and_eq_true_iff.mp (show (noStar e && noStars es) = true from h)
    rw [star_cons h.1]
    show (false || (backTo pos (starEach es env)).any (·.1)) = false
    rw [star_any h.2]; rfl
theorem star_all {pos : Pos} {env : PySem.Env} : ∀ {es : List Expr}, noStars es = true → (backTo pos (starEach es env)).all (fun x => !x.1) = true
  | [], _ => rfl
  | e :: es, h => by
    have h := Bool.and_eq_true_iff.mp (show (noStar e && noStars es) = true from h)
    rw [star_cons h.1]
    show (!false && (backTo pos (starEach es env)).all (fun x => !x.1)) = true
    rw [star_all h.2]; rfl
theorem asg_cons {e : Expr} {es : List Expr} {env : PySem.Env} (h : noStar e = true) : assignEach (e :: es) env = (false, assign e env) :: assignEach es env := by
  cases e <;> first | rfl | cases h
theorem asg_len {env : PySem.Env} : ∀ {es : List Expr}, noStars es = true → (assignEach es env).length = es.length ∧ (assignEach es env).findIdx? (·.1) = none
  | [], _ => ⟨rfl, rfl⟩
  | e :: es, h => by
    have h := Bool.and_eq_true_iff.mp (show (noStar e && noStars es) = true from h)
    obtain ⟨h1, h2⟩ := asg_len (env := env) h.2
    rw [asg_cons h.1]
    refine ⟨by rw [List.length_cons, List.length_cons, h1], ?_⟩
    rw [List.findIdx?_cons]
    simp [h2]
section
variable {X : Cx} {K : PySem.W.Frag} {ρ ρ' : List Addr} {H H' : Hp} {S S' : Sto} {d : D} {v : V} {e : Env} {σ : L2.St} {Q : VK} {p pos : Pos}
/-! #### built-ins -/
theorem se_bltF {x : Str} {id : String} {g : Sto → List D → RE} {E : Expr} {Es : List Expr} {ys : List Ex} (hc : CallR X (.builtin id) (rN X.K g)) (hv : bootBuiltins x = some (.builtin id)) (hg : Gl X x) (hm : X.mg x = none) (ha : SA X (E :: Es) (evalEs ys)) (ns : noStars (E :: Es) = true)
    (hn : x ≠ "__name__") (hdb : (x == ("__debug__" : Str)) = false) : SE X (.Call (.Name x p) (E :: Es) [] pos) (fun e S => match evalEs ys e S with
      | none => none
      | some (ds, S1) => g S1 ds) := by
  have h := Bool.and_eq_true_iff.mp (show (noStar E && noStars Es) = true from ns)
  refine PE.imp (pe_callB hc hg hm hv ha hn hdb (star_cons h.1) (star_any h.2)) fun σ H Q q => ?_
  obtain ⟨ρ, e, S, d, S', h1, h2, h3, k⟩ := q
  simp only at h3
  split at h3
  · cases h3
  rename_i ds S1 e1
  exact ⟨ρ, e, S, ds, S1, h1, h2, e1, fun ρ1 H1 vs g1 s1 r1 => ⟨ρ1, S1, ds, d, S', s1, r1, h3, k.go g1⟩⟩
theorem se_bltT {x : Str} {T : String} {g : Sto → List D → RE} {E : Expr} {Es : List Expr} {ys : List Ex} (hc : CallR X (.type T) (rN X.K g)) (hv : bootBuiltins x = some (.type T)) (hg : Gl X x) (hm : X.mg x = none) (ha : SA X (E :: Es) (evalEs ys)) (ns : noStars (E :: Es) = true)
    (hn : x ≠ "__name__") (hdb : (x == ("__debug__" : Str)) = false) : SE X (.Call (.Name x p) (E :: Es) [] pos) (fun e S => match evalEs ys e S with
      | none => none
      | some (ds, S1) => g S1 ds) := by
  have h := Bool.and_eq_true_iff.mp (show (noStar E && noStars Es) = true from ns)
  refine PE.imp (pe_callTy hc hg hm hv ha hn hdb (star_cons h.1) (star_any h.2)) fun σ H Q q => ?_
  obtain ⟨ρ, e, S, d, S', h1, h2, h3, k⟩ := q
  simp only at h3
  split at h3
  · cases h3
  rename_i ds S1 e1
  exact ⟨ρ, e, S, ds, S1, h1, h2, e1, fun ρ1 H1 vs g1 s1 r1 => ⟨ρ1, S1, ds, d, S', s1, r1, h3, k.go g1⟩⟩
/-! isinstance -/
def tyS : Ty → String
  | .int => "int" | .bool => "bool" | .str => "str" | .tuple => "tuple" | .list => "list"
def dTy : D → String
  | .non => "NoneType" | .bl _ => "bool" | .int _ => "int" | .str _ => "str" | .tup _ => "tuple" | _ => "list"
theorem kit5 : (["NoneType", "bool", "int", "str", "tuple", "list"].all fun a => [Ty.int, .bool, .str, .tuple, .list].all fun t => decide (kitB a (tyS t) = some (a == tyS t || (a == "bool" && tyS t == "int")))) = true := by decide +kernel
theorem kit_at {a : String} {t : Ty} (h : a ∈ ["NoneType", "bool", "int", "str", "tuple", "list"]) : kitB a (tyS t) = some (a == tyS t || (a == "bool" && tyS t == "int")) := by
  have h1 := List.all_eq_true.mp kit5 a h
  have h2 := List.all_eq_true.mp h1 t (by cases t <;> simp)
  exact of_decide_eq_true h2
theorem isi_V {x : D} {t : Ty} {b : Bool} (s : SR K ρ H S) (r : VR ρ H x v) (h : isiI S t x = some b) : ∃ a, a ∈ ["NoneType", "bool", "int", "str", "tuple", "list"] ∧ TyX K H v (.type a) ∧ (a == tyS t || (a == "bool" && tyS t == "int")) = b := by
  cases r with
  | non => refine ⟨"NoneType", by simp, .base .non, ?_⟩; cases t <;> cases h <;> rfl
  | bl x => refine ⟨"bool", by simp, .base (.bl x), ?_⟩; cases t <;> cases h <;> rfl
  | int x => refine ⟨"int", by simp, .base (.int x), ?_⟩; cases t <;> cases h <;> rfl
  | str x => refine ⟨"str", by simp, .base (.str _), ?_⟩; cases t <;> cases h <;> rfl
  | rep => cases t <;> cases h
  | tup ea rs => refine ⟨"tuple", by simp, .base (.tup ea), ?_⟩; cases t <;> cases h <;> rfl
  | ref ea =>
    rename_i n a
    have key : ∃ xs, S[n]? = some (.lst xs) ∧ b = decide (t = .list) := by
      cases t <;> simp only [isiI] at h <;> (split at h <;> first | (rename_i xs e1; cases h; exact ⟨xs, e1, rfl⟩) | cases h)
    obtain ⟨xs, e1, rfl⟩ := key
    obtain ⟨vs, q, _⟩ := s.lst e1 ea
    refine ⟨"list", by simp, .base (.lst q), ?_⟩
    cases t <;> rfl
theorem se_isi {t : Ty} {E : Expr} {y : Ex} {p2 : Pos} {T : Str} (hT : bootBuiltins T = some (.type (tyS t))) (hg : Gl X "isinstance") (hm : X.mg "isinstance" = none) (hg2 : Gl X T) (hm2 : X.mg T = none) (hn : T ≠ "__name__") (hdb : (T == ("__debug__" : Str)) = false) (he : SE X E (evalE y)) (ns : noStar E = true) :
    SE X (.Call (.Name "isinstance" p) [E, .Name T p2] [] pos) (evalE (.blt (.isi t) [y])) := by
  have hT2 := pe_bltn (pos := p2) hg2 hm2 hT (v := .ty (tyS t)) rfl hn hdb
  refine PE.imp (pe_callB call_isi hg hm PyProof.Rows.boot_isinstance (pa_cons he (pa_cons hT2 pa_nil rfl) (star_cons ns)) (by decide) (by decide) (star_cons ns) rfl) fun σ H Q q => ?_
  obtain ⟨ρ, e, S, d, S', h1, h2, h3, k⟩ := q
  simp only [evalE, evalEs] at h3
  split at h3
  · cases h3
  rename_i ds S1 e0
  split at e0
  · cases e0
  rename_i d1 S2 e1
  cases e0
  simp only [bltI, isiB] at h3
  split at h3
  · rename_i b e2
    cases h3
    refine ⟨ρ, e, S, d1, _, h1, h2, e1, fun ρ1 H1 v1 g1 s1 r1 => ?_⟩
    obtain ⟨a, ha, ty, eb⟩ := isi_V s1 r1 e2
    exact ⟨v1, .ty (tyS t), .type a, .type (tyS t), b, rfl, .ty _, ty, kit_ty (by rw [kit_at ha, eb]), k ρ1 H1 _ g1 s1 (.bl b)⟩
  · cases h3
/-! ranges laid -/
theorem rgV_R (i j : Int) : VRs ρ H (rngV i j 1) (rgV i j) := by
  rw [rngV_up]
  have : (List.range (j - i).toNat).map (fun k => D.int (i + (k : Nat))) = ((List.range (j - i).toNat).map fun k => i + ((k : Nat) : Int)).map .int := by rw [List.map_map]; rfl
  rw [this]
  have e2 : rgV i j = ((List.range (j - i).toNat).map fun k => i + ((k : Nat) : Int)).map V.int := by unfold rgV; rw [List.map_map]; rfl
  rw [e2]
  exact VRs.ofInts _
theorem rg_read1 {y : Ex} {xs : List D} (h : (match evalEs [y] e S with
    | none => none
    | some (ds, S1) => match rngI ds with
      | none => none
      | some xs => some (xs, S1)) = some (xs, S')) : ∃ i, evalE y e S = some (.int i, S') ∧ (-1000000000 ≤ i ∧ i ≤ line) ∧ xs = rngV 0 i 1 := by
  split at h
  · cases h
  rename_i ds S1 e1
  split at h
  · cases h
  rename_i zs e2
  cases h
  simp only [evalEs] at e1
  split at e1
  · cases e1
  rename_i d1 S2 e3
  cases e1
  rcases rng_args e2 with ⟨i, h⟩ | ⟨i, j, h⟩ | ⟨i, j, c, h⟩
  · cases h
    obtain ⟨b, rfl⟩ := rng1 e2
    exact ⟨i, e3, b, rfl⟩
  · cases h
  · cases h
theorem rg_read2 {y z : Ex} {xs : List D} (h : (match evalEs [y, z] e S with
    | none => none
    | some (ds, S1) => match rngI ds with
      | none => none
      | some xs => some (xs, S1)) = some (xs, S')) : ∃ i j S1, evalE y e S = some (.int i, S1) ∧ evalE z e S1 = some (.int j, S') ∧ (-1000000000 ≤ i ∧ i ≤ 1000000000 ∧ -1000000000 ≤ j ∧ j ≤ 1000000000 ∧ j - i ≤ line) ∧ xs = rngV i j 1 := by
  split at h
  · cases h
  rename_i ds S1 e1
  split at h
  · cases h
  rename_i zs e2
  cases h
  simp only [evalEs] at e1
  split at e1
  · cases e1
  rename_i d1 S2 e3
  split at e1
  · cases e1
  rename_i ds' S3 e4
  cases e1
  split at e4
  · cases e4
  rename_i d2 S4 e5
  cases e4
  rcases rng_args e2 with ⟨i, h⟩ | ⟨i, j, h⟩ | ⟨i, j, c, h⟩
  · cases h
  · cases h
    obtain ⟨b, rfl⟩ := rng2 e2
    exact ⟨i, j, _, e3, e5, b, rfl⟩
  · cases h
theorem rngT_read {es : List Ex} (h : evalE (.rngT es) e S = some (d, S')) : ∃ xs, d = .tup xs ∧ (match evalEs es e S with
    | none => none
    | some (ds, S1) => match rngI ds with
      | none => none
      | some xs => some (xs, S1)) = some (xs, S') := by
  simp only [evalE] at h
  split at h
  · cases h
  rename_i ds S1 e1
  split at h
  · cases h
  rename_i zs e2
  cases h
  exact ⟨zs, rfl, by first | (rw [e1]; simp [e2]) | simp [e1, e2] | rfl⟩
theorem rngL_read {es : List Ex} (h : evalE (.rngL es) e S = some (d, S')) : ∃ xs S1, new S1 (.lst xs) = some (d, S') ∧ (match evalEs es e S with
    | none => none
    | some (ds, S1) => match rngI ds with
      | none => none
      | some xs => some (xs, S1)) = some (xs, S1) := by
  simp only [evalE] at h
  split at h
  · cases h
  rename_i ds S1 e1
  split at h
  · cases h
  rename_i zs e2
  exact ⟨zs, S1, h, by first | (rw [e1]; simp [e2]) | simp [e1, e2] | rfl⟩
theorem rgOk1 {i : Int} (b : -1000000000 ≤ i ∧ i ≤ line) : RgOk 0 i := by
  have : ((line : Nat) : Int) = 16777216 := rfl
  exact ⟨by omega, by omega, by omega, by omega, by omega⟩
theorem rgOk2 {i j : Int} (b : -1000000000 ≤ i ∧ i ≤ 1000000000 ∧ -1000000000 ≤ j ∧ j ≤ 1000000000 ∧ j - i ≤ line) : RgOk i j := by
  have : ((line : Nat) : Int) = 16777216 := rfl
  exact ⟨by omega, by omega, by omega, by omega, by omega⟩
theorem se_rngT1 {E : Expr} {y : Ex} {p2 pos2 : Pos} (hc : X.calm = true) (hg : Gl X "tuple") (hm : X.mg "tuple" = none) (hg2 : Gl X "range") (hm2 : X.mg "range" = none) (he : SE X E (evalE y)) (ns : noStar E = true) : SE X (.Call (.Name "tuple" p) [.Call (.Name "range" p2) [E] [] pos2] [] pos) (evalE (.rngT [y])) :=
  PE.imp (pe_tupRg hc hg hm (prg_1 hg2 hm2 he (star_cons ns)) rfl) fun σ H Q q => by
    obtain ⟨ρ, e, S, d, S', h1, h2, h3, k⟩ := q
    obtain ⟨xs, rfl, h⟩ := rngT_read h3
    obtain ⟨i, e1, b, rfl⟩ := rg_read1 h
    exact ⟨ρ, e, S, .int i, S', h1, h2, e1, fun ρ1 H1 v g s r => by cases r; exact ⟨i, rfl, rgOk1 b, (k.go g).tup s (rgV_R 0 i)⟩⟩
theorem se_rngL1 {E : Expr} {y : Ex} {p2 pos2 : Pos} (hc : X.calm = true) (hg : Gl X "list") (hm : X.mg "list" = none) (hg2 : Gl X "range") (hm2 : X.mg "range" = none) (he : SE X E (evalE y)) (ns : noStar E = true) : SE X (.Call (.Name "list" p) [.Call (.Name "range" p2) [E] [] pos2] [] pos) (evalE (.rngL [y])) :=
  PE.imp (pe_listRg hc hg hm (prg_1 hg2 hm2 he (star_cons ns)) rfl) fun σ H Q q => by
    obtain ⟨ρ, e, S, d, S', h1, h2, h3, k⟩ := q
    obtain ⟨xs, S1, hn, h⟩ := rngL_read h3
    cases hn
    obtain ⟨i, e1, b, rfl⟩ := rg_read1 h
    exact ⟨ρ, e, S, .int i, S1, h1, h2, e1, fun ρ1 H1 v g s r => by cases r; exact ⟨i, rfl, rgOk1 b, (k.go g).lst s (rgV_R 0 i)⟩⟩
theorem se_rngT2 {E E2 : Expr} {y z : Ex} {p2 pos2 : Pos} (hc : X.calm = true) (hg : Gl X "tuple") (hm : X.mg "tuple" = none) (hg2 : Gl X "range") (hm2 : X.mg "range" = none) (he : SE X E (evalE y)) (he2 : SE X E2 (evalE z)) (ns : noStar E = true) (ns2 : noStar E2 = true) : SE X (.Call (.Name "tuple" p) [.Call (.Name "range" p2) [E, E2] [] pos2] [] pos) (evalE (.rngT [y, z])) :=
  PE.imp (pe_tupRg hc hg hm (prg_2 hg2 hm2 he he2 (star_cons ns) (star_cons ns2) (by rw [star_cons ns2]; rfl)) rfl) fun σ H Q q => by
    obtain ⟨ρ, e, S, d, S', h1, h2, h3, k⟩ := q
    obtain ⟨xs, rfl, h⟩ := rngT_read h3
    obtain ⟨i, j, S1, e1, e2, b, rfl⟩ := rg_read2 h
    exact ⟨ρ, e, S, .int i, S1, h1, h2, e1, fun ρ1 H1 v g s r => by cases r; exact ⟨ρ1, e, S1, .int j, S', h1.go g, s, e2, fun ρ2 H2 v2 g2 s2 r2 => by cases r2; exact ⟨i, j, rfl, rfl, rgOk2 b, (k.go (g.trans g2)).tup s2 (rgV_R i j)⟩⟩⟩
theorem se_rngL2 {E E2 : Expr} {y z : Ex} {p2 pos2 : Pos} (hc : X.calm = true) (hg : Gl X "list") (hm : X.mg "list" = none) (hg2 : Gl X "range") (hm2 : X.mg "range" = none) (he : SE X E (evalE y)) (he2 : SE X E2 (evalE z)) (ns : noStar E = true) (ns2 : noStar E2 = true) : SE X (.Call (.Name "list" p) [.Call (.Name "range" p2) [E, E2] [] pos2] [] pos) (evalE (.rngL [y, z])) :=
  PE.imp (pe_listRg hc hg hm (prg_2 hg2 hm2 he he2 (star_cons ns) (star_cons ns2) (by rw [star_cons ns2]; rfl)) rfl) fun σ H Q q => by
    obtain ⟨ρ, e, S, d, S', h1, h2, h3, k⟩ := q
    obtain ⟨xs, S0, hn, h⟩ := rngL_read h3
    cases hn
    obtain ⟨i, j, S1, e1, e2, b, rfl⟩ := rg_read2 h
    exact ⟨ρ, e, S, .int i, S1, h1, h2, e1, fun ρ1 H1 v g s r => by cases r; exact ⟨ρ1, e, S1, .int j, S0, h1.go g, s, e2, fun ρ2 H2 v2 g2 s2 r2 => by cases r2; exact ⟨i, j, rfl, rfl, rgOk2 b, (k.go (g.trans g2)).lst s2 (rgV_R i j)⟩⟩⟩
/-! #### defs of the module -/
theorem se_call {j k : Nat} {x : Str} {xn : List Nat} {f : Fn} {E : Expr} {Es : List Expr} {ys : List Ex} (c : CalG X.prog X.w X.K X.mg X.base k x f) (hr : Room j X.A) (hk : k ≤ j) (gd : X.A.guards = some []) (hg : Gl X x) (ha : SA X (E :: Es) (evalEs ys)) (ns : noStars (E :: Es) = true) (hdb : (x == ("__debug__" : Str)) = false) :
    SE X (.Call (.Name x p) (E :: Es) [] pos) (evalE (.call xn f ys)) := by
  obtain ⟨fa, fd, ps, G, hm, hkp, hlen, hb⟩ := c.ex
  have h := Bool.and_eq_true_iff.mp (show (noStar E && noStars Es) = true from ns)
  refine ⟨fun pins s σ H Q I q => ?_⟩
  obtain ⟨ρ, e, S, d, S', h1, h2, h3, k⟩ := q
  simp only [evalE] at h3
  split at h3
  · cases h3
  rename_i ds S1 e1
  refine wpAny_Call_Name_kw (ld_glob I hg hm ?_ hdb)
  refine PySem.W.callWith_K (h₀ := X.base) I.ok.mod.kin hkp (thn (ha.run pos pins s σ H (fun vs H1 => ∃ ρ1, Go ρ H ρ1 H1 ∧ SR X.K ρ1 H1 S1 ∧ VRs ρ1 H1 ds vs) I ⟨ρ, e, S, ds, S1, h1, h2, e1, fun ρ1 H1 vs g1 s1 r1 => ⟨ρ1, g1, s1, r1⟩⟩) fun us s1 ⟨vs, H1, I1, r, ρ1, g1, s1', rr⟩ => ⟨I1.kIn, ?_⟩) (star_cons h.1) (star_any h.2)
  have hn := callI_len hlen h3
  exact call_own (x := x) G gd hr hk hb I1 r (rF_of s1' rr (by rw [← rr.len]; exact hn) h3 (k.go g1))
theorem se_call0 {j k : Nat} {x : Str} {xn : List Nat} {f : Fn} (c : CalG X.prog X.w X.K X.mg X.base k x f) (hr : Room j X.A) (hk : k ≤ j) (gd : X.A.guards = some []) (hg : Gl X x) (hdb : (x == ("__debug__" : Str)) = false) :
    SE X (.Call (.Name x p) [] [] pos) (evalE (.call xn f [])) := by
  obtain ⟨fa, fd, ps, G, hm, hkp, hlen, hb⟩ := c.ex
  refine ⟨fun pins s σ H Q I q => ?_⟩
  obtain ⟨ρ, e, S, d, S', h1, h2, h3, k⟩ := q
  simp only [evalE, evalEs] at h3
  refine wpAny_Call_Name_kw (ld_glob I hg hm ?_ hdb)
  have hn := callI_len hlen h3
  exact PySem.W.callWith_K0 I.kIn hkp (call_own (x := x) (us := []) (vs := []) G gd hr hk hb I .nil (rF_of h2 .nil hn h3 k))
/-! #### .. by keywords -/
/-- the values of keywords, from the left -/
def SK (X : Cx) (kws : List Keyword) (ys : List Ex) : Prop := PK X kws (TAv X.K (evalEs ys))
theorem PK.imp {kws : List Keyword} {t u : TA} (h : PK X kws t) (i : ∀ σ H Q, u σ H Q → t σ H Q) : PK X kws u := ⟨fun pos pins s σ H Q I q => h.run pos pins s σ H Q I (i σ H Q q)⟩
theorem sk_nil : SK X [] [] := PK.imp pk_nil fun σ H Q q => by
  obtain ⟨ρ, e, S, ds, S', h1, h2, h3, h4⟩ := q
  simp only [evalEs] at h3
  cases h3
  exact h4 ρ H _ .refl h2 .nil
theorem sk_cons {nm : Option Str} {E : Expr} {kp : Pos} {kws : List Keyword} {y : Ex} {ys : List Ex} (ha : SE X E (evalE y)) (hr : SK X kws ys) : SK X (⟨nm, E, kp⟩ :: kws) (y :: ys) := PK.imp (pk_cons ha hr) fun σ H Q q => by
  obtain ⟨ρ, e, S, ds, S', h1, h2, h3, h4⟩ := q
  simp only [evalEs] at h3
  split at h3
  · cases h3
  rename_i d S1 e1
  split at h3
  · cases h3
  rename_i ds' S2 e2
  cases h3
  exact ⟨ρ, e, S, d, S1, h1, h2, e1, fun ρ1 H1 v1 g1 s1 r1 => ⟨ρ1, e, S1, ds', _, h1.go g1, s1, e2, fun ρ2 H2 vs g2 s2 r2 => h4 ρ2 H2 _ (g1.trans g2) s2 (.cons (r1.go g2) r2)⟩⟩
/-- the written names -/
def kwNames : List Keyword → Option (List Str)
  | [] => some []
  | ⟨some n, _, _⟩ :: r => (kwNames r).map (n :: ·)
  | ⟨none, _, _⟩ :: _ => none
theorem kw_all {env : PySem.Env} : ∀ {kws : List Keyword} {ns : List Str}, kwNames kws = some ns → (backToKw pos (keywordEach kws env)).all (·.1.isSome) = true ∧ (backToKw pos (keywordEach kws env)).any (·.1.isNone) = false ∧ (backToKw pos (keywordEach kws env)).filterMap (·.1) = ns
  | [], _, h => by cases h; exact ⟨rfl, rfl, rfl⟩
  | ⟨some n, v, p⟩ :: r, ns, h => by
    obtain ⟨ms, h1, rfl⟩ := Option.map_eq_some_iff.mp (show (kwNames r).map (n :: ·) = some ns from h)
    obtain ⟨a, b, c⟩ := kw_all (env := env) h1
    refine ⟨?_, ?_, ?_⟩
    · show (true && (backToKw pos (keywordEach r env)).all (·.1.isSome)) = true
      rw [a]; rfl
    · show (false || (backToKw pos (keywordEach r env)).any (·.1.isNone)) = false
      rw [b]; rfl
    · show n :: (backToKw pos (keywordEach r env)).filterMap (·.1) = _
      rw [c]
  | ⟨none, _, _⟩ :: _, _, h => by cases h
theorem se_callk {j k : Nat} {x : Str} {xn : List Nat} {xks : List (List Nat)} {ks : List Str} {perm : List Nat} {f : Fn} {kws : List Keyword} {ys : List Ex} (c : CalK X.prog X.w X.K X.mg X.base k x ks perm f) (hr : Room j X.A) (hk : k ≤ j) (gd : X.A.guards = some []) (hg : Gl X x) (ha : SK X kws ys) (hks : kwNames kws = some ks) (hl : ys.length = ks.length) (hdb : (x == ("__debug__" : Str)) = false) :
    SE X (.Call (.Name x p) [] kws pos) (evalE (.callk xn xks f perm ys)) := by
  obtain ⟨fa, fd, ps, G, hm, hkp, hlen, hp1, hp2, hb⟩ := c.ex
  obtain ⟨q1, q2, q3⟩ := kw_all (pos := pos) (env := X.env) hks
  refine ⟨fun pins s σ H Q I q => ?_⟩
  obtain ⟨ρ, e, S, d, S', h1, h2, h3, k⟩ := q
  simp only [evalE] at h3
  split at h3
  · cases h3
  rename_i ds S1 e1
  refine wpAny_Call_Name_kw (ld_glob I hg hm ?_ hdb)
  refine PySem.W.callWith_KW0 (h₀ := X.base) I.ok.mod.kin hkp q1 (thn (ha.run pos pins s σ H (fun vs H1 => ∃ ρ1, Go ρ H ρ1 H1 ∧ SR X.K ρ1 H1 S1 ∧ VRs ρ1 H1 ds vs) I ⟨ρ, e, S, ds, S1, h1, h2, e1, fun ρ1 H1 vs g1 s1 r1 => ⟨ρ1, g1, s1, r1⟩⟩) fun us s1 ⟨vs, H1, I1, r, ρ1, g1, s1', rr⟩ => ⟨I1.kIn, ?_⟩) (by rw [q2]; rfl)
  rw [q3]
  have hul : us.length = ks.length := by rw [← r.length, ← rr.len, evalEs_len e1]; exact hl
  refine call_kw (x := x) G gd hr hk hb hul I1 r (rF_of s1' (vrs_pick perm rr) ?_ h3 (k.go g1))
  rw [pick_len perm vs fun i hi => by rw [r.length, hul]; exact hp2 i hi, hp1]
/-! #### stores of tuples of names, from the right -/
theorem ER.set2 {i j : Nat} {d1 d2 : D} {v1 v2 : V} (h : ER ρ H e σ) (r1 : VR ρ H d1 v1) (r2 : VR ρ H d2 v2) : ER ρ H ((e.set i (some d1)).set j (some d2)) ((σ.set i (some v1)).set j (some v2)) := (h.set r1).set r2
theorem ss_par2 {i j : Nat} {x y : Str} {A B : Expr} {a b : Ex} {px py pt : Pos} {kt k2 pt2} (hc : X.calm = true) (hN : X.N.Nodup) (hi : X.N[i]? = some x) (hj : X.N[j]? = some y) (hij : i ≠ j)
    (hx : X.env.scope.names.lookup x = some .local) (hy : X.env.scope.names.lookup y = some .local) (ha : SA X [A, B] (evalEs [a, b]))
    (hw : swappedStores [.Tuple [.Name x px, .Name y py] kt pt] (.Tuple [A, B] k2 pt2) X.env = pure (some [x, y])) :
    SS X (.Assign [.Tuple [.Name x px, .Name y py] kt pt] (.Tuple [A, B] k2 pt2) pos) (execS (.asg (.tgT [.tgN i, .tgN j]) (.tup [a, b]))) := PS.imp (ps_par hc hN hi hj hij hx hy ha hw rfl) fun De σ H q => by
  obtain ⟨ρ, e, S, f, e', S', h1, h2, h3, k⟩ := q
  simp only [execS, evalE] at h3
  split at h3
  · cases h3
  rename_i d S1 e1
  split at e1
  · cases e1
  rename_i ds S2 e2
  cases e1
  have hl := evalEs_len e2
  obtain ⟨d1, d2, rfl⟩ : ∃ d1 d2, ds = [d1, d2] := by
    cases ds with
    | nil => cases hl
    | cons d1 ds =>
      cases ds with
      | nil => cases hl
      | cons d2 ds =>
        cases ds with
        | nil => exact ⟨d1, d2, rfl⟩
        | cons _ _ => cases hl
  simp only [bindT, itemsI, bindTs] at h3
  cases h3
  refine ⟨ρ, e, S, _, _, h1, h2, e2, fun ρ1 H1 vs g1 s1 r1 => ?_⟩
  obtain ⟨v1, v2, rfl, q1, q2⟩ := r1.two'
  exact ⟨v1, v2, rfl, k ρ1 H1 g1 s1 _ ((h1.go g1).set2 q1 q2)⟩
theorem ss_par3 {i j l : Nat} {x y z : Str} {A B C : Expr} {a b c : Ex} {px py pz pt : Pos} {kt k2 pt2} (hc : X.calm = true) (hN : X.N.Nodup) (hi : X.N[i]? = some x) (hj : X.N[j]? = some y) (hl : X.N[l]? = some z) (hij : i ≠ j) (hil : i ≠ l) (hjl : j ≠ l)
    (hx : X.env.scope.names.lookup x = some .local) (hy : X.env.scope.names.lookup y = some .local) (hz : X.env.scope.names.lookup z = some .local) (ha : SA X [A, B, C] (evalEs [a, b, c]))
    (hw : swappedStores [.Tuple [.Name x px, .Name y py, .Name z pz] kt pt] (.Tuple [A, B, C] k2 pt2) X.env = pure (some [x, y, z])) :
    SS X (.Assign [.Tuple [.Name x px, .Name y py, .Name z pz] kt pt] (.Tuple [A, B, C] k2 pt2) pos) (execS (.asg (.tgT [.tgN i, .tgN j, .tgN l]) (.tup [a, b, c]))) := PS.imp (ps_par3 hc hN hi hj hl hij hil hjl hx hy hz ha hw rfl) fun De σ H q => by
  obtain ⟨ρ, e, S, f, e', S', h1, h2, h3, k⟩ := q
  simp only [execS, evalE] at h3
  split at h3
  · cases h3
  rename_i d S1 e1
  split at e1
  · cases e1
  rename_i ds S2 e2
  cases e1
  have hl := evalEs_len e2
  obtain ⟨d1, d2, d3, rfl⟩ : ∃ d1 d2 d3, ds = [d1, d2, d3] := by
    cases ds with
    | nil => cases hl
    | cons d1 ds =>
      cases ds with
      | nil => cases hl
      | cons d2 ds =>
        cases ds with
        | nil => cases hl
        | cons d3 ds =>
          cases ds with
          | nil => exact ⟨d1, d2, d3, rfl⟩
          | cons _ _ => cases hl
  simp only [bindT, itemsI, bindTs] at h3
  cases h3
  refine ⟨ρ, e, S, _, _, h1, h2, e2, fun ρ1 H1 vs g1 s1 r1 => ?_⟩
  cases r1 with
  | cons q1 r1 =>
    obtain ⟨v2, v3, rfl, q2, q3⟩ := r1.two'
    exact ⟨_, v2, v3, rfl, k ρ1 H1 g1 s1 _ (((h1.go g1).set2 q1 q2).set q3)⟩
end
end N
set_option autoImplicit false
set_option Elab.async false
set_option linter.all false
set_option maxRecDepth 100000
set_option maxHeartbeats 4000000
namespace N
open PySem L2 PySem.Spec PyProof.Rows
/-! ### how many are unlike -/
theorem nub_mem {α : Type} [DecidableEq α] {a : α} : ∀ {xs : List α}, a ∈ nub xs ↔ a ∈ xs
  | [] => by simp [nub]
  | x :: xs => by
    unfold nub
    split
    · rename_i h
      rw [nub_mem, List.mem_cons]
      constructor
      · exact .inr
      · rintro (rfl | q)
        · exact h
        · exact q
    · rw [List.mem_cons, List.mem_cons, nub_mem]
theorem nub_nodup {α : Type} [DecidableEq α] : ∀ xs : List α, (nub xs).Nodup
  | [] => by simp [nub]
  | x :: xs => by
    unfold nub
    split
    · exact nub_nodup xs
    · rename_i h
      exact List.nodup_cons.mpr ⟨fun q => h (nub_mem.mp q), nub_nodup xs⟩
/-- two rows without repeats, of the same things, are as long -/
theorem len_of_mem {α : Type} [DecidableEq α] : ∀ {xs ys : List α}, xs.Nodup → ys.Nodup → (∀ a, a ∈ xs ↔ a ∈ ys) → xs.length = ys.length
  | [], ys, _, _, h => by
    cases ys with
    | nil => rfl
    | cons y ys => exact absurd ((h y).mpr (by simp)) (by simp)
  | x :: xs, ys, hx, hy, h => by
    have hm : x ∈ ys := (h x).mp (by simp)
    obtain ⟨nx, nxs⟩ := List.nodup_cons.mp hx
    have q := len_of_mem (ys := ys.erase x) nxs (hy.erase x) fun a => by
      rw [hy.mem_erase_iff]
      constructor
      · intro ha
        exact ⟨fun z => nx (z ▸ ha), (h a).mp (by simp [ha])⟩
      · rintro ⟨h1, h2⟩
        rcases List.mem_cons.mp ((h a).mpr h2) with z | z
        · exact absurd z h1
        · exact z
    rw [List.length_erase_of_mem hm] at q
    have : 0 < ys.length := List.length_pos_of_mem hm
    rw [List.length_cons, q]
    omega
theorem dedup_step (acc : List Int) (x : Int) (h : acc.Nodup) : (step_dedup acc x).Nodup ∧ ∀ a, a ∈ step_dedup acc x ↔ a ∈ acc ∨ a = x := by
  unfold step_dedup
  split
  · rename_i c
    have hx : x ∈ acc := by
      obtain ⟨y, hy, e⟩ := List.any_eq_true.mp c
      rw [← eq_of_beq e]; exact hy
    exact ⟨h, fun a => ⟨.inl, fun q => q.elim id fun z => z ▸ hx⟩⟩
  · rename_i c
    have hx : x ∉ acc := fun q => c (List.any_eq_true.mpr ⟨x, q, by simp⟩)
    refine ⟨List.nodup_append.mpr ⟨h, by simp, fun a ha b hb => by rw [List.mem_singleton.mp hb]; exact fun z => hx (z ▸ ha)⟩, fun a => by simp⟩
theorem firstMet_ok (ns : List Int) : (firstMet (fun i => ns.getD i 0) ns.length).Nodup ∧ ∀ a, a ∈ firstMet (fun i => ns.getD i 0) ns.length ↔ a ∈ ns := by
  have key : ∀ k, k ≤ ns.length → (firstMet (fun i => ns.getD i 0) k).Nodup ∧ ∀ a, a ∈ firstMet (fun i => ns.getD i 0) k ↔ a ∈ ns.take k := by
    intro k
    induction k with
    | zero => intro _; rw [firstMet_zero]; simp
    | succ k ih =>
      intro hk
      obtain ⟨h1, h2⟩ := ih (by omega)
      rw [firstMet_succ]
      obtain ⟨h3, h4⟩ := dedup_step _ (ns.getD k 0) h1
      refine ⟨h3, fun a => ?_⟩
      rw [h4, h2, List.take_succ, List.mem_append]
      have e : ns[k]? = some (ns.getD k 0) := by rw [List.getD_eq_getElem?_getD, List.getElem?_eq_getElem (by omega)]; rfl
      rw [e]
      simp
  have q := key ns.length (Nat.le_refl _)
  rw [List.take_length] at q
  exact q
section
variable {X : Cx} {K : PySem.W.Frag} {ρ ρ' : List Addr} {H H' : Hp} {S S' : Sto} {d : D} {v : V} {e : Env} {σ : L2.St} {Q : VK} {p pos : Pos}
theorem rows_V : ∀ {xs : List D} {rs : List (List Int)} {vs : List V}, rowsD xs = some rs → VRs ρ H xs vs → ∃ ks : List (Addr × List Int), vs = ks.map (fun p => V.ref p.1) ∧ ks.map (·.2) = rs ∧ ∀ p ∈ ks, H p.1 = some (.tup (p.2.map V.int))
  | [], rs, vs, h, r => by
    cases h
    cases r
    exact ⟨[], rfl, rfl, by simp⟩
  | x :: xs, rs, vs, h, r => by
    cases r with
    | cons r1 t =>
      cases x <;> simp only [rowsD] at h <;> try (cases h; done)
      rename_i ys
      split at h
      · cases h
      · rename_i ns e1
        obtain ⟨rs', h1, rfl⟩ := Option.map_eq_some_iff.mp h
        obtain ⟨ks, q1, q2, q3⟩ := rows_V h1 t
        cases r1 with
        | tup ea rr =>
          rw [ints_app e1] at rr
          have := rr.toInts
          subst this
          refine ⟨(_, ns) :: ks, by rw [q1]; rfl, by rw [List.map_cons, q2], fun p hp => ?_⟩
          rcases List.mem_cons.mp hp with rfl | hp
          · exact ea
          · exact q3 p hp
/-- len(set(a)) -/
theorem se_setlen {A : Expr} {a : Ex} {p2 q : Pos} (hc : X.calm = true) (hu : X.A.units + 65 < cLine) (hg : Gl X "len") (hm : X.mg "len" = none) (hg2 : Gl X "set") (hm2 : X.mg "set" = none) (ha : SE X A (evalE a)) (ns : noStar A = true) :
    SE X (.Call (.Name "len" p) [.Call (.Name "set" p2) [A] [] q] [] pos) (evalE (.setlen a)) := by
  refine ⟨fun pins s σ H Q I h => ?_⟩
  obtain ⟨ρ, e, S, d, S', h1, h2, h3, k⟩ := h
  simp only [evalE] at h3
  split at h3
  · cases h3
  rename_i x S1 e1
  split at h3
  · cases h3
  rename_i n e2
  cases h3
  refine Call_ (ld_blt I hg hm PySem.boot_len ?_)
  refine PyProof.Rows.callWith_builtin1 (PyProof.Rows.args_cons ?_ rfl) rfl rfl
  refine Call_ (ld_blt I hg2 hm2 PyProof.Rows.boot_set ?_)
  refine PyProof.Rows.callWith_type1 (PyProof.Rows.args_cons (thn (ha.run pins s σ H (fun v H1 => ∃ ρ1, Go ρ H ρ1 H1 ∧ SR X.K ρ1 H1 S' ∧ VR ρ1 H1 x v) I ⟨ρ, e, S, x, S', h1, h2, e1, fun ρ1 H1 v g s r => ⟨ρ1, g, s, r⟩⟩) fun v s1 ⟨xv, H1, I1, r1, ρ1, g1, hS, rx⟩ => PyProof.Rows.args_nil ?_) (star_cons ns)) (star_cons ns) rfl
  have k1 := k.go g1
  unfold setlenI at e2
  split at e2
  · cases e2
  rename_i xs e3
  obtain ⟨pa, vs, rfl, rr, c⟩ := items_V hS rx e3
  cases r1
  split at e2
  · rename_i ms e4
    split at e2
    · rename_i hl
      have hl := of_decide_eq_true hl
      cases e2
      rw [ints_app e4] at rr
      have := rr.toInts
      subst this
      rcases c with ⟨m, _, eH⟩ | ⟨_, eH⟩
      · obtain ⟨its, r, pl, hz⟩ := I1.list (.of eH)
        have hlen : its.toArray.size = ms.length := by rw [List.size_toArray, ← r.length, List.length_map]
        refine call_set_list (I1.ok.hd hc) pl.isList (ns := ms) (by simpa using r.ints) (by rw [hlen]; unfold scanBound; omega) fun h' tk hS' hk => ?_
        rw [hlen] at hS'
        obtain ⟨f1, f2⟩ := firstMet_ok ms
        have el : (firstMet (fun i => ms.getD i 0) ms.length).length = (nub ms).length := len_of_mem f1 (nub_nodup ms) fun a => by rw [f2, nub_mem]
        rw [el] at hS'
        refine PyProof.Rows.args_nil ?_
        obtain ⟨o, es, ep, t, ho, hex, hd, _, _, _, hf, hn⟩ := hS'
        have I2 : L2.Inv X pins σ H1 { s1 with heap := h', toks := tk } := I1.kept fun b o e => hk b o (Heap.lt_size e) e
        have hn2 : (nub ms).length ≤ 4000 := by
          rw [← el]
          have := firstMet_length_le (fun i => ms.getD i 0) ms.length
          omega
        exact call_len_set ho hex hd hf (by rw [hn]; omega) ⟨.int (nub ms).length, H1, I2.tok _, ⟨_, by rw [hn]⟩, k1.ret hS (.int _)⟩
      · obtain ⟨its, r, pl, hz⟩ := I1.tuple (.of eH)
        refine call_set_tupI ms (I1.ok.hd hc) pl (by simpa using r.ints) (by unfold scanBound; omega) fun h' tk c' hR hle hk => ?_
        refine PyProof.Rows.args_nil ?_
        obtain ⟨o, es, ep, t, ho, hex, hd, _, nd, mem, _, hf, hn, _, _⟩ := hR
        have el : es.size = (nub ms).length := by
          have := len_of_mem nd (nub_nodup ms) fun a => by
            rw [nub_mem]
            have := mem a
            simp only [decide_eq_true_eq] at this
            exact this.symm
          rw [List.length_map, Array.length_toList] at this
          exact this
        have I2 : L2.Inv X pins σ H1 { s1 with heap := h', toks := tk } := I1.kept hk
        exact call_len_set ho hex hd hf (by omega) ⟨.int (nub ms).length, H1, I2.tok _, ⟨_, by rw [el]⟩, k1.ret hS (.int _)⟩
    · cases e2
  · split at e2
    · split at e2
      · rename_i m _ rs e5
        split at e2
        · rename_i hl
          have hl := of_decide_eq_true hl
          cases e2
          obtain ⟨ks, q1, q2, q3⟩ := rows_V e5 rr
          subst q1
          rcases c with ⟨m, _, eH⟩ | ⟨z, _⟩
          · obtain ⟨its, r, pl, hz⟩ := I1.list (.of eH)
            have hkl : ks.length = rs.length := by rw [← q2, List.length_map]
            refine call_set_tups ks (I1.ok.hd hc) pl.isList (by simpa using refs_of_vals r) (fun p hp => I1.isT (.of (q3 p hp))) (by omega) (by omega) fun h' tk L es ep t R g kp => ?_
            refine PyProof.Rows.args_nil ?_
            obtain ⟨o, ho, hex, hd⟩ := R.ob
            have hsz : es.size = L.length := by
              have := congrArg List.length R.rows
              unfold rowsOf at this
              rw [List.length_map, Array.length_toList] at this
              exact this
            have el : L.length = (nub rs).length := by
              have := len_of_mem R.nd (nub_nodup rs) fun a => by
                rw [nub_mem, ← q2]
                constructor
                · intro h
                  obtain ⟨p, hp, rfl⟩ := List.mem_map.mp h
                  exact List.mem_map.mpr ⟨p, List.mem_of_mem_take (g.sub p hp), rfl⟩
                · intro h
                  obtain ⟨p, hp, rfl⟩ := List.mem_map.mp h
                  exact g.all p (by rw [List.take_length]; exact hp)
              rw [List.length_map] at this
              exact this
            have I2 : L2.Inv X pins σ H1 { s1 with heap := h', toks := tk } := I1.kept kp
            have hfit := SetTR.fits (s := { s1 with heap := h', toks := tk }) R
            have hfew := R.few
            exact call_len_set ho hex hd hfit (by omega) ⟨.int (nub rs).length, H1, I2.tok _, ⟨_, by rw [hsz, el]⟩, k1.ret hS (.int _)⟩
          · cases z
        · cases e2
      · cases e2
    · cases e2
end
end N
set_option autoImplicit false
set_option Elab.async false
set_option linter.all false
set_option maxRecDepth 100000
set_option maxHeartbeats 4000000
/-! enumerate of a tuple -/
namespace PySem
open PySem PyProof.Rows
theorem enumTupMeets (t : Addr) (items : Array Value) :
    Meets (Builtin.«enumerate.__new__» ⟨[.type "enumerate", .ref t], []⟩) (fun _ R s => s.heap.IsTuple t items ∧
      R (.ok (.ret (.ref (s.heap.push { cls := .type "tuple_iterator", data := .fields #[.ref t, .int 0 0] }).objs.size)))
        { s with heap := (s.heap.push { cls := .type "tuple_iterator", data := .fields #[.ref t, .int 0 0] }).push { cls := .type "enumerate", data := .fields #[.none, .bool false, .ref s.heap.objs.size, rawInt 0, .none, .none] } }) :=
  .of_wp fun prog w A R st pre => by
    obtain ⟨hp, g, d, tk, os⟩ := st
    obtain ⟨isT, post⟩ := pre
    have sub := sub_enumerate
    have begin_ : ∀ {A' : Around} {E : Value → Shared → Prop} {Q : Value → Shared → Prop}, Q (.ref hp.objs.size) ⟨hp.push { cls := .type "tuple_iterator", data := .fields #[.ref t, .int 0 0] }, g, d, tk, os⟩ → wpAny (model prog w) A' (pyIter (.ref t)) Q E ⟨hp, g, d, tk, os⟩ :=
      fun q => wpAny_pyIter_tuple (s := ⟨hp, g, d, tk, os⟩) isT q
    wp_walk using begin_
    refine wpAny_stack_any fun _ => wpAny_pure ?_
    split
    · rename_i c _ _ _ _ _
      cases (c == Value.type "enumerate")
      all_goals
        wp_walk using begin_
        exact ⟨_, rfl, post⟩
    · wp_walk using begin_
      exact ⟨_, rfl, post⟩
end PySem
namespace N
open PySem L2 PySem.Spec PyProof.Rows
section
variable {prog : Program} {w : World} {A : Around} {E : Value → Shared → Prop} {s : Shared}
theorem call_enumT {t : Addr} {items : Array Value} {Q : Value → Shared → Prop} (hT : s.heap.IsTuple t items)
    (h : ∀ h', IsEnum h' (s.heap.objs.size + 1) s.heap.objs.size 0 .none → h'.IsTupleIter s.heap.objs.size t 0 → (∀ b o, s.heap.get? b = some o → h'.get? b = some o) → Q (.ref (s.heap.objs.size + 1)) { s with heap := h' }) :
    wpAny (model prog w) A (call (.type "enumerate") [.ref t]) Q E s := by
  refine callType_new F.called_enumerate (by decide) (F.typeCall_enumerate_1 _) (F.newCall_enumerate_1 _) (fun obj => F.args_object_init_2 obj _) F.entry_enumerate_new (enumTupMeets t items) ⟨hT, ?_⟩
  have size1 : (s.heap.push { cls := .type "tuple_iterator", data := .fields #[.ref t, .int 0 0] }).objs.size = s.heap.objs.size + 1 := Heap.size_push ..
  show _ ∧ _
  rw [size1]
  have isE : IsEnum ((s.heap.push { cls := .type "tuple_iterator", data := .fields #[.ref t, .int 0 0] }).push { cls := .type "enumerate", data := .fields #[.none, .bool false, .ref s.heap.objs.size, rawInt 0, .none, .none] }) (s.heap.objs.size + 1) s.heap.objs.size 0 .none := by
    have q := Heap.get?_push_size (s.heap.push { cls := .type "tuple_iterator", data := .fields #[.ref t, .int 0 0] }) (o := { cls := .type "enumerate", data := .fields #[.none, .bool false, .ref s.heap.objs.size, rawInt 0, .none, .none] }) rfl
    rwa [size1] at q
  exact ⟨⟨_, isE, rfl⟩, h _ isE ⟨_, Heap.get?_push_of_some _ (Heap.get?_push_size _ rfl), rfl, rfl⟩ fun b o e => Heap.get?_push_of_some _ (Heap.get?_push_of_some _ e)⟩
end
/-- the tuple at a, each item in a new pair -/
def Iet (K : PySem.W.Frag) (a : Addr) : It :=
  ⟨fun i H => ∃ (xs : List V) (x : V), SqT K H a xs ∧ xs[i]? = some x, fun i H v H' => ∃ T x, v = .ref T ∧ H T = none ∧ H' = upd H T (.tup [.int (i : Nat), x]) ∧ ∀ xs, SqT K H a xs → xs[i]? = some x, fun i H => ∃ xs : List V, SqT K H a xs ∧ xs.length ≤ i⟩
theorem turn_enumT {P : Program} {w : World} {K : PySem.W.Frag} {elts : List Expr} {kk : Nat} {tpos : Pos} (a e it : Addr) :
    Turn P w K (.Tuple elts kk tpos) (Iet K a) [e, it] e (fun i h => (∃ old, IsEnum h e it ((i : Nat) : Int) old) ∧ h.IsTupleIter it a i ∧ e ≠ it) where
  mem := by simp
  obj := fun i h st b hb => by
    obtain ⟨⟨old, he⟩, ⟨o, ho, hc, hd⟩, _⟩ := st
    rcases (show b = e ∨ b = it by simpa using hb) with z | z
    · rw [z]; exact ⟨_, he, fun v q => nomatch q⟩
    · rw [z]; exact ⟨o, ho, fun v q => by rw [hd] at q; cases q⟩
  keep := fun i h h' st k => let ⟨⟨old, he⟩, hi, hne⟩ := st; ⟨⟨old, k e (by simp) _ he⟩, hi.at fun o q => k it (by simp) o q, hne⟩
  item := by
    intro X hP hw hK hc i pins s σ H E I hf st hg
    subst hP hw hK
    obtain ⟨⟨old, he⟩, hit, hne⟩ := st
    obtain ⟨xs, x, hq, hx⟩ := hg
    obtain ⟨its, rv, tp, _⟩ := I.tuple hq
    have hT0 : s.heap.IsTuple a its.toArray := tp
    obtain ⟨u, hu, ru⟩ := rv.get hx
    have elt : e < s.heap.objs.size := Heap.lt_size he
    have ilt : it < s.heap.objs.size := by obtain ⟨_, q, _⟩ := hit; exact Heap.lt_size q
    have hai : a ≠ it := by
      rintro rfl
      obtain ⟨o1, q1, c1, _⟩ := hit
      obtain ⟨o2, q2, c2, _⟩ := hT0
      rw [q1] at q2; cases q2
      rw [c1] at c2
      injection c2 with c3
      exact absurd c3 (by decide)
    have hea : e ≠ a := by
      rintro rfl
      obtain ⟨o2, q2, c2, _⟩ := hT0
      rw [he] at q2; cases q2
      injection c2 with c3
      exact absurd c3 (by decide)
    have Dr := PySem.Draws.tuple (prog := X.prog) (w := X.w) (A := X.A.in1) (I.ok.hd hc) it a hai its.toArray
    refine wpAny_pyNext_enum_itemD Dr he ⟨hit, hT0⟩ (by have := (List.getElem?_eq_some_iff.mp hu).1; simpa using this) hne (by simp [hne, hea]) fun y h' tk hy ho' hst hnew hsz hk => ?_
    have hyu : y = u := by
      have hy : its.toArray[i]? = some y := hy
      simp only [List.getElem?_toArray] at hy
      rw [hu] at hy; exact (Option.some.inj hy).symm
    subst hyu
    refine ⟨_, rfl, wpAny_letOwnedTupleGo_enum (s := { s with heap := h', toks := tk + 1 }) ho' fun h2 he2 sb => ?_⟩
    have hnew2 : h2.get? s.heap.objs.size = some { cls := .type "tuple", data := .seq #[.int i tk, y] } := (sb.2 _ (Nat.ne_of_gt elt)).trans hnew
    have fresh : ObjOk X.prog X.w (upd H s.heap.objs.size (.tup [.int (i : Nat), x])) h2 s.heap.objs.size (.tup [.int (i : Nat), x]) :=
      ⟨by show 2 ≤ sizeLine; decide, [.int i tk, y], .cons ⟨_, rfl⟩ (.cons ru .nil), ⟨_, hnew2, rfl, _, rfl⟩⟩
    have I1 : L2.Inv X pins σ (upd H s.heap.objs.size (.tup [.int (i : Nat), x])) { s with heap := h2, toks := tk + 1 } :=
      I.turnedNew (ch := [e, it]) (fun b ob hb q => (sb.2 b (fun z => hb (by simp [z]))).trans (hk b ob (fun z => hb (by simp [z])) (fun z => hb (by simp [z])) q)) hf (Nat.le_refl _) fresh
    refine ⟨.ref s.heap.objs.size, _, I1, rfl, ⟨_, x, rfl, I.hok.fresh (Nat.le_refl _), rfl, fun ys hy' => by rw [I.tuple_inj hy' hq]; exact hx⟩, ⟨⟨y, ?_⟩, hst.1.at fun o q => (sb.2 it (Ne.symm hne)).trans q, hne⟩, fun b hb => ?_⟩
    · rw [show ((i + 1 : Nat) : Int) = (i : Int) + 1 by omega]; exact he2
    · have hb' : b < s.heap.objs.size := by
        rcases (show b = e ∨ b = it by simpa using hb) with z | z
        · rw [z]; exact elt
        · rw [z]; exact ilt
      rw [upd_ne (Nat.ne_of_lt hb')]
      exact (hf b hb).1
  done := by
    intro X hP hw hK hc i pins s σ H E I hf st hg
    subst hP hw hK
    obtain ⟨⟨old, he⟩, hit, hne⟩ := st
    obtain ⟨xs, hq, hx⟩ := hg
    obtain ⟨its, rv, tp, _⟩ := I.tuple hq
    have hT0 : s.heap.IsTuple a its.toArray := tp
    obtain ⟨f0, f1, f2, f3, f4, f5⟩ := hf it (by simp)
    have hT : s.TypeIs (.ref e) "enumerate" := ⟨_, he, rfl⟩
    unfold pyNext
    refine wpAny_bind (wpAny_attempt (wpAny_callSpecial?_slot (name := Str.ofString "__next__") hT F.slot_enumerate_next (wpAny_call_entry F.slot_enumerate_next hT F.entry_enumerate_next ?_ (F.args_enumerate_next_1 _))))
    show wpAny _ _ (field (.ref e) 2 >>= _) _ _ _
    refine wpAny_bind (wpAny_field he rfl (x := .ref it) rfl ?_)
    refine wpAny_bind (wpAny_nextOf_tuple_end (I.ok.hd hc) hit hT0 (by have := rv.length; simp; omega) fun h' x he' hx' => ?_)
    obtain ⟨o, ho, hcl⟩ := hx'
    refine wpAny_bind (wpAny_isInstance (T := "StopIteration") (b := true) ⟨o, ho, hcl⟩ isSubtype_stop ?_)
    exact wpAny_pure ⟨rfl, I.turned (t' := s.toks) (fun b o hb q => he' b o hb q) f0 f1 f3 f4 f5⟩
  self := fun A i s Q E st h => let ⟨⟨_, he⟩, _⟩ := st; wpAny_pyIter_enum he h
section
variable {X : Cx}
theorem yields_enumT {K : PySem.W.Frag} {ρ0 : List Addr} {H0 : Hp} {a : Addr} {ds : List D} {vs : List V} (ea : H0 a = some (.tup vs)) (rs : VRs ρ0 H0 ds vs) : Yields K (Iet K a) ρ0 H0 (enumV ds) [] := by
  intro i ρ H S gg s ok
  have q := SqT.of (K := K) (gg.tup ea)
  have rs := rs.go gg
  refine ⟨fun hl => ⟨vs, q, by rw [← rs.len]; simpa [enumV] using hl⟩, fun d hd => ?_⟩
  unfold enumV at hd
  rw [List.getElem?_map, List.getElem?_zipIdx] at hd
  obtain ⟨p, hp, rfl⟩ := Option.map_eq_some_iff.mp hd
  obtain ⟨d1, h1, rfl⟩ := Option.map_eq_some_iff.mp hp
  obtain ⟨v, e1, r⟩ := rs.get h1
  refine ⟨⟨vs, v, q, e1⟩, fun x H' y => ?_⟩
  obtain ⟨T', z, rfl, hT, rfl, y⟩ := y
  have := y vs q
  rw [e1] at this
  cases this
  rw [Nat.zero_add]
  exact laid_pair s hT (.int _) r
theorem si_enum {E : Expr} {x : Ex} {elts : List Expr} {kk : Nat} {p pos tpos : Pos} (hg : Gl X "enumerate") (hm : X.mg "enumerate" = none) (he : SE X E (evalE x)) (hs : starEach [E] X.env = (false, eval E X.env) :: starEach [] X.env) :
    SI X (.Tuple elts kk tpos) (.Call (.Name "enumerate" p) [E] [] pos) (evalIt (.enum x)) := by
  refine ⟨fun pins s σ H R I h => ?_⟩
  obtain ⟨ρ, e, S, ds, g, S', h1, h2, h3, k⟩ := h
  simp only [evalIt] at h3
  split at h3
  · cases h3
  rename_i d S1 e1
  split at h3
  · cases h3
  rename_i xs g' e2
  cases h3
  unfold enumI at e2
  split at e2
  · rename_i ys
    cases e2
    refine Call_ (ld_blt I hg hm boot_enumerate (PyProof.Rows.callWith_type1 (PyProof.Rows.args_cons (thn (he.run pins s σ H (fun v H1 => ∃ ρ1, Go ρ H ρ1 H1 ∧ SR X.K ρ1 H1 S' ∧ VR ρ1 H1 (.tup ys) v) I ⟨ρ, e, S, _, S', h1, h2, e1, fun ρ1 H1 v g s r => ⟨ρ1, g, s, r⟩⟩) fun v s1 ⟨xv, H1, I1, r1, ρ1, g1, hS, rx⟩ => PyProof.Rows.args_nil ?_) hs) hs rfl))
    cases rx with
    | tup ea rr =>
      rename_i a vs
      cases r1
      obtain ⟨its, rv, tp, _⟩ := I1.tuple (.of ea)
      refine call_enumT (show s1.heap.IsTuple a its.toArray from tp) fun h' isE hit hk => wpAny_pyIter_enum isE ?_
      have I2 : L2.Inv X pins σ H1 { s1 with heap := h' } := I1.kept (t' := s1.toks) hk
      refine ⟨s1.heap.objs.size + 1, [s1.heap.objs.size + 1, s1.heap.objs.size], _, _, H1, rfl, I2, turn_enumT a (s1.heap.objs.size + 1) s1.heap.objs.size, ⟨⟨.none, isE⟩, hit, Nat.succ_ne_self _⟩, fun b hb => ?_, k ρ1 H1 _ g1 hS (yields_enumT ea rr)⟩
      have hle : s1.heap.objs.size ≤ b := by
        rcases (show b = s1.heap.objs.size + 1 ∨ b = s1.heap.objs.size by simpa using hb) with z | z
        · rw [z]; exact Nat.le_add_right _ _
        · rw [z]; exact Nat.le_refl _
      exact I1.fpOk hle (I1.hok.fresh hle)
  · exact (si_enumL hg hm he hs).run pins s σ H R I ⟨ρ, e, S, ds, g, S', h1, h2, by simp only [e1, e2], k⟩
end
end N
set_option autoImplicit false
set_option Elab.async false
set_option linter.all false
set_option maxRecDepth 100000
set_option maxHeartbeats 4000000
namespace N
open PySem L2 PySem.Spec PyProof.Rows
/-! ### displays of dicts -/
/-- the texts of a display, key and value by turns -/
def inter : List (Option Expr) → List Expr → Option (List Expr)
  | [], [] => some []
  | some k :: ks, v :: vs => (inter ks vs).map fun r => k :: v :: r
  | _, _ => none
section
variable {X : Cx} {pos : Pos} {K : PySem.W.Frag}
def tPn (K : PySem.W.Frag) : List Ex → List (TE × TE)
  | k :: v :: r => (TEv K (evalE k), TEv K (evalE v)) :: tPn K r
  | _ => []
theorem inter_all : ∀ {ks : List (Option Expr)} {vs : List Expr} {Es : List Expr}, inter ks vs = some Es → ks.all (·.isSome) = true ∧ ks.length = vs.length
  | [], [], _, _ => ⟨rfl, rfl⟩
  | [], _ :: _, _, h => by simp [inter] at h
  | none :: _, _, _, h => by simp [inter] at h
  | some _ :: _, [], _, h => by simp [inter] at h
  | some k :: ks, v :: vs, _, h => by
    simp only [inter] at h
    cases q : inter ks vs with
    | none => rw [q] at h; cases h
    | some r =>
      obtain ⟨h1, h2⟩ := inter_all q
      exact ⟨by simpa using h1, by simp [h2]⟩
theorem pps_all : ∀ {ks : List (Option Expr)} {vs : List Expr} {Es : List Expr} {xs : List Ex}, inter ks vs = some Es → All2 (Is X) xs Es → PPs X pos ks vs (tPn X.K xs)
  | [], [], _, _, h, r => by
    simp only [inter] at h
    cases h
    cases r
    exact pps_nil
  | [], _ :: _, _, _, h, _ => by simp [inter] at h
  | none :: _, _, _, _, h, _ => by simp [inter] at h
  | some _ :: _, [], _, _, h, _ => by simp [inter] at h
  | some k :: ks, v :: vs, _, _, h, r => by
    simp only [inter] at h
    cases q : inter ks vs with
    | none => rw [q] at h; cases h
    | some Es =>
      rw [q] at h
      cases h
      cases r with
      | cons a r =>
        cases r with
        | cons b r => exact pps_cons a.v b.v (pps_all q r)
/-- the pairs, as they stand -/
inductive PrR (ρ : List Addr) (H : Hp) : List (D × D) → List (V × V) → Prop
  | nil : PrR ρ H [] []
  | cons {p : D × D} {q : V × V} {ps : List (D × D)} {qs : List (V × V)} : VR ρ H p.1 q.1 → VR ρ H p.2 q.2 → PrR ρ H ps qs → PrR ρ H (p :: ps) (q :: qs)
theorem tPn_run {σ : L2.St} : ∀ {xs : List Ex} {ρ : List Addr} {H : Hp} {e : Env} {S S' : Sto} {ds : List D} {ps : List (D × D)} {Q : List (V × V) → Hp → Prop}, ER ρ H e σ → SR K ρ H S → evalEs xs e S = some (ds, S') → pairsD ds = some ps →
    (∀ ρ' H' qs, Go ρ H ρ' H' → SR K ρ' H' S' → PrR ρ' H' ps qs → Q qs H') → tPairs (tPn K xs) σ H Q
  | [], ρ, H, e, S, S', ds, ps, Q, hE, hS, h, hp, k => by
    simp only [evalEs] at h
    cases h
    cases hp
    exact k ρ H [] .refl hS .nil
  | [x], ρ, H, e, S, S', ds, ps, Q, hE, hS, h, hp, k => by
    have hl := evalEs_len h
    cases ds with
    | nil => cases hl
    | cons d ds =>
      cases ds with
      | nil => cases hp
      | cons _ _ => cases hl
  | x :: y :: xs, ρ, H, e, S, S', ds, ps, Q, hE, hS, h, hp, k => by
    simp only [evalEs] at h
    split at h
    · cases h
    rename_i d1 S1 e1
    split at h
    · cases h
    rename_i ds1 S2 e2
    cases h
    split at e2
    · cases e2
    rename_i d2 S3 e3
    split at e2
    · cases e2
    rename_i ds2 S4 e4
    cases e2
    simp only [pairsD] at hp
    cases q : pairsD ds2 with
    | none => rw [q] at hp; cases hp
    | some ps2 =>
      rw [q] at hp
      cases hp
      refine ⟨ρ, e, S, d1, S1, hE, hS, e1, fun ρ1 H1 v1 g1 s1 r1 => ⟨ρ1, e, S1, d2, S3, hE.go g1, s1, e3, fun ρ2 H2 v2 g2 s2 r2 => ?_⟩⟩
      refine tPn_run ((hE.go g1).go g2) s2 e4 q fun ρ3 H3 qs g3 s3 r3 => ?_
      exact k ρ3 H3 _ ((g1.trans g2).trans g3) s3 (.cons (r1.go (g2.trans g3)) (r2.go g3) r3)
theorem PrR.keys {ρ : List Addr} {H : Hp} : ∀ {ps : List (D × D)} {qs : List (V × V)}, PrR ρ H ps qs → (ps.all fun p => keyK p.1) = true → ∃ kvs : List (Key × V), qs = kvs.map (fun kv => (kV kv.1, kv.2)) ∧ kR ρ H ps kvs
  | _, _, .nil, _ => ⟨[], rfl, trivial⟩
  | _, _, .cons (p := p) (q := q) r1 r2 t, h => by
    have h := Bool.and_eq_true_iff.mp (by simpa only [List.all_cons] using h)
    obtain ⟨kvs, e, r⟩ := t.keys h.2
    obtain ⟨c, ec⟩ := keyK_kD h.1
    rw [ec] at r1
    have e1 := r1.key
    refine ⟨(c, q.2) :: kvs, ?_, ec, r2, r⟩
    rw [e, List.map_cons, ← e1]
theorem kR.puts {ρ : List Addr} {H : Hp} : ∀ {ps : List (D × D)} {qs : List (Key × V)} {as : List (D × D)} {bs : List (Key × V)}, kR ρ H ps qs → kR ρ H as bs → kR ρ H (dputs as ps) (mergeK bs qs)
  | [], [], _, _, _, r => r
  | [], _ :: _, _, _, h, _ => h.elim
  | _ :: _, [], _, _, h, _ => h.elim
  | p :: ps, q :: qs, as, bs, h, r => by
    show kR ρ H (dputs (dput as p.1 p.2) ps) (mergeK (putK bs q.1 q.2) qs)
    refine kR.puts h.2.2 ?_
    rw [h.1]
    exact r.put q.1 h.2.1
theorem pairs_len : ∀ {ds : List D} {ps : List (D × D)}, pairsD ds = some ps → ds.length = 2 * ps.length
  | [], _, h => by cases h; rfl
  | [_], _, h => by cases h
  | x :: y :: r, _, h => by
    simp only [pairsD] at h
    cases q : pairsD r with
    | none => rw [q] at h; cases h
    | some ps =>
      rw [q] at h
      cases h
      have := pairs_len q
      simp only [List.length_cons]; omega
theorem PrR.len {ρ : List Addr} {H : Hp} : ∀ {ps : List (D × D)} {qs : List (V × V)}, PrR ρ H ps qs → ps.length = qs.length
  | _, _, .nil => rfl
  | _, _, .cons _ _ t => congrArg Nat.succ t.len
theorem inter_len : ∀ {ks : List (Option Expr)} {vs : List Expr} {Es : List Expr}, inter ks vs = some Es → Es.length = 2 * ks.length
  | [], [], _, h => by simp only [inter] at h; cases h; rfl
  | [], _ :: _, _, h => by simp [inter] at h
  | none :: _, _, _, h => by simp [inter] at h
  | some _ :: _, [], _, h => by simp [inter] at h
  | some k :: ks, v :: vs, _, h => by
    simp only [inter] at h
    cases q : inter ks vs with
    | none => rw [q] at h; cases h
    | some r =>
      rw [q] at h
      cases h
      have := inter_len q
      simp only [List.length_cons]; omega
/-- an object that stood apart comes into the store -/
theorem SR.adopt {ρ : List Addr} {H : Hp} {S : Sto} {p : Addr} {u0 u : HO} {o : O} (s : SR K ρ H S) (hp : p ∉ ρ) (e : H p = some u0) (m : Mut (some u0)) (h : OR K (ρ ++ [p]) (upd H p u) p o) : SR K (ρ ++ [p]) (upd H p u) (S ++ [o]) := by
  have g : Go (ρ ++ [p]) H (ρ ++ [p]) (upd H p u) := Go.write (by simp) e m
  have lt : ∀ {n : Nat} {b : Addr}, (ρ ++ [p])[n]? = some b → (n < ρ.length ∧ ρ[n]? = some b) ∨ (n = ρ.length ∧ b = p) := fun {n b} e => by
    by_cases h : n < ρ.length
    · rw [List.getElem?_append_left h] at e; exact .inl ⟨h, e⟩
    · rw [List.getElem?_append_right (by omega)] at e
      have h1 := (List.getElem?_eq_some_iff.mp e).1
      have h2 : n = ρ.length := by simp at h1; omega
      subst h2
      simp at e
      exact .inr ⟨rfl, e.symm⟩
  have lo : ∀ {n : Nat} {w : O}, n < ρ.length → (S ++ [o])[n]? = some w → S[n]? = some w := fun {n w} h e => by
    rw [List.getElem?_append_left (by rw [← s.len]; exact h)] at e; exact e
  have last : ∀ {w : O}, (S ++ [o])[ρ.length]? = some w → w = o := fun {w} e => by
    rw [s.len, List.getElem?_append_right (Nat.le_refl _)] at e; simp at e; exact e.symm
  have mem : ∀ {n : Nat} {b : Addr}, ρ[n]? = some b → b ≠ p := fun {n b} q z => hp (by rw [← z]; exact List.mem_of_getElem? q)
  refine ⟨by simp [s.len], fun n w b h1 h2 => ?_, fun m n b w z h1 h2 h3 h4 l1 l2 => ?_⟩
  · rcases lt h2 with ⟨hn, e⟩ | ⟨hn, e⟩
    · exact (s.at_ n w b (lo hn h1) e).same (fun _ q => by rw [upd_ne (mem e)]; exact q) (fun _ _ r => r.cat.go g) fun _ _ r => VRs.go g r.cat
    · subst e; subst hn
      rw [last h1]
      exact h
  · rcases lt h1 with ⟨x1, e1⟩ | ⟨x1, e1⟩ <;> rcases lt h2 with ⟨x2, e2⟩ | ⟨x2, e2⟩
    · exact s.nd m n b w z e1 e2 (lo x1 h3) (lo x2 h4) l1 l2
    · exact absurd e2 (mem e1)
    · exact absurd e1 (mem e2)
    · rw [x1, x2]
theorem se_dict {ks : List (Option Expr)} {vs : List Expr} {Es : List Expr} {xs : List Ex} (hi : inter ks vs = some Es) (ha : All2 (Is X) xs Es) (h15 : ks.length ≤ 15) : SE X (.Dict ks vs pos) (evalE (.dict xs)) := by
  by_cases h0 : ks = []
  · subst h0
    cases vs with
    | cons _ _ => simp [inter] at hi
    | nil =>
      simp only [inter] at hi
      cases hi
      cases ha
      refine PE.imp pe_dnewK fun σ H Q q p hp => ?_
      obtain ⟨ρ, e, S, d, S', h1, h2, h3, k⟩ := q
      simp only [evalE, evalEs, pairsD] at h3
      rw [if_pos (by simp)] at h3
      cases h3
      exact k.new h2 (fun p hp => .inl ⟨[], upd_same, trivial⟩) p hp
  · obtain ⟨hall, hl⟩ := inter_all hi
    refine PE.imp (pe_disp (pps_all hi ha) hall hl h0 h15) fun σ H Q q p hp => ?_
    obtain ⟨ρ, e, S, d, S', h1, h2, h3, k⟩ := q
    simp only [evalE] at h3
    split at h3
    · cases h3
    rename_i ds S1 e1
    split at h3
    · cases h3
    rename_i ps e2
    split at h3
    case isFalse => cases h3
    rename_i c2
    cases h3
    have g0 : Go ρ H ρ (upd H p (.dK [])) := Go.laid hp
    have pn : p ∉ ρ := fun z => h2.told z hp
    refine tPn_run (h1.go g0) (h2.laid hp) e1 e2 fun ρ' H' qs g s r => ?_
    obtain ⟨kvs, eq, rk⟩ := r.keys c2
    have hz : kvs.length ≤ 15 := by
      have z1 := pairs_len e2
      have z2 := evalEs_len e1
      have z3 := ha.len
      have z4 := inter_len hi
      have z5 := r.len
      rw [eq, List.length_map] at z5
      omega
    have hd : H' p = some (.dK []) := g.fr p _ upd_same fun z => pn z.1
    have pn' : p ∉ ρ' := fun z => by
      obtain ⟨δ, ed, nn⟩ := g.ext
      rw [ed] at z
      rcases List.mem_append.mp z with z | z
      · exact pn z
      · have := nn p z
        rw [upd_same] at this; cases this
    refine ⟨hd, kvs, eq, hz, ?_⟩
    have gw : Go (ρ' ++ [p]) H' (ρ' ++ [p]) (upd H' p (.dK (mergeK [] kvs))) := Go.write (by simp) hd trivial
    have gg : Go ρ H (ρ' ++ [p]) (upd H' p (.dK (mergeK [] kvs))) := by
      obtain ⟨δ, ed, nn⟩ := g.ext
      refine ⟨⟨δ ++ [p], by rw [ed, List.append_assoc], fun x hx => ?_⟩, fun a o ea na => ?_, fun a ea => ?_⟩
      · rcases List.mem_append.mp hx with z | z
        · have := nn x z
          by_cases hxp : x = p
          · rw [hxp]; exact hp
          · rw [upd_ne hxp] at this; exact this
        · rw [List.mem_singleton.mp z]; exact hp
      · have ne : a ≠ p := fun z => by rw [z, hp] at ea; cases ea
        rw [upd_ne ne]
        exact g.fr a o (by rw [upd_ne ne]; exact ea) na
      · have ne : a ≠ p := fun z => by rw [z, hp] at ea; exact ea rfl
        rw [upd_ne ne]
        exact g.th a (by rw [upd_ne ne]; exact ea)
    refine k _ _ _ gg (s.adopt pn' hd trivial (.inl ⟨_, upd_same, ?_⟩)) (.ref (by rw [← s.len]; simp))
    exact kR.puts (rk.imp fun _ _ r => r.cat.go gw) trivial
end
end N
set_option autoImplicit false
set_option Elab.async false
set_option linter.all false
set_option maxRecDepth 100000
set_option maxHeartbeats 4000000
namespace N
open PySem L2 PySem.Spec PyProof.Rows
/-! ### tuples known as objects: tuple(xs), count, index -/
section
variable {X : Cx} {K : PySem.W.Frag} {ρ : List Addr} {H : Hp} {S S' : Sto} {d : D} {v : V}
theorem call_ftpN : CallR X (.type "tuple") (rN X.K ftpB) := by
  intro pins s σ H xs us Q I r h
  obtain ⟨ρ, S, ds, d, S', hS, rs, hr, k⟩ := h
  unfold ftpB at hr
  split at hr
  · rename_i n
    split at hr
    · rename_i ys e1
      cases hr
      obtain ⟨w, rfl, rw'⟩ := rs.one'
      cases rw' with
      | ref ea =>
        obtain ⟨vs, q, rr⟩ := hS.lst e1 ea
        obtain ⟨its, rv, hl, hz⟩ := I.list (.of q)
        rw [Vals.ref1 r]
        have hzi : its.length ≤ sizeLine := by rw [← rv.length]; exact hz
        refine call_tuple_list hl.isList (fun h' hk => ?_) (by rw [List.size_toArray]; exact hzi)
        have I1 : L2.Inv X pins σ H { s with heap := h', toks := s.toks } := I.kept fun b o e => hk b o e
        refine ⟨.ref h'.objs.size, upd H h'.objs.size (.frz { cls := .type "tuple", data := .seq its.toArray } (.tup vs)), I1.laid (t' := s.toks) (fun b u e => Heap.get?_push_of_some _ e) (Nat.le_refl _) ⟨Heap.get?_push_size _ rfl, hz, its, rv, IsTup.new _ _⟩, rfl, ?_⟩
        exact k.new hS (fun p hp => ⟨_, vs, upd_same, rfl, rfl, VRs.go (Go.laid hp) rr⟩) _ (I1.hok.fresh (Nat.le_refl _))
    · cases hr
  · cases hr
/-- a tuple that is known as an object -/
def TyF (x : V) (H : Hp) : Prop := ∃ p o vs, x = .ref p ∧ H p = some (.frz o (.tup vs)) ∧ o.cls = .type "tuple" ∧ o.dict = none
theorem tyF_is {pins : List (Addr × Obj)} {σ : L2.St} {s : Shared} {u : Value} (I : L2.Inv X pins σ H s) (r : RelV v u) (ty : TyF v H) : s.TypeIs u "tuple" ∧ ∀ a, u = .ref a → ∃ ob, s.heap.get? a = some ob ∧ ob.dict = none := by
  obtain ⟨p, o, vs, rfl, e, c, dn⟩ := ty
  cases r
  have g := (I.hok p _ e).1
  exact ⟨⟨o, g, c⟩, fun a ea => by cases ea; exact ⟨o, g, dn⟩⟩
variable {o e : Expr} {es : List Expr} {to : TE} {t : TA} {name : Str} {apos cpos : Pos} {id : String} {r : V → List V → Hp → VK → Prop}
theorem pe_bmF (pa : PlainAttrs "tuple") (slot : Slot "tuple" name id) (hty : typeOf (.builtin id) = pure (.type "method_descriptor")) (hm : MtR X id r) (ho : PE X o to) (ha : PA X (e :: es) t) (hbase : attributeBase o name X.env (eval o X.env) = eval o X.env)
    (hfew : ((backTo cpos (starEach (e :: es) X.env)).all (fun x => !x.1) && (backToKw cpos (keywordEach [] X.env)).all (fun x => x.1.isSome)
      && decide ((e :: es).length + ([] : List Keyword).length + (if ([] : List Keyword).isEmpty then 0 else 1) < 30)) = true)
    (hline : (apos.endLine == cpos.line) = true) (hs : starEach (e :: es) X.env = (false, eval e X.env) :: starEach es X.env) (hplain : (backTo cpos (starEach es X.env)).any (·.1) = false) :
    PE X (.Call (.Attribute o name apos) (e :: es) [] cpos) (fun σ H Q => to σ H fun x H1 => TyF x H1 ∧ t σ H1 fun xs H2 => r x xs H2 Q) := ⟨fun pins s σ H Q I h => by
  refine wpAny_Call_method_late hbase hfew hline rfl (thn (ho.run pins s σ H _ I h) fun v s1 ⟨x, H1, I1, r1, ty, q1⟩ => ?_)
  obtain ⟨h1, h2⟩ := tyF_is I1 r1 ty
  refine ⟨"tuple", id, pa, slot, hty, h1, h2, ?_⟩
  have hA := ha.run cpos pins s1 σ H1 _ I1 q1
  rw [hs] at hA ⊢
  refine Calls.callWith_builtin (by show (false || (backTo cpos (starEach es X.env)).any (·.1)) = false; rw [hplain] <;> rfl) (Calls.evalArgs_plain ?_)
  exact thn hA fun us s2 ⟨vs, H2, I2, r2, q2⟩ => hm pins s2 σ H2 x vs v us Q I2 r1 r2 q2⟩
theorem ftp_ints {n : Nat} {xs : List D} {ns : List Int} {pins : List (Addr × Obj)} {σ : L2.St} {s : Shared} {p : Addr} (hS : SR X.K ρ H S) (e1 : S[n]? = some (.ftp xs)) (ea : ρ[n]? = some p) (e2 : intsD xs = some ns) (I : L2.Inv X pins σ H s) : ∃ its, IsTup s.heap p (List.toArray its) ∧ IntsAre its ns ∧ its.length ≤ sizeLine := by
  obtain ⟨ob, vs, q, c, dn, rr⟩ := hS.at_ _ _ _ e1 ea
  rw [ints_app e2] at rr
  have := rr.toInts
  subst this
  obtain ⟨its, rv, ht, hz⟩ := I.tuple (.inl (.inr ⟨ob, q⟩))
  exact ⟨its, ht, ints_of_vals rv, by rw [← rv.length]; exact hz⟩
theorem mt_cntT : MtR X "tuple.count" (rM X.K cntT) := by
  intro pins s σ H x xs v us Q I rx rxs h
  obtain ⟨ρ, S, dx, ds, d, S', hS, r1, rs, hr, k⟩ := h
  unfold cntT at hr
  split at hr
  · rename_i n i
    split at hr
    · rename_i zs e1
      split at hr
      · rename_i ns e2
        cases hr
        cases r1 with
        | ref ea =>
          obtain ⟨w, rfl, rw'⟩ := rs.one'
          cases rw'
          cases rx
          obtain ⟨u, rfl, ru⟩ := rxs.one
          obtain ⟨t, rfl⟩ := ru
          obtain ⟨its, ⟨⟨cls, dd, data, sl⟩, ho, hc, n2, hd⟩, hi, hz⟩ := ftp_ints hS e1 ea e2 I
          simp only at hc hd
          subst hc hd
          refine call_meets PySem.F.slot_tuple_count ⟨_, ho, rfl⟩ PySem.F.entry_tuple_count (PySem.F.args_tuple_count_2 _ _)
            (SeqAt.tuple_countAt _ its.toArray n2 dd sl (.int i t) (eqk i)) ⟨ho, fun y hy => (eqk_gives hi y (by simpa using hy)).at _ _, ?_⟩
          have ec : its.toArray.toList.countP (eqk i) = ns.count i := eqk_count hi
          refine ⟨.int (ns.count i : Nat), H, I.tok _, ⟨s.toks, ?_⟩, k.ret hS (.int _)⟩
          rw [ec]
      · cases hr
    · cases hr
  · cases hr
theorem mt_idxT : MtR X "tuple.index" (rM X.K idxT) := by
  intro pins s σ H x xs v us Q I rx rxs h
  obtain ⟨ρ, S, dx, ds, d, S', hS, r1, rs, hr, k⟩ := h
  unfold idxT at hr
  split at hr
  · rename_i n i
    split at hr
    · rename_i zs e1
      split at hr
      · rename_i ns e2
        split at hr
        case isFalse => cases hr
        rename_i hm
        cases hr
        cases r1 with
        | ref ea =>
          obtain ⟨w, rfl, rw'⟩ := rs.one'
          cases rw'
          cases rx
          obtain ⟨u, rfl, ru⟩ := rxs.one
          obtain ⟨t, rfl⟩ := ru
          obtain ⟨its, ht, hi, hz⟩ := ftp_ints hS e1 ea e2 I
          exact PySem.SeqAt.tuple_index_ints ht hi (of_decide_eq_true hm) ⟨.int (ns.idxOf i : Nat), H, I.tok _, ⟨s.toks, rfl⟩, k.ret hS (.int _)⟩
      · cases hr
    · cases hr
  · cases hr
theorem methT_F {m : Mth} {x : D} (hm : m = .tcount ∨ m = .tindex) (s : SR K ρ H S) (r : VR ρ H x v) (h : methT S m x = true) : TyF v H := by
  unfold methT at h
  split at h
  · rename_i n
    cases r with
    | ref ea =>
      split at h
      · rcases hm with rfl | rfl <;> cases h
      · rename_i e1
        obtain ⟨ob, vs, q, c, dn, _⟩ := s.at_ _ _ _ e1 ea
        exact ⟨_, ob, vs, rfl, q, c, dn⟩
      · rcases hm with rfl | rfl <;> cases h
      · cases h
  · cases h
theorem se_methF {m : Mth} (hmm : m = .tcount ∨ m = .tindex) {g : Sto → D → List D → RE} {O E : Expr} {Es : List Expr} {o y : Ex} {ys : List Ex} (hg : ∀ S x ds, methI S m x ds = g S x ds) (pa : PlainAttrs "tuple") (slot : Slot "tuple" name id) (hty : typeOf (.builtin id) = pure (.type "method_descriptor")) (hm : MtR X id (rM X.K g))
    (ho : SE X O (evalE o)) (ha : SA X (E :: Es) (evalEs (y :: ys))) (hbase : attributeBase O name X.env (eval O X.env) = eval O X.env)
    (hfew : ((backTo cpos (starEach (E :: Es) X.env)).all (fun x => !x.1) && (backToKw cpos (keywordEach [] X.env)).all (fun x => x.1.isSome)
      && decide ((E :: Es).length + ([] : List Keyword).length + (if ([] : List Keyword).isEmpty then 0 else 1) < 30)) = true)
    (hline : (apos.endLine == cpos.line) = true) (hs : starEach (E :: Es) X.env = (false, eval E X.env) :: starEach Es X.env) (hplain : (backTo cpos (starEach Es X.env)).any (·.1) = false) :
    SE X (.Call (.Attribute O name apos) (E :: Es) [] cpos) (evalE (.meth m o (y :: ys))) := PE.imp (pe_bmF pa slot hty hm ho ha hbase hfew hline hs hplain) fun σ H Q q => by
  obtain ⟨ρ, e, S, d, S', h1, h2, h3, k⟩ := q
  simp only [evalE] at h3
  split at h3
  · cases h3
  rename_i x S1 e1
  split at h3
  case isFalse => cases h3
  rename_i ht
  split at h3
  · cases h3
  rename_i ds S2 e2
  rw [hg] at h3
  exact ⟨ρ, e, S, x, S1, h1, h2, e1, fun ρ1 H1 v1 g1 s1 r1 => ⟨methT_F hmm s1 r1 ht, ρ1, e, S1, ds, S2, h1.go g1, s1, e2, fun ρ2 H2 vs g2 s2 r2 => ⟨ρ2, S2, x, ds, d, S', s2, r1.go g2, r2, h3, k.go (g1.trans g2)⟩⟩⟩
end
end N
set_option autoImplicit false
set_option Elab.async false
set_option linter.all false
set_option maxRecDepth 100000
set_option maxHeartbeats 4000000
namespace N
open PySem L2 PySem.Spec PyProof.Rows
/-! ### sorted -/
theorem insI_perm (x : Int) : ∀ ys : List Int, (insI x ys).Perm (x :: ys)
  | [] => .refl _
  | y :: ys => by
    unfold insI
    split
    · exact .refl _
    · exact ((insI_perm x ys).cons y).trans (.swap x y ys)
theorem insI_mem {x a : Int} {ys : List Int} (h : a ∈ insI x ys) : a = x ∨ a ∈ ys := by
  have := (insI_perm x ys).mem_iff.mp h
  simpa using this
theorem insI_sorted (x : Int) : ∀ ys : List Int, ys.Pairwise (· ≤ ·) → (insI x ys).Pairwise (· ≤ ·)
  | [], _ => by simp [insI]
  | y :: ys, h => by
    obtain ⟨h1, h2⟩ := List.pairwise_cons.mp h
    unfold insI
    split
    · rename_i c
      refine List.pairwise_cons.mpr ⟨fun a ha => ?_, h⟩
      rcases List.mem_cons.mp ha with e | ha
      · rw [e]; exact c
      · exact Int.le_trans c (h1 a ha)
    · rename_i c
      refine List.pairwise_cons.mpr ⟨fun a ha => ?_, insI_sorted x ys h2⟩
      rcases insI_mem ha with e | ha
      · rw [e]; omega
      · exact h1 a ha
theorem sortI_perm : ∀ xs : List Int, (sortI xs).Perm xs
  | [] => .refl _
  | x :: xs => (insI_perm x (sortI xs)).trans ((sortI_perm xs).cons x)
theorem sortI_sorted : ∀ xs : List Int, (sortI xs).Pairwise (· ≤ ·)
  | [] => .nil
  | x :: xs => insI_sorted x _ (sortI_sorted xs)
theorem sorted_uniq : ∀ {xs ys : List Int}, xs.Perm ys → xs.Pairwise (· ≤ ·) → ys.Pairwise (· ≤ ·) → xs = ys
  | [], ys, p, _, _ => (List.Perm.nil_eq p)
  | x :: xs, [], p, _, _ => by have := p.length_eq; simp at this
  | x :: xs, y :: ys, p, h1, h2 => by
    obtain ⟨a1, a2⟩ := List.pairwise_cons.mp h1
    obtain ⟨b1, b2⟩ := List.pairwise_cons.mp h2
    have e : x = y := by
      have mx : x ∈ y :: ys := p.mem_iff.mp (by simp)
      have my : y ∈ x :: xs := p.mem_iff.mpr (by simp)
      have h3 : y ≤ x := by
        rcases List.mem_cons.mp mx with q | q
        · omega
        · exact b1 x q
      have h4 : x ≤ y := by
        rcases List.mem_cons.mp my with q | q
        · omega
        · exact a1 y q
      omega
    subst e
    rw [sorted_uniq (List.Perm.cons_inv p) a2 b2]
theorem sortI_eq {xs ys : List Int} (p : ys.Perm xs) (h : ys.Pairwise (· ≤ ·)) : ys = sortI xs := sorted_uniq (p.trans (sortI_perm xs).symm) h (sortI_sorted xs)
end N
set_option autoImplicit false
set_option Elab.async false
set_option linter.all false
set_option maxRecDepth 100000
set_option maxHeartbeats 4000000
namespace N
open PySem L2 PySem.Spec PyProof.Rows PySem.W
section
variable {X : Cx}
theorem each_ints : ∀ {vs : List Value} {ns : List Int}, IntsAre vs ns → EachIs (fun v b => ∃ t, v = Value.int b t) vs ns
  | _, _, .nil => .nil
  | _, _, .cons n t r => .cons ⟨t, rfl⟩ (each_ints r)
theorem ints_each : ∀ {vs : List Value} {ns : List Int}, EachIs (fun v b => ∃ t, v = Value.int b t) vs ns → IntsAre vs ns
  | _, _, .nil => .nil
  | _, _, .cons ⟨t, e⟩ r => by rw [e]; exact .cons _ t (ints_each r)
theorem sort_ints_eq (ns : List Int) : ns.mergeSort (dataLe false PyData.int) = sortI ns := by
  rw [show dataLe false PyData.int = (fun a b : Int => decide (a ≤ b)) from dataLe_int id]
  refine sortI_eq (List.mergeSort_perm _ _) ?_
  have := List.pairwise_mergeSort (le := fun a b : Int => decide (a ≤ b)) (fun a b c h1 h2 => by simp at *; omega) (fun a b => by simp; omega) ns
  exact this.imp fun h => of_decide_eq_true h
/-- sorted(xs), ints -/
theorem srt_ints (hu : X.A.units + 16 < cLine) {pins : List (Addr × Obj)} {σ : L2.St} {H : Hp} {s : Shared} {p : Addr} {ns : List Int} {Q : VK} (I : L2.Inv X pins σ H s) (hp : H p = some (.lst (ns.map V.int)))
    (k : ∀ q, H q = none → Q (.ref q) (upd H q (.lst ((sortI ns).map V.int)))) : wpAny (model X.prog X.w) X.A (call (.builtin "sorted") [.ref p]) (EP X pins σ Q) X.xe s := by
  obtain ⟨its, rv, hl, hz⟩ := I.list (.of hp)
  have hi := ints_of_vals rv
  rw [List.length_map] at hz
  have er : EachIs (fun v b => ∃ as, Reads s.heap v (PyData.int b) as) its ns := (each_ints hi).mono fun v b ⟨t, e⟩ => ⟨[], by rw [e]; exact .int b t⟩
  refine sorted_data (enc := PyData.int) hl.isList (each_ints hi) er (AllAlike.of fun _ _ => by simp [alike]) (Sortable.others fun b => ⟨by simp, by simp⟩) hz (fun b _ => by show X.A.units + 2 + 0 < cLine; omega) fun out ho eo => ?_
  rw [sort_ints_eq] at eo
  obtain ⟨ep, he'⟩ := PyProof.Rows.sortedAll_at s.heap its out.toArray
  have hlen : ((sortI ns).map V.int).length ≤ sizeLine := by rw [List.length_map, (sortI_perm ns).length_eq]; exact hz
  exact ⟨.ref _, upd H (s.heap.objs.size + 1) (.lst ((sortI ns).map V.int)), I.laid (t' := s.toks) (fun _ _ => PyProof.Rows.sortedAll_old) (Nat.le_succ _) ⟨hlen, out, ep, vals_of_ints (ints_each eo), he'⟩, rfl, k _ (I.hok.fresh (Nat.le_succ _))⟩
end
end N
set_option autoImplicit false
set_option Elab.async false
set_option linter.all false
set_option maxRecDepth 100000
set_option maxHeartbeats 4000000
namespace N
open PySem L2 PySem.Spec PyProof.Rows PySem.W
/-! ### the order of trees -/
mutual
theorem alk_alike : ∀ x y : D, D.alk x y = true → alike (toPy x) (toPy y) = true
  | .int _, .int _, _ => rfl
  | .tup xs, .tup ys, h => alks_alike xs ys h
  | .int _, .tup _, h => by cases h
  | .int _, .non, h => by cases h
  | .int _, .bl _, h => by cases h
  | .int _, .str _, h => by cases h
  | .int _, .lst _, h => by cases h
  | .int _, .ref _, h => by cases h
  | .int _, .rep _, h => by cases h
  | .tup _, .int _, h => by cases h
  | .tup _, .non, h => by cases h
  | .tup _, .bl _, h => by cases h
  | .tup _, .str _, h => by cases h
  | .tup _, .lst _, h => by cases h
  | .tup _, .ref _, h => by cases h
  | .tup _, .rep _, h => by cases h
  | .non, _, h => by cases h
  | .bl _, _, h => by cases h
  | .str _, _, h => by cases h
  | .lst _, _, h => by cases h
  | .ref _, _, h => by cases h
  | .rep _, _, h => by cases h
theorem alks_alike : ∀ xs ys : List D, D.alks xs ys = true → alikeAll (toPys xs) (toPys ys) = true
  | [], [], _ => rfl
  | [], _ :: _, _ => rfl
  | _ :: _, [], _ => rfl
  | x :: xs, y :: ys, h => by
    have h := Bool.and_eq_true_iff.mp (show (D.alk x y && D.alks xs ys) = true from h)
    show (alike (toPy x) (toPy y) && alikeAll (toPys xs) (toPys ys)) = true
    rw [alk_alike x y h.1, alks_alike xs ys h.2]; rfl
end
mutual
theorem eqv_alk : ∀ x y : D, D.alk x y = true → PyData.eqv (toPy x) (toPy y) = D.eqv x y
  | .int _, .int _, _ => rfl
  | .tup xs, .tup ys, h => eqvs_alk xs ys h
  | .int _, .tup _, h => by cases h
  | .int _, .non, h => by cases h
  | .int _, .bl _, h => by cases h
  | .int _, .str _, h => by cases h
  | .int _, .lst _, h => by cases h
  | .int _, .ref _, h => by cases h
  | .int _, .rep _, h => by cases h
  | .tup _, .int _, h => by cases h
  | .tup _, .non, h => by cases h
  | .tup _, .bl _, h => by cases h
  | .tup _, .str _, h => by cases h
  | .tup _, .lst _, h => by cases h
  | .tup _, .ref _, h => by cases h
  | .tup _, .rep _, h => by cases h
  | .non, _, h => by cases h
  | .bl _, _, h => by cases h
  | .str _, _, h => by cases h
  | .lst _, _, h => by cases h
  | .ref _, _, h => by cases h
  | .rep _, _, h => by cases h
theorem eqvs_alk : ∀ xs ys : List D, D.alks xs ys = true → PyData.eqvAll (toPys xs) (toPys ys) = D.eqvs xs ys
  | [], [], _ => rfl
  | [], _ :: _, _ => rfl
  | _ :: _, [], _ => rfl
  | x :: xs, y :: ys, h => by
    have h := Bool.and_eq_true_iff.mp (show (D.alk x y && D.alks xs ys) = true from h)
    show (PyData.eqv (toPy x) (toPy y) && PyData.eqvAll (toPys xs) (toPys ys)) = (D.eqv x y && D.eqvs xs ys)
    rw [eqv_alk x y h.1, eqvs_alk xs ys h.2]
end
mutual
theorem ltb_alk : ∀ x y : D, D.alk x y = true → dataLt (toPy x) (toPy y) = D.ltb x y
  | .int x, .int y, _ => dataLt_int x y
  | .tup xs, .tup ys, h => by
    show dataLt (.tuple (toPys xs)) (.tuple (toPys ys)) = _
    rw [dataLt_tuple]
    exact ltbs_alk xs ys h
  | .int _, .tup _, h => by cases h
  | .int _, .non, h => by cases h
  | .int _, .bl _, h => by cases h
  | .int _, .str _, h => by cases h
  | .int _, .lst _, h => by cases h
  | .int _, .ref _, h => by cases h
  | .int _, .rep _, h => by cases h
  | .tup _, .int _, h => by cases h
  | .tup _, .non, h => by cases h
  | .tup _, .bl _, h => by cases h
  | .tup _, .str _, h => by cases h
  | .tup _, .lst _, h => by cases h
  | .tup _, .ref _, h => by cases h
  | .tup _, .rep _, h => by cases h
  | .non, _, h => by cases h
  | .bl _, _, h => by cases h
  | .str _, _, h => by cases h
  | .lst _, _, h => by cases h
  | .ref _, _, h => by cases h
  | .rep _, _, h => by cases h
theorem ltbs_alk : ∀ xs ys : List D, D.alks xs ys = true → PyProof.Rows.lexLt itemOrd (keyToksAll (toPys xs)) (keyToksAll (toPys ys)) = D.ltbs xs ys
  | [], [], _ => lex_irrefl _
  | [], y :: ys, _ => by
    show PyProof.Rows.lexLt itemOrd (keyToksAll []) (keyToksAll (toPy y :: toPys ys)) = true
    rw [toks_all_cons]
    cases y <;> (simp only [toPy, keyToks, keyToksAll, List.cons_append, List.nil_append]; rw [lex_diff (O := itemOrd) (by simp)]; rfl)
  | x :: xs, [], _ => by
    show PyProof.Rows.lexLt itemOrd (keyToksAll (toPy x :: toPys xs)) (keyToksAll []) = false
    rw [toks_all_cons]
    cases x <;> (simp only [toPy, keyToks, keyToksAll, List.cons_append, List.nil_append]; rw [lex_diff (O := itemOrd) (by simp)]; rfl)
  | x :: xs, y :: ys, h => by
    have h := Bool.and_eq_true_iff.mp (show (D.alk x y && D.alks xs ys) = true from h)
    show PyProof.Rows.lexLt itemOrd (keyToksAll (toPy x :: toPys xs)) (keyToksAll (toPy y :: toPys ys)) = if D.eqv x y then D.ltbs xs ys else D.ltb x y
    rw [dataLt_cons (alk_alike x y h.1), eqv_alk x y h.1, ltbs_alk xs ys h.2, ltb_alk x y h.1]
end
end N
set_option autoImplicit false
set_option Elab.async false
set_option linter.all false
set_option maxRecDepth 100000
set_option maxHeartbeats 4000000
namespace N
open PySem L2 PySem.Spec PyProof.Rows PySem.W
theorem ints_alks : ∀ xs ys : List D, (intsD xs).isSome = true → (intsD ys).isSome = true → D.alks xs ys = true
  | [], _, _, _ => by cases ‹List D› <;> rfl
  | x :: xs, [], _, _ => rfl
  | x :: xs, y :: ys, h1, h2 => by
    cases x <;> simp only [intsD, Option.isSome_none] at h1 <;> try (cases h1; done)
    cases y <;> simp only [intsD, Option.isSome_none] at h2 <;> try (cases h2; done)
    show (true && D.alks xs ys) = true
    rw [ints_alks xs ys (by simpa using h1) (by simpa using h2)]; rfl
theorem row_nb : ∀ x : D, rowD x = true → nbD x = true
  | .tup (_ :: _), _ => rfl
  | .tup [], h => by cases h
  | .int _, h => by cases h
  | .non, h => by cases h
  | .bl _, h => by cases h
  | .str _, h => by cases h
  | .lst _, h => by cases h
  | .ref _, h => by cases h
  | .rep _, h => by cases h
theorem row_alk : ∀ x y : D, rowD x = true → rowD y = true → D.alk x y = true := by
  intro x y hx hy
  cases x <;> try (cases hx; done)
  cases y <;> try (cases hy; done)
  rename_i xs ys
  cases xs with
  | nil => cases hx
  | cons a as =>
    cases ys with
    | nil => cases hy
    | cons b bs => exact ints_alks (a :: as) (b :: bs) hx hy
theorem srtOk_and {xs : List D} (h : srtOk xs = true) : (∀ x ∈ xs, nbD x = true) ∧ ∀ x ∈ xs, ∀ y ∈ xs, D.alk x y = true := by
  rcases Bool.or_eq_true_iff.mp h with h | h
  · have q := List.all_eq_true.mp h
    exact ⟨fun x hx => row_nb x (q x hx), fun x hx y hy => row_alk x y (q x hx) (q y hy)⟩
  · obtain ⟨h1, h2⟩ := Bool.and_eq_true_iff.mp h
    exact ⟨List.all_eq_true.mp h1, fun x hx y hy => List.all_eq_true.mp (List.all_eq_true.mp h2 x hx) y hy⟩
theorem nb_py {x : D} (h : nbD x = true) : ∃ y r, toPy x = .tuple (y :: r) := by
  cases x <;> try (cases h; done)
  rename_i xs
  cases xs with
  | nil => cases h
  | cons a as => exact ⟨toPy a, toPys as, rfl⟩
section
variable {X : Cx} {K : PySem.W.Frag} {ρ : List Addr} {H : Hp} {S : Sto} {pins : List (Addr × Obj)} {σ : L2.St} {s : Shared}
abbrev TreeR (X : Cx) (ρ : List Addr) (H : Hp) (s : Shared) (v : Value) (b : D × V) : Prop := (RelV b.2 v ∧ VR ρ H b.1 b.2) ∧ ∃ as, Reads s.heap v (toPy b.1) as
theorem each_trees (I : L2.Inv X pins σ H s) (hS : SR X.K ρ H S) : ∀ {ds : List D} {vs : List V} {its : List Value}, VRs ρ H ds vs → Vals vs its → (∀ d ∈ ds, rd RD S d = some d) → EachIs (TreeR X ρ H s) its (ds.zip vs)
  | _, _, _, .nil, .nil, _ => .nil
  | _, _, _, .cons a b, .cons c d, h => .cons ⟨⟨c, a⟩, Dp.reads I _ _ _ (rd_dp hS RD _ _ _ a (h _ (by simp))) c⟩ (each_trees I hS b d fun d hd => h d (by simp [hd]))
theorem mapO_self {f : D → Option D} : ∀ {xs ys : List D}, mapO f xs = some ys → ys = xs → ∀ d ∈ xs, f d = some d
  | [], _, _, _, d, hd => by cases hd
  | x :: xs, ys, h, e, d, hd => by
    simp only [mapO] at h
    split at h
    · cases h
    · rename_i y q
      split at h
      · cases h
      · rename_i zs q2
        cases h
        obtain ⟨e1, e2⟩ := List.cons.inj e
        rcases List.mem_cons.mp hd with z | z
        · rw [z, q, e1]
        · exact mapO_self q2 e2 d z
theorem vals_of_each : ∀ {out : List Value} {L : List (D × V)}, EachIs (fun v (b : D × V) => RelV b.2 v ∧ VR ρ H b.1 b.2) out L → Vals (L.map (·.2)) out ∧ VRs ρ H (L.map (·.1)) (L.map (·.2))
  | _, _, .nil => ⟨.nil, .nil⟩
  | _, _, .cons h t => ⟨.cons h.1 (vals_of_each t).1, .cons h.2 (vals_of_each t).2⟩
theorem zip_fst : ∀ {ds : List D} {vs : List V}, ds.length = vs.length → (ds.zip vs).map (·.1) = ds
  | [], [], _ => rfl
  | [], _ :: _, h => by cases h
  | _ :: _, [], h => by cases h
  | d :: ds, v :: vs, h => by
    show d :: (ds.zip vs).map (·.1) = d :: ds
    rw [zip_fst (Nat.succ.inj h)]
/-- sorted(xs), trees alike -/
theorem srt_trees (hu : X.A.units + 65 < cLine) {p : Addr} {ds : List D} {vs : List V} {Q : VK} (I : L2.Inv X pins σ H s) (hS : SR X.K ρ H S) (rs : VRs ρ H ds vs) (hr : mapO (rd RD S) ds = some ds) (ok : srtOk ds = true)
    (hp : H p = some (.lst vs)) (k : ∀ q ws, H q = none → VRs ρ H (sortD ds) ws → Q (.ref q) (upd H q (.lst ws))) :
    wpAny (model X.prog X.w) X.A (call (.builtin "sorted") [.ref p]) (EP X pins σ Q) X.xe s := by
  obtain ⟨its, rv, hl, hz⟩ := I.list (.of hp)
  have self := mapO_self hr rfl
  have ea := each_trees I hS rs rv self
  obtain ⟨o1, o2⟩ := srtOk_and ok
  have hlen := rs.len
  have fst := zip_fst hlen
  have mem : ∀ b ∈ ds.zip vs, b.1 ∈ ds := fun b hb => by rw [← fst]; exact List.mem_map.mpr ⟨b, hb, rfl⟩
  refine sorted_data (enc := fun b : D × V => toPy b.1) (R := fun v b => RelV b.2 v ∧ VR ρ H b.1 b.2) hl.isList (ea.mono fun _ _ h => h.1) (ea.mono fun _ _ h => h.2) (fun d hd d' hd' => ?_) (.inl fun d hd => ?_) (by rw [List.length_zip, ← hlen, Nat.min_self, hlen]; exact hz) (fun b hb => ?_) fun out ho eo => ?_
  · obtain ⟨b, hb, rfl⟩ := List.mem_map.mp hd
    obtain ⟨c, hc, rfl⟩ := List.mem_map.mp hd'
    exact alk_alike _ _ (o2 _ (mem b hb) _ (mem c hc))
  · obtain ⟨b, hb, rfl⟩ := List.mem_map.mp hd
    exact nb_py (o1 _ (mem b hb))
  · have := (toPys_real _ _ _ _ (self _ (mem b hb))).2
    show X.A.units + 2 + (toPy b.1).depth < cLine
    have h60 : RD = 60 := rfl
    omega
  · obtain ⟨hv, hr⟩ := vals_of_each eo
    have es : ((ds.zip vs).mergeSort (dataLe false fun b : D × V => toPy b.1)).map (·.1) = sortD ds := by
      rw [List.map_mergeSort (s := fun a b => !D.ltb b a) fun a ha b hb => ?_, fst]
      · rfl
      · rw [dataLe_eq]
        show (!dataLt (toPy b.1) (toPy a.1)) = !D.ltb b.1 a.1
        rw [ltb_alk _ _ (o2 _ (mem b hb) _ (mem a ha))]
    rw [es] at hr
    obtain ⟨ep, he'⟩ := PyProof.Rows.sortedAll_at s.heap its out.toArray
    generalize ((ds.zip vs).mergeSort (dataLe false fun b : D × V => toPy b.1)).map (·.2) = ws at hv hr
    have hlen2 : ws.length ≤ sizeLine := by
      rw [hv.length, ho, List.length_zip, ← hlen, Nat.min_self, hlen]; exact hz
    exact ⟨.ref _, upd H (s.heap.objs.size + 1) (.lst ws), I.laid (t' := s.toks) (fun _ _ => PyProof.Rows.sortedAll_old) (Nat.le_succ _) ⟨hlen2, out, ep, hv, he'⟩, rfl, k _ ws (I.hok.fresh (Nat.le_succ _)) hr⟩
theorem call_srtN (hu : X.A.units + 65 < cLine) : CallR X (.builtin "sorted") (rN X.K srtB) := by
  intro pins s σ H xs us Q I r h
  obtain ⟨ρ, S, ds, d, S', hS, rs, hr, k⟩ := h
  unfold srtB at hr
  split at hr
  case h_2 => cases hr
  rename_i n
  obtain ⟨v, rfl, rv⟩ := rs.one'
  split at hr
  case h_2 => cases hr
  rename_i es e1
  cases rv with
  | ref ea =>
    obtain ⟨vs, hp, rr⟩ := hS.lst e1 ea
    rw [Vals.ref1 r]
    split at hr
    · rename_i ns e2
      cases hr
      rw [ints_app e2] at rr
      have := rr.toInts
      subst this
      refine srt_ints (by omega) I hp fun q hq => ?_
      exact k.new hS (fun p hp => ⟨_, upd_same, VRs.ofInts _⟩) q hq
    · split at hr
      · cases hr
      rename_i ts e3
      split at hr
      case isFalse => cases hr
      rename_i c2
      obtain ⟨c3, c4⟩ := Bool.and_eq_true_iff.mp c2
      have c3 := of_decide_eq_true c3
      subst c3
      cases hr
      refine srt_trees hu I hS rr e3 c4 hp fun q ws hq hw => ?_
      exact k.new hS (fun p hp => ⟨ws, upd_same, VRs.go (Go.laid hp) hw⟩) q hq
end
end N
set_option autoImplicit false
set_option Elab.async false
set_option linter.all false
set_option maxRecDepth 100000
set_option maxHeartbeats 4000000
/-! enumerate(zip(a, b)) of two tuples: zip's own tuple may still be held by the pair that stands ahead -/
namespace N
open PySem L2 PySem.Spec PyProof.Rows
section
variable {prog : Program} {w : World} {A : Around} {E : Value → Shared → Prop} {s : Shared} {z TI TO i1 i2 l1 l2 : Addr} {k : Nat} {xs ys : Array Value} {x y : Value}
/-- the next count and pair of enumerate(zip(..)) -/
theorem ez_next {e : Addr} {old : Value} {Q : Option Value → Shared → Prop} (D : ZipApart z TI TO i1 i2 l1 l2) (he : IsEnum s.heap e z k old) (hez : e ∉ [z, TI, TO, i1, i2]) (st : ZAt .tup .tup s.heap z TI TO i1 i2 l1 l2 k) (hl1 : s.heap.IsTuple l1 xs) (hl2 : s.heap.IsTuple l2 ys) (hx : xs[k]? = some x) (hy : ys[k]? = some y)
    (hQ : ∀ h1 h', h1.objs.size = s.heap.objs.size + 1 → IsPair h1 s.heap.objs.size x y → (∀ c o, c ∉ [z, TO, i1, i2] → s.heap.get? c = some o → h1.get? c = some o) → ZAt .tup .tup h1 z TI TO i1 i2 l1 l2 (k + 1) →
      IsEnumOut h' e z ((k : Int) + 1) (.ref s.heap.objs.size) (s.heap.objs.size + 1) → h'.get? (s.heap.objs.size + 1) = some { cls := .type "tuple", data := .seq #[.int k s.toks, .ref s.heap.objs.size] } → (∀ b o, b ≠ e → h1.get? b = some o → h'.get? b = some o) →
      Q (some (.ref (s.heap.objs.size + 1))) { s with heap := h', toks := s.toks + 1 }) : wpAny (model prog w) A (pyNext (.ref e)) Q E s := by
  have hT : s.TypeIs (.ref e) "enumerate" := ⟨_, he, rfl⟩
  unfold pyNext
  refine wpAny_bind (wpAny_attempt (wpAny_callSpecial?_slot (name := Str.ofString "__next__") hT F.slot_enumerate_next (wpAny_call_entry F.slot_enumerate_next hT F.entry_enumerate_next ?_ (F.args_enumerate_next_1 _))))
  show wpAny _ _ (field (.ref e) 2 >>= _) _ _ _
  refine wpAny_bind (wpAny_field he rfl (x := .ref z) rfl ?_)
  unfold Builtin.SmallTypes.nextOf
  refine wpAny_bind (wpAny_bind (wpAny_callSpecial?_slot (name := Str.ofString "__next__") (zat_type st) F.slot_zip_next (wpAny_call_entry F.slot_zip_next (zat_type st) F.entry_zip_next (zat_next D st hl1 hl2 hx hy fun h1 st1 p1 sz1 k1 => wpAny_pure ?_) (F.args_zip_next_1 _))))
  simp only [List.mem_cons, List.not_mem_nil, or_false, not_or] at hez
  have e1 : IsEnum h1 e z k old := k1 _ _ (by simp [hez]) he
  obtain ⟨hp, gg, dd, tk, os⟩ := s
  have sz1 : h1.objs.size = hp.objs.size + 1 := sz1
  show wpAny _ _ (field (.ref e) 3 >>= _) _ _ ⟨h1, gg, dd, tk, os⟩
  refine wpAny_bind (wpAny_field e1 rfl (x := rawInt k) rfl ?_)
  show wpAny _ _ (field (.ref e) 4 >>= _) _ _ ⟨h1, gg, dd, tk, os⟩
  refine wpAny_bind (wpAny_field e1 rfl (x := .none) rfl ?_)
  show wpAny _ _ (mkInt k >>= _) _ _ ⟨h1, gg, dd, tk, os⟩
  refine wpAny_bind (wpAny_mkInt ?_)
  show wpAny _ _ (setField (.ref e) 3 (rawInt ((k : Int) + 1)) >>= _) _ _ ⟨h1, gg, dd, tk + 1, os⟩
  refine wpAny_bind (wpAny_setField_rec e1 (by simp) fun h2 e2 s2 => ?_)
  have e2 : IsEnum h2 e z ((k : Int) + 1) old := e2
  have s2 : Heap.SameBut e h1 h2 := s2
  show wpAny _ _ (setField (.ref e) 4 .none >>= _) _ _ ⟨h2, gg, dd, tk + 1, os⟩
  refine wpAny_bind (wpAny_setField_rec e2 (by simp) fun h3 e3 s3 => ?_)
  have e3 : IsEnum h3 e z ((k : Int) + 1) old := e3
  have s3 : Heap.SameBut e h2 h3 := s3
  show wpAny _ _ (newTuple [.int k tk, .ref hp.objs.size] >>= _) _ _ ⟨h3, gg, dd, tk + 1, os⟩
  refine wpAny_bind (wpAny_newTuple ?_)
  have z3 : h3.objs.size = hp.objs.size + 1 := by rw [s3.1, s2.1, sz1]
  have lt : e < hp.objs.size := Heap.lt_size he
  have e4 : IsEnum (h3.push { cls := .type "tuple", data := .seq #[.int k tk, .ref hp.objs.size] }) e z ((k : Int) + 1) old := Heap.get?_push_of_some _ e3
  have t4 : (h3.push { cls := .type "tuple", data := .seq #[.int k tk, .ref hp.objs.size] }).get? (hp.objs.size + 1) = some { cls := .type "tuple", data := .seq #[.int k tk, .ref hp.objs.size] } := by
    rw [← z3]; exact Heap.get?_push_size _ rfl
  have k4 : ∀ b o, b ≠ e → h1.get? b = some o → (h3.push { cls := .type "tuple", data := .seq #[.int k tk, .ref hp.objs.size] }).get? b = some o := fun b o n q => Heap.get?_push_of_some _ (s3.extBut b o n (s2.extBut b o n q))
  show wpAny _ _ (Builtin.SmallTypes.ownedTupleIsFree (.ref e) >>= _) _ _ ⟨h3.push { cls := .type "tuple", data := .seq #[.int k tk, .ref hp.objs.size] }, gg, dd, tk + 1, os⟩
  show wpAny _ _ _ _ _ _
  rw [z3]
  generalize h3.push { cls := .type "tuple", data := .seq #[.int k tk, .ref hp.objs.size] } = h4 at e4 t4 k4
  refine wpAny_bind ?_
  unfold Builtin.SmallTypes.ownedTupleIsFree
  refine wpAny_bind (wpAny_field e4 rfl (x := .none) rfl (wpAny_pure ?_))
  simp only [if_true]
  refine wpAny_bind (wpAny_rule ?_)
  refine wpAny_bind (wpAny_field e4 rfl (x := old) rfl ?_)
  refine wpAny_bind (wpAny_setField_rec e4 (by simp) fun h5 e5 s5 => ?_)
  have e5 : IsEnum h5 e z ((k : Int) + 1) (.ref hp.objs.size) := e5
  have s5 : Heap.SameBut e h4 h5 := s5
  show wpAny _ _ (Builtin.SmallTypes.ownedTupleHandOut (.ref e) (.ref (hp.objs.size + 1)) >>= _) _ _ ⟨h5, gg, dd, tk + 1, os⟩
  refine wpAny_bind ?_
  unfold Builtin.SmallTypes.ownedTupleHandOut
  refine wpAny_bind (wpAny_setField_rec e5 (by simp) fun h6 e6 s6 => ?_)
  have e6 : IsEnumOut h6 e z ((k : Int) + 1) (.ref hp.objs.size) (hp.objs.size + 1) := e6
  have s6 : Heap.SameBut e h5 h6 := s6
  refine wpAny_setField_rec e6 (by simp) fun h7 e7 s7 => ?_
  have e7 : IsEnumOut h7 e z ((k : Int) + 1) (.ref hp.objs.size) (hp.objs.size + 1) := e7
  have s7 : Heap.SameBut e h6 h7 := s7
  have up : ∀ b o, b ≠ e → h4.get? b = some o → h7.get? b = some o := fun b o n q => s7.extBut b o n (s6.extBut b o n (s5.extBut b o n q))
  have n1 : (hp.objs.size + 1 : Nat) ≠ e := fun z => absurd lt (by rw [← z]; exact Nat.not_lt_of_le (Nat.le_succ _))
  exact wpAny_bind (wpAny_letGo (wpAny_pure ⟨_, rfl, wpAny_pure (hQ h1 h7 sz1 p1 k1 st1 e7 (up _ _ n1 t4) fun b o n q => up b o n (k4 b o n q))⟩))
theorem ez_end {e : Addr} {old : Value} {Q : Option Value → Shared → Prop} (hh : A.handled = none) (D : ZipApart z TI TO i1 i2 l1 l2) (he : IsEnum s.heap e z k old) (st : ZAt .tup .tup s.heap z TI TO i1 i2 l1 l2 k) (hl1 : s.heap.IsTuple l1 xs) (hl2 : s.heap.IsTuple l2 ys) (hend : xs[k]? = none ∨ ys[k]? = none)
    (hQ : ∀ h', (∀ c o, c ∉ [z, TO, i1, i2] → s.heap.get? c = some o → h'.get? c = some o) → Q none { s with heap := h' }) : wpAny (model prog w) A (pyNext (.ref e)) Q E s := by
  have hT : s.TypeIs (.ref e) "enumerate" := ⟨_, he, rfl⟩
  unfold pyNext
  refine wpAny_bind (wpAny_attempt (wpAny_callSpecial?_slot (name := Str.ofString "__next__") hT F.slot_enumerate_next (wpAny_call_entry F.slot_enumerate_next hT F.entry_enumerate_next ?_ (F.args_enumerate_next_1 _))))
  show wpAny _ _ (field (.ref e) 2 >>= _) _ _ _
  refine wpAny_bind (wpAny_field he rfl (x := .ref z) rfl ?_)
  unfold Builtin.SmallTypes.nextOf
  refine wpAny_bind (wpAny_bind (wpAny_callSpecial?_slot (name := Str.ofString "__next__") (zat_type st) F.slot_zip_next (wpAny_call_entry F.slot_zip_next (zat_type st) F.entry_zip_next (zat_end hh D st hl1 hl2 hend fun h' x k1 hx => ?_) (F.args_zip_next_1 _))))
  obtain ⟨o, ho, hc⟩ := hx
  refine wpAny_bind (wpAny_isInstance (T := "StopIteration") (b := true) ⟨o, ho, hc⟩ isSubtype_stop ?_)
  exact wpAny_pure (hQ _ k1)
end
end N
set_option autoImplicit false
set_option Elab.async false
set_option linter.all false
set_option maxRecDepth 100000
set_option maxHeartbeats 4000000
namespace N
open PySem L2 PySem.Spec PyProof.Rows
/-! ### enumerate(zip(a, b)) as it is walked -/
/-- the tuples at a, b: a count, a pair, both new -/
def Iez (K : PySem.W.Frag) (a b : Addr) : It :=
  ⟨fun i H => ∃ (xs ys : List V) (x y : V), SqT K H a xs ∧ SqT K H b ys ∧ xs[i]? = some x ∧ ys[i]? = some y,
    fun i H v H' => ∃ T U x y, v = .ref U ∧ H T = none ∧ H U = none ∧ T ≠ U ∧ H' = upd (upd H T (.tup [x, y])) U (.tup [.int (i : Nat), .ref T]) ∧ (∀ xs, SqT K H a xs → xs[i]? = some x) ∧ ∀ ys, SqT K H b ys → ys[i]? = some y,
    fun i H => ∃ xs ys : List V, SqT K H a xs ∧ SqT K H b ys ∧ (xs.length ≤ i ∨ ys.length ≤ i)⟩
theorem turn_ez {P : Program} {w : World} {K : PySem.W.Frag} {elts : List Expr} {kk : Nat} {tpos : Pos} {a b e z TI TO i1 i2 : Addr} (D : ZipApart z TI TO i1 i2 a b) (hez : e ∉ [z, TI, TO, i1, i2]) :
    Turn P w K (.Tuple elts kk tpos) (Iez K a b) [e, z, TI, TO, i1, i2] e (fun i h => (∃ old, IsEnum h e z ((i : Nat) : Int) old) ∧ ZAt .tup .tup h z TI TO i1 i2 a b i) where
  mem := by simp
  obj := fun i h st c hc => by
    obtain ⟨⟨old, he⟩, sz⟩ := st
    obtain ⟨x, fl, _, hz⟩ := sz.z
    obtain ⟨u, v, hto⟩ := sz.to
    obtain ⟨o1, q1, _, d1⟩ := sz.a
    obtain ⟨o2, q2, _, d2⟩ := sz.b
    simp only [List.mem_cons, List.not_mem_nil, or_false] at hc
    rcases hc with q | q | q | q | q | q
    · rw [q]; exact ⟨_, he, fun v q => nomatch q⟩
    · rw [q]; exact ⟨_, hz, fun v q => nomatch q⟩
    · rw [q]; exact ⟨_, sz.ti, fun v q => nomatch q⟩
    · rw [q]; exact ⟨_, hto, fun v q => nomatch q⟩
    · rw [q]; exact ⟨o1, q1, fun v q => by rw [d1] at q; cases q⟩
    · rw [q]; exact ⟨o2, q2, fun v q => by rw [d2] at q; cases q⟩
  keep := fun i h h' st k => by
    obtain ⟨⟨old, he⟩, sz⟩ := st
    exact ⟨⟨old, k e (by simp) _ he⟩, sz.at fun c hc o q => k c (List.mem_cons_of_mem _ hc) o q⟩
  item := by
    intro X hP hw hK hc i pins s σ H E I hf st hg
    subst hP hw hK
    obtain ⟨⟨old, he⟩, sz⟩ := st
    obtain ⟨xs, ys, x, y, hqx, hqy, hx, hy⟩ := hg
    obtain ⟨its, rv, tp, _⟩ := I.tuple hqx
    obtain ⟨its2, rv2, tp2, _⟩ := I.tuple hqy
    obtain ⟨u, hu, ru⟩ := rv.get hx
    obtain ⟨u2, hu2, ru2⟩ := rv2.get hy
    have elt : e < s.heap.objs.size := Heap.lt_size he
    refine ez_next D he hez sz (show s.heap.IsTuple a its.toArray from tp) (show s.heap.IsTuple b its2.toArray from tp2) (x := u) (y := u2) (by simpa using hu) (by simpa using hu2) fun h1 h2 sz1 p1 k1 st1 e2 t2 k2 => ?_
    refine ⟨_, rfl, wpAny_letOwnedTupleGo_enum (s := { s with heap := h2, toks := s.toks + 1 }) e2 fun h3 e3 s3 => ?_⟩
    have k3 : ∀ c o, c ≠ e → h1.get? c = some o → h3.get? c = some o := fun c o n q => s3.extBut c o n (k2 c o n q)
    have n1 : s.heap.objs.size + 1 ≠ e := fun q => absurd elt (by rw [← q]; exact Nat.not_lt_of_le (Nat.le_succ _))
    have t3 : h3.get? (s.heap.objs.size + 1) = some { cls := .type "tuple", data := .seq #[.int i s.toks, .ref s.heap.objs.size] } := s3.extBut _ _ n1 t2
    have fresh1 : ObjOk X.prog X.w (upd H s.heap.objs.size (.tup [x, y])) h1 s.heap.objs.size (.tup [x, y]) := ⟨by show 2 ≤ sizeLine; decide, [u, u2], .cons ru (.cons ru2 .nil), ⟨_, p1, rfl, _, rfl⟩⟩
    have I1 : L2.Inv X pins σ (upd H s.heap.objs.size (.tup [x, y])) { s with heap := h1 } := I.turnedNew (t' := s.toks) (ch := [z, TO, i1, i2]) k1 (fun c hc => hf c (by
      simp only [List.mem_cons, List.not_mem_nil, or_false] at hc ⊢
      rcases hc with q | q | q | q <;> simp [q])) (Nat.le_refl _) fresh1
    have fe : FpOk X pins (upd H s.heap.objs.size (.tup [x, y])) e := by
      obtain ⟨f0, f⟩ := hf e (by simp)
      exact ⟨by rw [upd_ne (Nat.ne_of_lt elt)]; exact f0, f⟩
    have n0 : (s.heap.objs.size : Addr) ≠ s.heap.objs.size + 1 := Nat.ne_of_lt (Nat.lt_succ_self _)
    have fresh2 : ObjOk X.prog X.w (upd (upd H s.heap.objs.size (.tup [x, y])) (s.heap.objs.size + 1) (.tup [.int (i : Nat), .ref s.heap.objs.size])) h3 (s.heap.objs.size + 1) (.tup [.int (i : Nat), .ref s.heap.objs.size]) :=
      ⟨by show 2 ≤ sizeLine; decide, [.int i s.toks, .ref s.heap.objs.size], .cons ⟨_, rfl⟩ (.cons rfl .nil), ⟨_, t3, rfl, _, rfl⟩⟩
    have I2 := I1.turnedNew (t' := s.toks + 1) (ch := [e]) (h' := h3) (fun c o hc q => k3 c o (fun q => hc (by simp [q])) q) (fun c hc => by rw [List.mem_singleton.mp hc]; exact fe) (Nat.le_of_eq sz1) fresh2
    refine ⟨.ref (s.heap.objs.size + 1), _, I2, rfl, ⟨s.heap.objs.size, s.heap.objs.size + 1, x, y, rfl, I.hok.fresh (Nat.le_refl _), I.hok.fresh (Nat.le_succ _), n0, rfl, fun l hl => by rw [I.tuple_inj hl hqx]; exact hx, fun l hl => by rw [I.tuple_inj hl hqy]; exact hy⟩, ⟨⟨.ref s.heap.objs.size, ?_⟩, st1.at fun c hc o q => k3 c o (fun q => hez (by rw [← q]; exact hc)) q⟩, fun c hc => ?_⟩
    · rw [show ((i + 1 : Nat) : Int) = (i : Int) + 1 by omega]; exact e3
    · have hlt : c < s.heap.objs.size := by
        obtain ⟨o, q, _⟩ : ∃ o, s.heap.get? c = some o ∧ True := by
          obtain ⟨x, fl, _, hz⟩ := sz.z
          obtain ⟨u, v, hto⟩ := sz.to
          obtain ⟨o1, q1, _, d1⟩ := sz.a
          obtain ⟨o2, q2, _, d2⟩ := sz.b
          simp only [List.mem_cons, List.not_mem_nil, or_false] at hc
          rcases hc with q | q | q | q | q | q
          · rw [q]; exact ⟨_, he, trivial⟩
          · rw [q]; exact ⟨_, hz, trivial⟩
          · rw [q]; exact ⟨_, sz.ti, trivial⟩
          · rw [q]; exact ⟨_, hto, trivial⟩
          · rw [q]; exact ⟨_, q1, trivial⟩
          · rw [q]; exact ⟨_, q2, trivial⟩
        exact Heap.lt_size q
      rw [upd_ne (Nat.ne_of_lt (Nat.lt_succ_of_lt hlt)), upd_ne (Nat.ne_of_lt hlt)]
      exact (hf c hc).1
  done := by
    intro X hP hw hK hc i pins s σ H E I hf st hg
    subst hP hw hK
    obtain ⟨⟨old, he⟩, sz⟩ := st
    obtain ⟨xs, ys, hqx, hqy, hend⟩ := hg
    obtain ⟨its, rv, tp, _⟩ := I.tuple hqx
    obtain ⟨its2, rv2, tp2, _⟩ := I.tuple hqy
    have l1 := rv.length
    have l2 := rv2.length
    refine ez_end (I.ok.hd hc) D he sz (show s.heap.IsTuple a its.toArray from tp) (show s.heap.IsTuple b its2.toArray from tp2) (by
      rcases hend with q | q
      · exact .inl (by simp; omega)
      · exact .inr (by simp; omega)) fun h' k1 => ⟨rfl, I.turnedL (t' := s.toks) (ch := [z, TO, i1, i2]) k1 fun c hc => hf c (by
      simp only [List.mem_cons, List.not_mem_nil, or_false] at hc ⊢
      rcases hc with q | q | q | q <;> simp [q])⟩
  self := fun A i s Q E st h => let ⟨⟨_, he⟩, _⟩ := st; wpAny_pyIter_enum he h
section
variable {X : Cx}
theorem yields_ez {K : PySem.W.Frag} {ρ0 : List Addr} {H0 : Hp} {a b : Addr} {ds es : List D} {vs ws : List V} (ea : H0 a = some (.tup vs)) (eb : H0 b = some (.tup ws)) (rs : VRs ρ0 H0 ds vs) (rs' : VRs ρ0 H0 es ws) : Yields K (Iez K a b) ρ0 H0 (enumV (zipV ds es)) [] := by
  intro i ρ H S gg s ok
  have q := SqT.of (K := K) (gg.tup ea)
  have q' := SqT.of (K := K) (gg.tup eb)
  have rs := rs.go gg
  have rs' := rs'.go gg
  refine ⟨fun hl => ⟨vs, ws, q, q', ?_⟩, fun d hd => ?_⟩
  · unfold enumV zipV at hl
    rw [List.length_map, List.length_zipIdx, List.length_map, List.length_zip, rs.len, rs'.len] at hl
    omega
  · unfold enumV zipV at hd
    rw [List.getElem?_map, List.getElem?_zipIdx, List.getElem?_map] at hd
    obtain ⟨p, hp, rfl⟩ := Option.map_eq_some_iff.mp hd
    obtain ⟨p2, hq, rfl⟩ := Option.map_eq_some_iff.mp hp
    obtain ⟨p3, hr, rfl⟩ := Option.map_eq_some_iff.mp hq
    obtain ⟨hp1, hp2⟩ := List.getElem?_zip_eq_some.mp hr
    obtain ⟨v, e1, r⟩ := rs.get hp1
    obtain ⟨w, e2, r'⟩ := rs'.get hp2
    refine ⟨⟨vs, ws, v, w, q, q', e1, e2⟩, fun x H' y => ?_⟩
    obtain ⟨T, U, z1, z2, rfl, hT, hU, hn, rfl, y1, y2⟩ := y
    have t1 := y1 vs q
    have t2 := y2 ws q'
    rw [e1] at t1
    rw [e2] at t2
    cases t1
    cases t2
    obtain ⟨g1, s1, r1⟩ := laid_pair s hT r r'
    have hU' : upd H T (.tup [v, w]) U = none := by rw [upd_ne (Ne.symm hn)]; exact hU
    obtain ⟨g2, s2, r2⟩ := laid_pair s1 hU' (.int ((i : Nat) : Int)) r1
    refine ⟨g1.trans g2, s2, ?_⟩
    rw [Nat.zero_add]
    exact r2
theorem enumZipMeets (z TI TO : Addr) (f0 : Value) :
    Meets (Builtin.«enumerate.__new__» ⟨[.type "enumerate", .ref z], []⟩) (fun _ R s => IsZip s.heap z TI TO f0 ∧
      R (.ok (.ret (.ref s.heap.objs.size))) { s with heap := s.heap.push { cls := .type "enumerate", data := .fields #[.none, .bool false, .ref z, rawInt 0, .none, .none] } }) :=
  .of_wp fun prog w A R st pre => by
    obtain ⟨hp, g, d, tk, os⟩ := st
    obtain ⟨isZ, post⟩ := pre
    have sub := sub_enumerate
    have begin_ : ∀ {A' : Around} {E : Value → Shared → Prop} {Q : Value → Shared → Prop}, Q (.ref z) ⟨hp, g, d, tk, os⟩ → wpAny (model prog w) A' (pyIter (.ref z)) Q E ⟨hp, g, d, tk, os⟩ :=
      fun q => wpAny_pyIter_zip (s := ⟨hp, g, d, tk, os⟩) isZ q
    wp_walk using begin_
    refine wpAny_stack_any fun _ => wpAny_pure ?_
    split
    · rename_i c _ _ _ _ _
      cases (c == Value.type "enumerate")
      all_goals
        wp_walk using begin_
        exact ⟨_, rfl, post⟩
    · wp_walk using begin_
      exact ⟨_, rfl, post⟩
theorem call_enumZ {prog : Program} {w : World} {A : Around} {E : Value → Shared → Prop} {s : Shared} {z TI TO : Addr} {f0 : Value} {Q : Value → Shared → Prop} (hZ : IsZip s.heap z TI TO f0)
    (h : ∀ h', IsEnum h' s.heap.objs.size z 0 .none → (∀ b o, s.heap.get? b = some o → h'.get? b = some o) → Q (.ref s.heap.objs.size) { s with heap := h' }) :
    wpAny (model prog w) A (call (.type "enumerate") [.ref z]) Q E s := by
  refine callType_new F.called_enumerate (by decide) (F.typeCall_enumerate_1 _) (F.newCall_enumerate_1 _) (fun obj => F.args_object_init_2 obj _) F.entry_enumerate_new (enumZipMeets z TI TO f0) ⟨hZ, ?_⟩
  have isE : IsEnum (s.heap.push { cls := .type "enumerate", data := .fields #[.none, .bool false, .ref z, rawInt 0, .none, .none] }) s.heap.objs.size z 0 .none := Heap.get?_push_size _ rfl
  exact ⟨⟨_, isE, rfl⟩, h _ isE fun b o e => Heap.get?_push_of_some _ e⟩
theorem si_enumz {E E2 : Expr} {x y : Ex} {elts : List Expr} {kk : Nat} {p p2 pos pos2 tpos : Pos} (hg : Gl X "enumerate") (hm : X.mg "enumerate" = none) (hg2 : Gl X "zip") (hm2 : X.mg "zip" = none) (he : SE X E (evalE x)) (he2 : SE X E2 (evalE y))
    (hs : starEach [E, E2] X.env = (false, eval E X.env) :: starEach [E2] X.env) (hs2 : starEach [E2] X.env = (false, eval E2 X.env) :: starEach [] X.env) (hpl : (backTo pos2 (starEach [E2] X.env)).any (·.1) = false) :
    SI X (.Tuple elts kk tpos) (.Call (.Name "enumerate" p) [.Call (.Name "zip" p2) [E, E2] [] pos2] [] pos) (evalIt (.enumz x y)) := by
  refine ⟨fun pins s σ H R I h => ?_⟩
  obtain ⟨ρ, e, S, ds, g, S', h1, h2, h3, k⟩ := h
  simp only [evalIt] at h3
  split at h3
  · cases h3
  rename_i d S1 e1
  split at h3
  · cases h3
  rename_i d2 S2 e2
  split at h3
  · cases h3
  rename_i xs g' e3
  cases h3
  unfold zipT at e3
  split at e3
  · cases e3
    rename_i as bs
    refine Call_ (ld_blt I hg hm boot_enumerate (PyProof.Rows.callWith_type1 (PyProof.Rows.args_cons ?_ rfl) rfl rfl))
    refine Call_ (ld_blt I hg2 hm2 PyProof.Rows.boot_zip (PyProof.Rows.callWith_type1 (thn ((pa_cons he (pa_cons he2 pa_nil hs2) hs).run pos2 pins s σ H (fun vs H1 => ∃ ρ1 v1 v2, vs = [v1, v2] ∧ Go ρ H ρ1 H1 ∧ SR X.K ρ1 H1 S' ∧ VR ρ1 H1 (.tup as) v1 ∧ VR ρ1 H1 (.tup bs) v2) I ⟨ρ, e, S, _, S1, h1, h2, e1, fun ρ1 H1 v1 g1 s1 r1 => ⟨ρ1, e, S1, _, _, h1.go g1, s1, e2, fun ρ2 H2 v2 g2 s2 r2 => ⟨ρ2, v1, v2, rfl, g1.trans g2, s2, r1.go g2, r2⟩⟩⟩) fun us s1 ⟨vs, H1, I1, r1, ρ1, v1, v2, ev, g1, hS, ra, rb⟩ => ?_) hs hpl))
    subst ev
    cases r1 with
    | cons r r' =>
      cases r' with
      | cons r' rr =>
        cases rr
        cases ra with
        | tup ea rs =>
          cases rb with
          | tup eb rs' =>
            rename_i a vs b ws
            cases r
            cases r'
            obtain ⟨its, rv, p1, _⟩ := I1.tuple (.of ea)
            obtain ⟨its2, rv2, q1, _⟩ := I1.tuple (.of eb)
            obtain ⟨o1, ho1, _⟩ := id p1
            obtain ⟨o2, ho2, _⟩ := id q1
            refine RZ.call_zipT (show s1.heap.IsTuple a its.toArray from p1) (show s1.heap.IsTuple b its2.toArray from q1) fun h' hz hTI hTO i1 i2 hsz hk => ?_
            refine PyProof.Rows.args_nil ?_
            refine call_enumZ (s := { s1 with heap := h' }) hz fun h2 hE hk2 => wpAny_pyIter_enum hE ?_
            have I2 : L2.Inv X pins σ H1 { s1 with heap := h2 } := I1.kept (t' := s1.toks) fun c o q => hk2 c o (hk c o q)
            have hE : IsEnum h2 (s1.heap.objs.size + 5) (s1.heap.objs.size + 4) 0 .none := by rw [← hsz]; exact hE
            show PIE X pins σ _ R (.ref h'.objs.size) { s1 with heap := h2 }
            rw [hsz]
            refine ⟨s1.heap.objs.size + 5, [s1.heap.objs.size + 5, s1.heap.objs.size + 4, s1.heap.objs.size + 2, s1.heap.objs.size + 3, s1.heap.objs.size, s1.heap.objs.size + 1], _, _, H1, rfl, I2, turn_ez (PySem.W.ktu_apart s1.heap.objs.size a b (Heap.lt_size ho1) (Heap.lt_size ho2)) ?_, ⟨⟨.none, hE⟩, ⟨⟨.none, false, .inl rfl, hk2 _ _ hz⟩, hk2 _ _ hTI, ⟨_, _, hk2 _ _ hTO⟩, i1.at fun o q => hk2 _ o q, i2.at fun o q => hk2 _ o q⟩⟩, fun c hc => ?_, k ρ1 H1 _ g1 hS (yields_ez ea eb rs rs')⟩
            · simp only [List.mem_cons, List.not_mem_nil, or_false, not_or]
              have n : ∀ {i j : Nat}, i ≠ j → (s1.heap.objs.size + i : Nat) ≠ s1.heap.objs.size + j := fun h q => h (Nat.add_left_cancel q)
              exact ⟨n (by decide), n (by decide), n (by decide), n (i := 5) (j := 0) (by decide), n (by decide)⟩
            · have hle : s1.heap.objs.size ≤ c := by
                simp only [List.mem_cons, List.not_mem_nil, or_false] at hc
                rcases hc with z | z | z | z | z | z
                · rw [z]; exact Nat.le_add_right _ _
                · rw [z]; exact Nat.le_add_right _ _
                · rw [z]; exact Nat.le_add_right _ _
                · rw [z]; exact Nat.le_add_right _ _
                · rw [z]; exact Nat.le_refl _
                · rw [z]; exact Nat.le_add_right _ _
              exact I1.fpOk hle (I1.hok.fresh hle)
  · cases e3
end
end N
set_option autoImplicit false
set_option Elab.async false
set_option linter.all false
set_option maxRecDepth 100000
set_option maxHeartbeats 4000000
/-! dict comprehensions whose keys are ints, texts or tuples of these -/
namespace N
open PySem L2 PySem.Spec PyProof.Rows
/-- a new dict may be told anew, for keys of the other sort -/
def Re (D : Addr) (H H' : Hp) : Prop := H' = H ∨ (H D = some (.dK []) ∧ H' = upd H D (.dT [])) ∨ (H D = some (.dT []) ∧ H' = upd H D (.dK []))
section
variable {X : Cx}
theorem Re.inv {pins : List (Addr × Obj)} {σ : L2.St} {H H' : Hp} {s : Shared} {D : Addr} (I : L2.Inv X pins σ H s) (r : Re D H H') : L2.Inv X pins σ H' s := by
  rcases r with rfl | ⟨e, rfl⟩ | ⟨e, rfl⟩
  · exact I
  · exact emptyT I e
  · exact emptyK I e
/-- the pair goes into the dict -/
theorem put_pair {pins : List (Addr × Obj)} {σ : L2.St} {H H' : Hp} {s : Shared} {D : Addr} {y v : V} {u r : Value} {E : Value → Shared → Prop} {Q : Unit → Shared → Prop} (hu : X.A.units < cLine) (I : L2.Inv X pins σ H s) (g : DPut H D y v H') (ry : RelV y u) (rv : RelV v r)
    (h : ∀ s', L2.Inv X pins σ H' s' → Q () s') : wpAny (model X.prog X.w) X.A (dictSet D u r) Q E s := by
  rcases g with ⟨kvs, k, e, rfl, hl, rfl⟩ | ⟨kvs, k, b, e, rfl, eb, hl, rfl⟩
  · exact d_dictSet I e hl ry rv h
  · obtain rfl : u = Value.ref b := ry
    obtain ⟨z, hd, xs, rel, dd⟩ := dt_of I.hok e
    have hz : xs.length ≤ sizeLine := by rw [← Paired.length rel]; exact z
    have hn : (putK kvs k v).length ≤ sizeLine := Nat.le_trans (length_putK kvs k v) hl
    refine wpAny_dictSet_heap (hsz := hz) (show (tupleKind (mixKind X.prog X.w)).room X.A from hu) (key_of I.hok eb) dd fun h' dd' hs => h _ ?_
    obtain ⟨q, es, ep, hq, c1, c2, c3, _, c4⟩ := dd'
    refine d_write I (by rw [e]; trivial) hs ⟨q, hq⟩ ⟨hn, hd, _, (rel.put k eb rv).keeps fun c ys ec => ?_, q, es, ep, hq, c1, c2, c3, c4⟩
    rw [upd_ne (ne_of ec e (fun z => nomatch z))]
    exact ec
/-- one turn's work with what is drawn, toward Nx -/
abbrev DStep (σ : L2.St) (vs : List Nat) (D : Addr) (tt : TT) (tk tv : TE) (Nx : Hp → Prop) : L2.St → Hp → Prop := fun σ2 H2 =>
  L2.wipe σ2 vs = L2.wipe σ vs ∧ tt σ2 H2 fun b H3 => if b = true then tk σ2 H3 fun y H4 => tv σ2 H4 fun z H5 => ∃ H6 H7, Re D H5 H6 ∧ DPut H6 D y z H7 ∧ Nx H7 else Nx H3
/-- how the comprehension may go on with the walk J, D the new dict -/
abbrev DGoes (J : It) (g : TG) (tt : TT) (tk tv : TE) (vs : List Nat) (σ : L2.St) (D : Addr) (W : Nat → Nat → Hp → Prop) (Q : VK) : Prop := ∀ i m H, W i m H →
  (J.stop i H ∧ Q (.ref D) H) ∨ (J.go i H ∧ ∃ Nx : Hp → Prop, (∀ H', Nx H' → ∃ m', m' < m ∧ W (i + 1) m' H') ∧ ∀ x H', J.yld i H x H' → g x (L2.wipe σ vs) H' (DStep σ vs D tt tk tv Nx))
def tDcN (wi : TI) (g : TG) (tt : TT) (tk tv : TE) (vs : List Nat) : TE := fun σ H Q => wi σ H fun J H1 => ∀ D, H1 D = none → ∃ W : Nat → Nat → Hp → Prop, (∃ m, W 0 m (upd H1 D (.dK []))) ∧ DGoes J g tt tk tv vs σ D W Q
section
variable {pins : List (Addr × Obj)} {s : Shared} {σ : L2.St} {H : Hp} {Q : VK} {kx vx tg iter : Expr} {ifs : List Expr} {scope : Scope} {own : List (Str × Nat)} {pos pos' : Pos} {wi : TI} {g : TG} {tt : TT} {tk tv : TE}
/-- the block's loop: B its context, ce its frame -/
theorem dcm_loop {J : It} {fp : List Addr} {it D : Addr} {tn : Nat → Heap → Prop} {W : Nat → Nat → Hp → Prop} {B : Cx} {R : PySem.Result → Shared → Prop} {σ0 : L2.St} (hc : B.calm = true) (hu : B.A.units < cLine)
    (T : Turn B.prog B.w B.K tg J fp it tn) (pg : PG B tg g) (pt : PTs B ifs tt) (pk : PE B kx tk) (pv : PE B vx tv) (hx : B.xe = fun e s' => False)
    (stat : ∀ {σ' : L2.St} {H' : Hp} {s' : Shared}, L2.Inv B [] σ' H' s' → (∀ b ∈ fp, H' b = none) → ∀ b ∈ fp, FpOk B [] H' b)
    (go : DGoes J g tt tk tv (own.map (·.2)) σ0 D W Q) (fin : ∀ H' s', L2.Inv B [] (L2.wipe σ0 (own.map (·.2))) H' s' → Q (.ref D) H' → R (.ok .next) s') {m0 : Nat} {H0 : Hp} {s0 : Shared} (I0 : L2.Inv B [] (L2.wipe σ0 (own.map (·.2))) H0 s0) (st0 : tn 0 s0.heap) (n0 : ∀ b ∈ fp, H0 b = none) (w0 : W 0 m0 H0) :
    codeAny (model B.prog B.w) B.A (.compLoop (.DictComp kx vx [⟨tg, iter, ifs, 0⟩] scope pos) 0 (.ref it) (.ref D) B.env) R s0 := by
  refine compLoop_anyD (fun n s' => ∃ i H', L2.Inv B [] (L2.wipe σ0 (own.map (·.2))) H' s' ∧ tn i s'.heap ∧ (∀ b ∈ fp, H' b = none) ∧ W i n H') ?_ m0 ⟨0, H0, I0, st0, n0, w0⟩
  rintro n s5 ⟨i, H5, I5, st5, n5, w5⟩
  rcases go i n H5 w5 with ⟨stop, q5⟩ | ⟨goes, Nx, hNx, step⟩
  · refine thnF (T.done B rfl rfl rfl hc i [] s5 _ H5 (fun _ _ => False) I5 (stat I5 n5) st5 stop) fun r s6 ⟨hr, I6⟩ => ?_
    rw [hr]
    exact fin H5 s6 I6 q5
  · refine thnF (T.item B rfl rfl rfl hc i [] s5 _ H5 (fun _ _ => False) I5 (stat I5 n5) st5 goes) fun r s6 ⟨u, hr, h6⟩ => ?_
    rw [hr]
    refine thnF h6 fun _ s7 ⟨x, H7, I7, r7, y7, st7, n7⟩ => ?_
    have I7' := I7.pinned (stat I7 n7) (T.obj _ _ st7)
    have pg' := pg.run _ s7 _ H7 x u _ I7' r7 (step x H7 y7)
    rw [hx] at pg'
    refine thnF pg' fun _ s8 ⟨σ8, H8, I8, hw8, q8⟩ => ?_
    have pt' := pt.run _ s8 σ8 H8 _ I8 q8
    rw [hx] at pt'
    refine thnF pt' fun b s9 ⟨H9, I9, q9⟩ => ?_
    -- a turn is done
    have next : ∀ {s' : Shared} {H' : Hp}, L2.Inv B ([] ++ pinsAt fp s7.heap) σ8 H' s' → Nx H' → ∃ m, m < n ∧ ∃ i H', L2.Inv B [] (L2.wipe σ0 (own.map (·.2))) H' s' ∧ tn i s'.heap ∧ (∀ b ∈ fp, H' b = none) ∧ W i m H' := by
      intro s' H' I' nx
      obtain ⟨m', hm, w'⟩ := hNx H' nx
      have pin : ∀ b ∈ fp, ∀ o, s7.heap.get? b = some o → s'.heap.get? b = some o ∧ H' b = none := by
        intro b hb o e
        have z := I'.pin (b, o) (List.mem_append_right _ (List.mem_append_right _ (mem_pinsAt hb e)))
        exact ⟨z.1, z.2.1⟩
      refine ⟨m', hm, i + 1, H', (I'.unpinned (pins := [])).weak (by rw [← hw8, L2.wipe_length]) fun j v e => ?_, T.keep _ _ _ st7 fun b hb o e => (pin b hb o e).1, fun b hb => ?_, w'⟩
      · rw [← hw8] at e
        exact (L2.wipe_some e).1
      · obtain ⟨o, e, _⟩ := T.obj _ _ st7 b hb
        exact (pin b hb o e).2
    cases b with
    | false =>
      simp only [Bool.false_eq_true, if_false] at q9 ⊢
      exact next I9 q9
    | true =>
      simp only [if_true] at q9 ⊢
      have pk' := pk.run _ s9 σ8 H9 _ I9 q9
      rw [hx] at pk'
      refine thnF pk' fun uk s10 ⟨yk, H10, I10, r10, q10⟩ => ?_
      have pv' := pv.run _ s10 σ8 H10 _ I10 q10
      rw [hx] at pv'
      refine thnF pv' fun uv s11 ⟨yv, H11, I11, r11, H12, H13, re, dp, nx⟩ => ?_
      exact put_pair hu (re.inv I11) dp r10 r11 fun s12 I12 => next I12 nx
/-- the whole comprehension, what comes of it used by `use` -/
theorem dcm_core {use : Option (Value → Sem Unit)} {Qf : Value → Shared → Prop} (I : L2.Inv X pins σ H s) (h : tDcN wi g tt tk tv (own.map (·.2)) σ H Q) (hc : X.calm = true) (hu : X.A.units < cLine) (hN : X.N.Nodup) (hi : PI X tg iter wi) (ok : BlkOk X.N X.env.scope scope own)
    (hg : ∀ (s : Shared) (H : Hp) (C : Addr) (cl : List (Str × Addr)) (fp : List Addr), PG (X.blk s H scope (compEnvC scope cl C X.env) fp) tg g)
    (ht : ∀ (s : Shared) (H : Hp) (C : Addr) (cl : List (Str × Addr)) (fp : List Addr), PTs (X.blk s H scope (compEnvC scope cl C X.env) fp) ifs tt)
    (hk : ∀ (s : Shared) (H : Hp) (C : Addr) (cl : List (Str × Addr)) (fp : List Addr), PE (X.blk s H scope (compEnvC scope cl C X.env) fp) kx tk)
    (hv : ∀ (s : Shared) (H : Hp) (C : Addr) (cl : List (Str × Addr)) (fp : List Addr), PE (X.blk s H scope (compEnvC scope cl C X.env) fp) vx tv)
    (hs : ∀ x, foldedSetIterable iter X.env x = pure x)
    (hRR : ∀ D C s' m H', L2.Inv X pins σ H' s' → Q (.ref D) H' → s'.heap.Ns C m → FpOk X pins H' C → compPost (model X.prog X.w) X.A X.xe use Qf (.ref D) C (.ok .next) s') :
    wpAny (model X.prog X.w) X.A (comprehension (.DictComp kx vx [⟨tg, iter, ifs, 0⟩] scope pos) scope X.env pos' newDict false (eval iter X.env) use) Qf X.xe s := by
  have hfree : ∀ y ∈ scope.names, y.2 = .free → ∃ c, X.env.cells.lookup y.1 = some c := fun y hy e => (ok.free y hy e).elim (fun k => I.ok.has _ (.inl k)) fun k => I.ok.has _ (.inr k)
  refine wpAny_comprehension_free (use := use) rfl hs (closure_ok hfree) ok.kind (fun y hy e => by rw [ok.uniq y hy, e]) (thn (hi.run pins s σ H _ I h) fun xv s1 hx => thn hx fun itv s2 h2 => ?_)
  obtain ⟨it, fp, tn, J, H2, rfl, I2, T, st2, f2, q⟩ := h2
  refine wpAny_newObj_type (newEnv_comp ?_)
  have lt2 : ∀ b ∈ fp, b < s2.heap.objs.size := fun b hb => let ⟨o, e, _⟩ := T.obj _ _ st2 b hb; Heap.lt_size e
  generalize hD : s2.heap.objs.size = D at lt2
  obtain ⟨W, ⟨m0, w0⟩, turn⟩ := q D (I2.hok.fresh (Nat.le_of_eq hD))
  -- the new dict
  generalize hs3 : ({ s2 with heap := s2.heap.push { cls := .type "dict", data := .dict #[] } } : Shared) = s3
  have h3 : s3.heap = s2.heap.push { cls := .type "dict", data := .dict #[] } := by rw [← hs3]
  have keep3 : ∀ b o, s2.heap.get? b = some o → s3.heap.get? b = some o := fun b o e => by rw [h3]; exact Heap.get?_push_of_some _ e
  have I3 : L2.Inv X pins σ (upd H2 D (.dK [])) s3 := by
    rw [← hs3]
    refine I2.laid (t' := s2.toks) (fun b o e => Heap.get?_push_of_some _ e) (Nat.le_of_eq hD) ?_
    subst hD
    exact dk_empty s2.heap I2.big
  have f3 : ∀ b ∈ fp, FpOk X pins (upd H2 D (.dK [])) b ∧ b < s3.heap.objs.size := fun b hb => by
    obtain ⟨z0, z⟩ := f2 b hb
    refine ⟨⟨by rw [upd_ne (Nat.ne_of_lt (lt2 b hb))]; exact z0, z⟩, ?_⟩
    rw [h3, Heap.size_push, hD]
    exact Nat.lt_succ_of_lt (lt2 b hb)
  have I4 := block_start I3 ok hN f3
  generalize hH3 : upd H2 D (.dK []) = H3 at I3 I4 w0 f3
  generalize hcl : cellsFrom (s3.heap.objs.size + 1) scope.names (cloFrom X.env.cells scope.names []) = cl at I4
  generalize hB : X.blk s3 H3 scope (compEnvC scope cl s3.heap.objs.size X.env) fp = B at I4
  have n3 : ∀ b ∈ fp, H3 b = none := fun b hb => (f3 b hb).1.1
  have keep4 : ∀ b o, s2.heap.get? b = some o → (pushCells (s3.heap.push { cls := .type "dict", data := .dict #[] }) scope.names).get? b = some o := fun b o e => pushCells_keeps _ _ _ _ (Heap.get?_push_of_some _ (keep3 b o e))
  have st4 : tn 0 (pushCells (s3.heap.push { cls := .type "dict", data := .dict #[] }) scope.names) := T.keep _ _ _ st2 fun b _ o e => keep4 b o e
  have stat : ∀ {σ' : L2.St} {H' : Hp} {s' : Shared}, L2.Inv B [] σ' H' s' → (∀ b ∈ fp, H' b = none) → ∀ b ∈ fp, FpOk B [] H' b := by
    intro σ' H' s' I' hn b hb
    subst hB
    exact ⟨hn b hb, (I'.ok.exf b hb).1, I'.ok.exfs b hb, .inl hb, fun x c e => (I'.ok.exf b hb).2 x c e, fun p hp => absurd (show p ∈ ([] : List (Addr × Obj)) ++ [] from hp) (by simp)⟩
  have eB : B.prog = X.prog ∧ B.w = X.w ∧ B.K = X.K ∧ B.A = X.A ∧ B.calm = X.calm ∧ B.env = compEnvC scope cl s3.heap.objs.size X.env ∧ B.xe = fun _ _ => False := by subst hB; exact ⟨rfl, rfl, rfl, rfl, rfl, rfl, rfl⟩
  obtain ⟨b1, b2, b3, b4, b5, b6, b7⟩ := eB
  have pg : PG B tg g := by rw [← hB]; exact hg _ _ _ _ _
  have pt : PTs B ifs tt := by rw [← hB]; exact ht _ _ _ _ _
  have pk : PE B kx tk := by rw [← hB]; exact hk _ _ _ _ _
  have pv : PE B vx tv := by rw [← hB]; exact hv _ _ _ _ _
  have T' : Turn B.prog B.w B.K tg J fp it tn := by rw [b1, b2, b3]; exact T
  have loop := dcm_loop (iter := iter) (scope := scope) (pos := pos) (R := compPost (model X.prog X.w) X.A X.xe use Qf (.ref D) s3.heap.objs.size) (by rw [b5]; exact hc) (by rw [b4]; exact hu) T' pg pt pk pv b7 stat turn (fun H' s' I' q' => ?_) I4 st4 n3 w0
  · rw [b1, b2, b4, b6] at loop
    subst hcl
    exact codeAny_compStart_dict loop (T.self X.A 0 _ _ _ st4 loop)
  · -- back in the def's frame
    subst hB
    have I7 : L2.Inv X pins σ H' s' := I3.call' (ch := fp) I'.os I'.base I'.hok I'.bare fun b hb => by
      obtain ⟨_, z1, _, z3, z4, z5⟩ := (f3 b hb).1
      exact ⟨z3, z1, z4, z5⟩
    obtain ⟨m, hn, _⟩ := I'.loc
    exact hRR D _ s' m H' I7 q' hn (I3.fpOk (Nat.le_refl _) (show H' s3.heap.objs.size = none from I'.free))
end
section
variable {kx vx tg iter : Expr} {ifs : List Expr} {scope : Scope} {own : List (Str × Nat)} {pos : Pos} {wi : TI} {g : TG} {tt : TT} {tk tv : TE}
/-- as a value -/
theorem pe_dcN (hc : X.calm = true) (hu : X.A.units < cLine) (hN : X.N.Nodup) (hi : PI X tg iter wi) (ok : BlkOk X.N X.env.scope scope own)
    (hg : ∀ (s : Shared) (H : Hp) (C : Addr) (cl : List (Str × Addr)) (fp : List Addr), PG (X.blk s H scope (compEnvC scope cl C X.env) fp) tg g)
    (ht : ∀ (s : Shared) (H : Hp) (C : Addr) (cl : List (Str × Addr)) (fp : List Addr), PTs (X.blk s H scope (compEnvC scope cl C X.env) fp) ifs tt)
    (hk : ∀ (s : Shared) (H : Hp) (C : Addr) (cl : List (Str × Addr)) (fp : List Addr), PE (X.blk s H scope (compEnvC scope cl C X.env) fp) kx tk)
    (hv : ∀ (s : Shared) (H : Hp) (C : Addr) (cl : List (Str × Addr)) (fp : List Addr), PE (X.blk s H scope (compEnvC scope cl C X.env) fp) vx tv)
    (hs : ∀ x, foldedSetIterable iter X.env x = pure x) : PE X (.DictComp kx vx [⟨tg, iter, ifs, 0⟩] scope pos) (tDcN wi g tt tk tv (own.map (·.2))) := by
  refine ⟨fun pins s σ H Q I h => ?_⟩
  rw [arm_eval_DictComp]
  refine dcm_core (use := none) (Qf := EP X pins σ Q) I h hc hu hN hi ok hg ht hk hv hs fun D C s' m H' I' q hn f => ⟨m, hn, fun h2 sb => ?_⟩
  obtain ⟨f0, f1, _, f4, f5, f6⟩ := f
  exact ⟨.ref D, H', I'.turned (t' := s'.toks) (fun b o hb e => (sb.2 b hb).trans e) f0 f1 f4 f5 f6, rfl, q⟩
/-- stored at once in a local name on its line -/
theorem ps_setDcN {i : Nat} {nm : Str} {py spos : Pos} (hnm : X.N[i]? = some nm) (hloc : X.env.scope.names.lookup nm = some .local) (hsw : swapsWith (.DictComp kx vx [⟨tg, iter, ifs, 0⟩] scope pos) (some (.Name nm py)) spos.line X.env = pure true)
    (hc : X.calm = true) (hu : X.A.units < cLine) (hN : X.N.Nodup) (hi : PI X tg iter wi) (ok : BlkOk X.N X.env.scope scope own)
    (hg : ∀ (s : Shared) (H : Hp) (C : Addr) (cl : List (Str × Addr)) (fp : List Addr), PG (X.blk s H scope (compEnvC scope cl C X.env) fp) tg g)
    (ht : ∀ (s : Shared) (H : Hp) (C : Addr) (cl : List (Str × Addr)) (fp : List Addr), PTs (X.blk s H scope (compEnvC scope cl C X.env) fp) ifs tt)
    (hk : ∀ (s : Shared) (H : Hp) (C : Addr) (cl : List (Str × Addr)) (fp : List Addr), PE (X.blk s H scope (compEnvC scope cl C X.env) fp) kx tk)
    (hv : ∀ (s : Shared) (H : Hp) (C : Addr) (cl : List (Str × Addr)) (fp : List Addr), PE (X.blk s H scope (compEnvC scope cl C X.env) fp) vx tv)
    (hs : ∀ x, foldedSetIterable iter X.env x = pure x) : PS X (.Assign [.Name nm py] (.DictComp kx vx [⟨tg, iter, ifs, 0⟩] scope pos) spos) (tAsg (tDcN wi g tt tk tv (own.map (·.2))) (gName i)) := by
  refine ⟨fun pins s σ H De I h => ?_⟩
  rw [exec_Assign_Name_used _ _ _ _ hsw]
  have h : tDcN wi g tt tk tv (own.map (·.2)) σ H (fun x H1 => gName i x σ H1 De.nx) := h
  refine wpAny_bind (wpAny_standAt (wpAny_bind ?_))
  show wpAny _ X.A (do
    let _ ← comprehension (.DictComp kx vx [⟨tg, iter, ifs, 0⟩] scope pos) scope X.env (firstIterPos [⟨tg, iter, ifs, 0⟩] pos) newDict false (eval iter X.env) (some (assign (.Name nm py) X.env))) _ _ s
  have core := dcm_core (pos := pos) (pos' := firstIterPos [⟨tg, iter, ifs, 0⟩] pos) (use := some (assign (.Name nm py) X.env)) (Qf := fun _ s' => SP X pins De .next s') I h hc hu hN hi ok hg ht hk hv hs fun D C s' m H' I' q hn f => ?_
  · exact wpAny_bind (thn core fun _ s' hq => wpAny_pure (wpAny_pure hq))
  · have st := store_ok2 (M := model X.prog X.w) (A := X.A) (v := V.ref D) (u := .ref D) (Q := fun _ s2 => ∃ m, s2.heap.Ns C m ∧ ∀ h2, Heap.SameBut C s2.heap h2 → SP X pins De .next { s2 with heap := h2 }) (E := X.xe) I' hN hnm (.inl hloc) rfl (fun s2 I2 ⟨a, sb, ha⟩ => ?_) (.inr hloc)
    · exact wpAny_assign_Name st
    · obtain ⟨f0, f1, _, f4, f5, f6⟩ := f
      have apart : C ≠ a := ha.elim (fun z => by rw [z]; exact f1) fun z e => f5 nm a z e.symm
      exact ⟨m, hn.sameBut sb apart, fun h3 sb3 => ⟨_, H', I2.turned (t' := s2.toks) (fun b o hb e => (sb3.2 b hb).trans e) f0 f1 f4 f5 f6, q⟩⟩
end
end
end N
set_option autoImplicit false
set_option Elab.async false
set_option linter.all false
set_option maxRecDepth 100000
set_option maxHeartbeats 4000000
namespace N
open PySem L2 PySem.Spec PyProof.Rows
section
variable {X : Cx} {K : PySem.W.Frag} {ρ ρ0 ρ' : List Addr} {H H0 H' : Hp} {S S' : Sto} {d : D} {v : V} {e : Env} {σ : L2.St} {D0 : Addr}
theorem upd_tupsO {o : HO} (hD : ∀ vs, H D0 ≠ some (.tup vs)) : ∀ a vs, H a = some (.tup vs) → upd H D0 o a = some (.tup vs) := fun a vs q => by
  rw [upd_ne (fun z => hD vs (by rw [← z]; exact q))]; exact q
/-- what no place of the store tells is changed -/
theorem SR.offO {o : HO} (s : SR K ρ H S) (hD : ∀ vs, H D0 ≠ some (.tup vs)) (hn : D0 ∉ ρ) : SR K ρ (upd H D0 o) S :=
  ⟨s.len, fun n u a h1 h2 => (s.at_ n u a h1 h2).same (fun w q => by rw [upd_ne (fun z => hn (by rw [← z]; exact List.mem_of_getElem? h2))]; exact q) (fun _ _ r => r.tups (upd_tupsO hD)) fun _ _ r => r.tups (upd_tupsO hD), s.nd⟩
/-- a thing that stands already comes into the store -/
theorem SR.enter {o : O} (s : SR K ρ H S) (hn : D0 ∉ ρ) (h : OR K ρ H D0 o) : SR K (ρ ++ [D0]) H (S ++ [o]) := by
  have cases_ : ∀ {n : Nat} {b : Addr}, (ρ ++ [D0])[n]? = some b → ρ[n]? = some b ∧ b ≠ D0 ∧ n < S.length ∨ n = S.length ∧ b = D0 := fun {n b} q => by
    rw [List.getElem?_append] at q
    split at q
    · rename_i hl
      refine .inl ⟨q, fun z => hn (by rw [← z]; exact List.mem_of_getElem? q), by rw [← s.len]; exact hl⟩
    · rename_i hl
      obtain ⟨h1, h2⟩ := List.getElem?_eq_some_iff.mp q
      have h1 : n - ρ.length < 1 := h1
      have : n = ρ.length := by omega
      subst this
      simp at q
      exact .inr ⟨s.len, q.symm⟩
  have old : ∀ {n : Nat} {w : O}, n < S.length → (S ++ [o])[n]? = some w → S[n]? = some w := fun {n w} hl q => by rw [List.getElem?_append_left hl] at q; exact q
  refine ⟨by simp [s.len], fun n w b q1 q2 => ?_, fun m n b w u q1 q2 q3 q4 l1 l2 => ?_⟩
  · rcases cases_ q2 with ⟨q, _, hl⟩ | ⟨rfl, rfl⟩
    · exact (s.at_ n w b (old hl q1) q).same (fun _ z => z) (fun _ _ r => r.cat) fun _ _ r => r.cat
    · rw [List.getElem?_append_right (Nat.le_refl _)] at q1
      simp at q1
      subst q1
      exact h.same (fun _ z => z) (fun _ _ r => r.cat) fun _ _ r => r.cat
  · rcases cases_ q1 with ⟨e1, n1, hl1⟩ | ⟨rfl, z1⟩ <;> rcases cases_ q2 with ⟨e2, n2, hl2⟩ | ⟨z2, z3⟩
    · exact s.nd m n b w u e1 e2 (old hl1 q3) (old hl2 q4) l1 l2
    · exact absurd z3 n1
    · exact absurd z1 n2
    · exact z2.symm
/-- a dict that stands apart takes a pair -/
theorem put_for {kvs : List (D × D)} {k y : D} {kv yv : V} (o : OR K ρ H D0 (.dct kvs)) (rk : VR ρ H k kv) (ry : VR ρ H y yv) (hk : keysOk kvs k = true) (hl : kvs.length < line) :
    ∃ H6 H7, Re D0 H H6 ∧ DPut H6 D0 kv yv H7 ∧ OR K ρ H7 D0 (.dct (dput kvs k y)) ∧ ∃ u, H7 = upd H D0 u := by
  have keyCase : keyK k = true → ∃ q, k = kD q ∧ kv = kV q := fun h => by
    obtain ⟨q, rfl⟩ := keyK_kD h
    exact ⟨q, rfl, rk.key⟩
  have tupCase : keyT k = true → ∃ (q : List Key) (b : Addr), k = .tup (q.map kD) ∧ kv = .ref b ∧ H b = some (.tup (q.map kV)) := fun h => by
    obtain ⟨q, rfl⟩ := keyT_kD h
    cases rk with
    | tup eb rs => exact ⟨q, _, rfl, rfl, by rw [eb, rs.keys]⟩
  have hz : (line : Nat) = 16777216 := rfl
  have two : ∀ (H : Hp) (o1 o2 : HO), upd (upd H D0 o1) D0 o2 = upd H D0 o2 := fun H o1 o2 => by
    funext b
    by_cases z : b = D0
    · subst z; rw [upd_same, upd_same]
    · rw [upd_ne z, upd_ne z, upd_ne z]
  have endK : ∀ {q : Key} {ks : List (Key × V)} {H6 : Hp}, (H6 = H ∨ ∃ u, H6 = upd H D0 u) → Re D0 H H6 → H6 D0 = some (.dK ks) → (∀ vs, H D0 ≠ some (.tup vs)) → kR ρ H kvs ks → k = kD q → kv = kV q → ∃ H6 H7, Re D0 H H6 ∧ DPut H6 D0 kv yv H7 ∧ OR K ρ H7 D0 (.dct (dput kvs k y)) ∧ ∃ u, H7 = upd H D0 u := by
    intro q ks H6 hu re e6 nt r e1 e2
    subst e1 e2
    have lk := r.len
    refine ⟨H6, upd H6 D0 (.dK (putK ks q yv)), re, .k e6 (by rw [sizeLine_eq]; omega), .inl ⟨_, upd_same, ?_⟩, ?_⟩
    · rcases hu with rfl | ⟨u, rfl⟩
      · exact (r.put q ry).imp fun _ _ z => z.tups (upd_tupsO nt)
      · rw [two]; exact (r.put q ry).imp fun _ _ z => z.tups (upd_tupsO nt)
    · rcases hu with rfl | ⟨u, rfl⟩
      · exact ⟨_, rfl⟩
      · exact ⟨_, two _ _ _⟩
  have endT : ∀ {q : List Key} {b : Addr} {ks : List (List Key × V)} {H6 : Hp}, (H6 = H ∨ ∃ u, H6 = upd H D0 u) → Re D0 H H6 → H6 D0 = some (.dT ks) → (∀ vs, H D0 ≠ some (.tup vs)) → tR ρ H kvs ks → k = .tup (q.map kD) → kv = .ref b → H b = some (.tup (q.map kV)) → ∃ H6 H7, Re D0 H H6 ∧ DPut H6 D0 kv yv H7 ∧ OR K ρ H7 D0 (.dct (dput kvs k y)) ∧ ∃ u, H7 = upd H D0 u := by
    intro q b ks H6 hu re e6 nt r e1 e2 eb
    subst e1 e2
    have lk := r.len
    have nb : b ≠ D0 := fun z => nt _ (by rw [← z]; exact eb)
    refine ⟨H6, upd H6 D0 (.dT (putK ks q yv)), re, .t e6 ?_ (by rw [sizeLine_eq]; omega), .inr ⟨_, upd_same, ?_⟩, ?_⟩
    · rcases hu with rfl | ⟨u, rfl⟩
      · exact eb
      · rw [upd_ne nb]; exact eb
    · rcases hu with rfl | ⟨u, rfl⟩
      · exact (r.put q ry).imp fun _ _ z => z.tups (upd_tupsO nt)
      · rw [two]; exact (r.put q ry).imp fun _ _ z => z.tups (upd_tupsO nt)
    · rcases hu with rfl | ⟨u, rfl⟩
      · exact ⟨_, rfl⟩
      · exact ⟨_, two _ _ _⟩
  rcases o with ⟨ks, e1, r⟩ | ⟨ks, e1, r⟩
  · have nt : ∀ vs, H D0 ≠ some (.tup vs) := fun vs q => by rw [e1] at q; cases q
    cases kvs with
    | nil =>
      have hks : ks = [] := by cases ks; rfl; cases r
      subst hks
      rcases Bool.or_eq_true_iff.mp (show (keyK k || keyT k) = true from hk) with h | h
      · obtain ⟨q, a1, a2⟩ := keyCase h
        exact endK (.inl rfl) (.inl rfl) e1 nt r a1 a2
      · obtain ⟨q, b, a1, a2, a3⟩ := tupCase h
        exact endT (ks := []) (.inr ⟨_, rfl⟩) (.inr (.inl ⟨e1, rfl⟩)) upd_same nt trivial a1 a2 a3
    | cons p ps =>
      cases ks with
      | nil => cases r
      | cons c cs =>
        rcases Bool.or_eq_true_iff.mp (show ((keyK p.1 && keyK k) || (keyT p.1 && keyT k)) = true from hk) with h | h
        · obtain ⟨q, a1, a2⟩ := keyCase (Bool.and_eq_true_iff.mp h).2
          exact endK (.inl rfl) (.inl rfl) e1 nt r a1 a2
        · have := (Bool.and_eq_true_iff.mp h).1
          rw [r.1, keyT_kD'] at this; cases this
  · have nt : ∀ vs, H D0 ≠ some (.tup vs) := fun vs q => by rw [e1] at q; cases q
    cases kvs with
    | nil =>
      have hks : ks = [] := by cases ks; rfl; cases r
      subst hks
      rcases Bool.or_eq_true_iff.mp (show (keyK k || keyT k) = true from hk) with h | h
      · obtain ⟨q, a1, a2⟩ := keyCase h
        exact endK (ks := []) (.inr ⟨_, rfl⟩) (.inr (.inr ⟨e1, rfl⟩)) upd_same nt trivial a1 a2
      · obtain ⟨q, b, a1, a2, a3⟩ := tupCase h
        exact endT (.inl rfl) (.inl rfl) e1 nt r a1 a2 a3
    | cons p ps =>
      cases ks with
      | nil => cases r
      | cons c cs =>
        rcases Bool.or_eq_true_iff.mp (show ((keyK p.1 && keyK k) || (keyT p.1 && keyT k)) = true from hk) with h | h
        · have := (Bool.and_eq_true_iff.mp h).1
          rw [r.1, keyK_tup] at this; cases this
        · obtain ⟨q, b, a1, a2, a3⟩ := tupCase (Bool.and_eq_true_iff.mp h).2
          exact endT (.inl rfl) (.inl rfl) e1 nt r a1 a2 a3
theorem dctNt {a : Addr} {kvs : List (D × D)} (o : OR K ρ H a (.dct kvs)) : (∃ u, H a = some u ∧ Mut (some u)) ∧ ∀ vs, H a ≠ some (.tup vs) := by
  rcases o with ⟨ks, e, _⟩ | ⟨ks, e, _⟩
  · exact ⟨⟨_, e, trivial⟩, fun vs q => by rw [e] at q; cases q⟩
  · exact ⟨⟨_, e, trivial⟩, fun vs q => by rw [e] at q; cases q⟩
theorem dc_read {t it c kx vx : Ex} {own : List Nat} (hsl : ∀ j ∈ slots t, j ∈ own) {Q : VK} (h : TEv X.K (evalE (.dcomp kx vx t it c own)) σ H Q) :
    tDcN (TIv X.K (evalIt it)) (TGv X.K (slots t) (bindT t)) (TTv X.K (evalE c)) (TEv X.K (evalE kx)) (TEv X.K (evalE vx)) own σ H Q := by
  obtain ⟨ρ, e, S, d, S', h1, h2, h3, k⟩ := h
  simp only [evalE] at h3
  split at h3
  · cases h3
  rename_i ds g S1 e1
  split at h3
  case isFalse => cases h3
  split at h3
  · cases h3
  rename_i all S2 e2
  cases h3
  refine ⟨ρ, e, S, ds, g, S1, h1, h2, e1, fun ρ1 H1 J g1 s1 y => ?_⟩
  intro D0 hD0
  have E1 := h1.go g1
  have k1 := k.go g1
  let Pv : Nat → Hp → Prop := fun i H => ∃ ρ S acc, i ≤ ds.length ∧ Go ρ1 H1 ρ H ∧ SR X.K ρ H S ∧ OR X.K ρ H D0 (.dct acc) ∧ D0 ∉ ρ ∧
    dcompL (bindT t) (fun e S => thenT (evalE c e S)) (evalE kx) (evalE vx) g (N.wipe e own) (ds.drop i) acc S = some (all, S2)
  refine ⟨fun i m H => m = ds.length - i ∧ Pv i H, ⟨_, rfl, ρ1, S1, [], Nat.zero_le _, Go.laid hD0, s1.laid hD0, .inl ⟨[], upd_same, trivial⟩, fun z => s1.told z hD0, e2⟩, ?_⟩
  rintro i m H2 ⟨rfl, ρ2, S2', acc, hi, g2, s2, oD, hnD, run⟩
  have grow : ∀ {ρ4 : List Addr} {H4 : Hp}, Go ρ2 H2 ρ4 H4 → OR X.K ρ4 H4 D0 (.dct acc) ∧ D0 ∉ ρ4 := fun {ρ4 H4} g => by
    obtain ⟨⟨u, eu, _⟩, _⟩ := dctNt oD
    refine ⟨oD.same (fun w q => g.fr D0 w q fun z => hnD z.1) (fun _ _ r => r.go g) fun _ _ r => r.go g, fun z => ?_⟩
    obtain ⟨δ, e, nn⟩ := g.ext
    rw [e] at z
    rcases List.mem_append.mp z with z | z
    · exact hnD z
    · have := nn D0 z
      rw [eu] at this; cases this
  cases hd : ds.drop i with
  | nil =>
    rw [hd] at run
    simp only [dcompL] at run
    split at run
    · rename_i okg
      cases run
      have hl : ds.length ≤ i := by
        have := congrArg List.length hd
        rw [List.length_drop, List.length_nil] at this
        omega
      refine .inl ⟨(y i ρ2 H2 _ g2 s2 okg).1 hl, k1 (ρ2 ++ [D0]) H2 _ ⟨?_, fun a o e n => g2.fr a o e n, g2.th⟩ (s2.enter hnD oD) (.ref (by rw [← s2.len]; simp))⟩
      obtain ⟨δ, e, nn⟩ := g2.ext
      refine ⟨δ ++ [D0], by rw [e, List.append_assoc], fun p hp => ?_⟩
      rcases List.mem_append.mp hp with z | z
      · exact nn p z
      · rw [List.mem_singleton.mp z]; exact hD0
    · cases run
  | cons d rest' =>
    rw [hd] at run
    simp only [dcompL] at run
    split at run
    case isFalse => cases run
    rename_i okg
    have hget : ds[i]? = some d := by
      have := List.getElem?_drop (xs := ds) (i := i) (j := 0)
      rw [hd] at this
      simpa using this.symm
    have hlt : i < ds.length := (List.getElem?_eq_some_iff.mp hget).1
    have hrest : ds.drop (i + 1) = rest' := by rw [← List.drop_drop, hd]; rfl
    obtain ⟨go, yl⟩ := (y i ρ2 H2 _ g2 s2 okg).2 d hget
    refine .inr ⟨go, Pv (i + 1), fun H' p => ⟨_, by omega, rfl, p⟩, fun x H3 hy => ?_⟩
    obtain ⟨g3, s3, r3⟩ := yl x H3 hy
    split at run
    · cases run
    rename_i e4 S4 q4
    have E3 : ER ρ2 H3 (N.wipe e own) (L2.wipe σ own) := ((E1.go g2).wipe own).go g3
    refine ⟨ρ2, N.wipe e own, S2', d, e4, S4, E3, s3, r3, q4, fun ρ5 H5 σ5 g5 s5 E5 o5 => ⟨wipe_eq o5 hsl, ?_⟩⟩
    have g25 := g3.trans g5
    split at run
    · cases run
    · rename_i S6 q6
      simp only [thenT] at q6
      split at q6
      case h_2 => cases q6
      rename_i d6 S7 q7
      obtain ⟨b', q8, q9⟩ := Option.map_eq_some_iff.mp q6
      cases q9
      refine ⟨ρ5, e4, S4, d6, _, false, E5, s5, q7, q8, fun ρ8 H8 g8 s8 => ?_⟩
      have g28 := g25.trans g8
      obtain ⟨o8, hn8⟩ := grow g28
      exact ⟨ρ8, _, acc, hlt, g2.trans g28, s8, o8, hn8, by rw [hrest]; exact run⟩
    · rename_i S6 q6
      simp only [thenT] at q6
      split at q6
      case h_2 => cases q6
      rename_i d6 S7 q7
      obtain ⟨b', q8, q9⟩ := Option.map_eq_some_iff.mp q6
      cases q9
      split at run
      · cases run
      rename_i yk S9 q9
      split at run
      · cases run
      rename_i yv S10 q10
      split at run
      case isFalse => cases run
      rename_i ck
      obtain ⟨ck1, ck2⟩ := Bool.and_eq_true_iff.mp ck
      have ck2 := of_decide_eq_true ck2
      refine ⟨ρ5, e4, S4, d6, _, true, E5, s5, q7, q8, fun ρ8 H8 g8 s8 => ⟨ρ8, e4, S6, yk, S9, E5.go g8, s8, q9, fun ρ9 H9 w9 g9 s9 r9 => ⟨ρ9, e4, S9, yv, S10, (E5.go g8).go g9, s9, q10, fun ρa Ha wa ga sa ra => ?_⟩⟩⟩
      have g2a := ((g25.trans g8).trans g9).trans ga
      obtain ⟨oa, hna⟩ := grow g2a
      obtain ⟨H6, H7, re, dp, o7, u, e7⟩ := put_for oa (r9.go ga) ra ck1 ck2
      subst e7
      obtain ⟨⟨ua, eua, ma⟩, nt⟩ := dctNt oa
      refine ⟨H6, _, re, dp, ρa, S10, _, hlt, ?_, sa.offO nt hna, o7, hna, by rw [hrest]; exact run⟩
      have gg := g2.trans g2a
      refine ⟨gg.ext, fun a o e n => ?_, fun a e => ?_⟩
      · rw [upd_ne (show a ≠ D0 from fun z => by rw [z, hD0] at e; cases e)]
        exact gg.fr a o e n
      · by_cases z : a = D0
        · rw [z, upd_same]; simp
        · rw [upd_ne z]; exact gg.th a e
/-- a dict comprehension with one for, one test (or none) -/
theorem se_dcomp {t it c kx vx : Ex} {own : List (Str × Nat)} {Kx Vx Tg Iter : Expr} {ifs : List Expr} {scope : Scope} {pos : Pos} (hc : X.calm = true) (hu : X.A.units < cLine) (hN : X.N.Nodup) (hi : SI X Tg Iter (evalIt it)) (ok : BlkOk X.N X.env.scope scope own)
    (hg : ∀ (s : Shared) (H : Hp) (C : Addr) (cl : List (Str × Addr)) (fp : List Addr), SG (X.blk s H scope (compEnvC scope cl C X.env) fp) Tg t)
    (ht : ∀ (s : Shared) (H : Hp) (C : Addr) (cl : List (Str × Addr)) (fp : List Addr), PTs (X.blk s H scope (compEnvC scope cl C X.env) fp) ifs (TTv X.K (evalE c)))
    (hk : ∀ (s : Shared) (H : Hp) (C : Addr) (cl : List (Str × Addr)) (fp : List Addr), SE (X.blk s H scope (compEnvC scope cl C X.env) fp) Kx (evalE kx))
    (hv : ∀ (s : Shared) (H : Hp) (C : Addr) (cl : List (Str × Addr)) (fp : List Addr), SE (X.blk s H scope (compEnvC scope cl C X.env) fp) Vx (evalE vx))
    (hs : ∀ x, foldedSetIterable Iter X.env x = pure x) (hsl : ∀ j ∈ slots t, j ∈ own.map (·.2)) : SE X (.DictComp Kx Vx [⟨Tg, Iter, ifs, 0⟩] scope pos) (evalE (.dcomp kx vx t it c (own.map (·.2)))) :=
  PE.imp (pe_dcN (g := TGv X.K (slots t) (bindT t)) (tt := TTv X.K (evalE c)) (tk := TEv X.K (evalE kx)) (tv := TEv X.K (evalE vx)) hc hu hN hi ok hg ht hk hv hs) fun σ H Q h => dc_read hsl h
theorem ss_setDc {i : Nat} {nm : Str} {py : Pos} {t it c kx vx : Ex} {own : List (Str × Nat)} {Kx Vx Tg Iter : Expr} {ifs : List Expr} {scope : Scope} {pos spos : Pos} (hc : X.calm = true) (hu : X.A.units < cLine) (hN : X.N.Nodup) (hy : X.N[i]? = some nm) (hyl : X.env.scope.names.lookup nm = some .local)
    (hsw : swapsWith (.DictComp Kx Vx [⟨Tg, Iter, ifs, 0⟩] scope pos) (some (.Name nm py)) spos.line X.env = pure true) (hi : SI X Tg Iter (evalIt it)) (ok : BlkOk X.N X.env.scope scope own)
    (hg : ∀ (s : Shared) (H : Hp) (C : Addr) (cl : List (Str × Addr)) (fp : List Addr), SG (X.blk s H scope (compEnvC scope cl C X.env) fp) Tg t)
    (ht : ∀ (s : Shared) (H : Hp) (C : Addr) (cl : List (Str × Addr)) (fp : List Addr), PTs (X.blk s H scope (compEnvC scope cl C X.env) fp) ifs (TTv X.K (evalE c)))
    (hk : ∀ (s : Shared) (H : Hp) (C : Addr) (cl : List (Str × Addr)) (fp : List Addr), SE (X.blk s H scope (compEnvC scope cl C X.env) fp) Kx (evalE kx))
    (hv : ∀ (s : Shared) (H : Hp) (C : Addr) (cl : List (Str × Addr)) (fp : List Addr), SE (X.blk s H scope (compEnvC scope cl C X.env) fp) Vx (evalE vx))
    (hs : ∀ x, foldedSetIterable Iter X.env x = pure x) (hsl : ∀ j ∈ slots t, j ∈ own.map (·.2)) : SS X (.Assign [.Name nm py] (.DictComp Kx Vx [⟨Tg, Iter, ifs, 0⟩] scope pos) spos) (execS (.asg (.tgN i) (.dcomp kx vx t it c (own.map (·.2))))) :=
  PS.imp (ps_setDcN (g := TGv X.K (slots t) (bindT t)) (tt := TTv X.K (evalE c)) (tk := TEv X.K (evalE kx)) (tv := TEv X.K (evalE vx)) hy hyl hsw hc hu hN hi ok hg ht hk hv hs) fun De σ H q => dc_read hsl (by
    obtain ⟨ρ, e, S, f, e', S', h1, h2, h3, h4⟩ := q
    simp only [execS, bindT] at h3
    split at h3
    · cases h3
    rename_i d S1 e1
    cases h3
    refine ⟨ρ, e, S, d, _, h1, h2, e1, fun ρ1 H1 v g s r => ?_⟩
    exact h4 ρ1 H1 g s _ ((h1.go g).set r))
end
end N
set_option autoImplicit false
set_option Elab.async false
set_option linter.all false
set_option maxRecDepth 100000
set_option maxHeartbeats 4000000
namespace N
open PySem L2 PySem.Spec PyProof.Rows
section
variable {X : Cx} {pos : Pos}
/-! ### comparisons, whole -/
theorem All2.each {bs : List Ex} {Bs : List Expr} (h : All2 (Is X) bs Bs) : bs.length = Bs.length := h.len
theorem se_cmp (hu : X.A.units + 65 < cLine) {a : Ex} {A : Expr} {os : List Cmp} {bs : List Ex} {Bs : List Expr} (ha : Is X a A) (hb : All2 (Is X) bs Bs) (hn : os ≠ []) (hl : os.length = Bs.length) (hm : lastMarks (os.map oc) Bs = false) : SE X (.Compare A (os.map oc) Bs pos) (evalE (.cmp a os bs)) := by
  refine ⟨fun pins s σ H Q I q => ?_⟩
  obtain ⟨ρ, e, S, d, S', h1, h2, h3, k⟩ := q
  simp only [evalE] at h3
  split at h3
  · cases h3
  rename_i x S1 e1
  split at h3
  · cases h3
  rename_i b S2 e2
  cases h3
  cases os with
  | nil => exact absurd rfl hn
  | cons o os =>
    cases hb with
    | nil => cases hl
    | @cons y Y ys Ys hy ht =>
      cases os with
      | nil =>
        cases ht with
        | cons _ _ => cases hl
        | nil =>
          simp only [evalC] at e2
          split at e2
          · cases e2
          rename_i yv S3 e3
          split at e2
          · cases e2
          rename_i c1 e4
          cases e2
          refine wpAny_Compare1 (thn (ha.v.run pins s σ H (fun v H1 => ∃ ρ1, Go ρ H ρ1 H1 ∧ SR X.K ρ1 H1 S1 ∧ VR ρ1 H1 x v) I ⟨ρ, e, S, x, S1, h1, h2, e1, fun ρ1 H1 v g s r => ⟨ρ1, g, s, r⟩⟩) fun u s1 ⟨v, H1, I1, r1, ρ1, g1, s1', rx⟩ =>
            thn (hy.v.run pins s1 σ H1 (fun w H2 => ∃ ρ2, Go ρ1 H1 ρ2 H2 ∧ SR X.K ρ2 H2 S' ∧ VR ρ2 H2 yv w) I1 ⟨ρ1, e, S1, yv, S', h1.go g1, s1', e3, fun ρ2 H2 w g s r => ⟨ρ2, g, s, r⟩⟩) fun u2 s2 ⟨w, H2, I2, r2, ρ2, g2, s2', ry⟩ => ?_) hm
          exact op_cmpN hu o pins s2 σ H2 v w u u2 Q I2 r1 r2 ⟨ρ2, S', x, yv, _, S', s2', rx.go g2, ry, cmpR_of e4, k.go (g1.trans g2)⟩
      | cons o2 os =>
        cases ht with
        | nil => cases hl
        | @cons z Z zs Zs hz ht2 =>
          refine Compare_chain (thn (ha.v.run pins s σ H (fun v H1 => ∃ ρ1, Go ρ H ρ1 H1 ∧ SR X.K ρ1 H1 S1 ∧ VR ρ1 H1 x v) I ⟨ρ, e, S, x, S1, h1, h2, e1, fun ρ1 H1 v g s r => ⟨ρ1, g, s, r⟩⟩) fun u s1 ⟨v, H1, I1, r1, ρ1, g1, s1', rx⟩ => ?_) hm
          exact chainV hu (.cons hy (.cons hz ht2)) (o :: o2 :: os) (by simp) I1 (h1.go g1) s1' rx r1 e2 (k.go g1)
theorem st_cmp (hu : X.A.units + 65 < cLine) {a : Ex} {A : Expr} {os : List Cmp} {bs : List Ex} {Bs : List Expr} (ha : Is X a A) (hb : All2 (Is X) bs Bs) (hn : os ≠ []) (hl : os.length = Bs.length) (hm : lastMarks (os.map oc) Bs = false) : ST X (.Compare A (os.map oc) Bs pos) (evalE (.cmp a os bs)) := by
  refine ⟨fun pins s σ H Q I q => ?_⟩
  obtain ⟨ρ, e, S, d, S', b0, h1, h2, h3, hb0, k⟩ := q
  simp only [evalE] at h3
  split at h3
  · cases h3
  rename_i x S1 e1
  split at h3
  · cases h3
  rename_i b S2 e2
  cases h3
  cases hb0
  cases os with
  | nil => exact absurd rfl hn
  | cons o os =>
    cases hb with
    | nil => cases hl
    | @cons y Y ys Ys hy ht =>
      cases os with
      | nil =>
        cases ht with
        | cons _ _ => cases hl
        | nil =>
          simp only [evalC] at e2
          split at e2
          · cases e2
          rename_i yv S3 e3
          split at e2
          · cases e2
          rename_i c1 e4
          cases e2
          refine wpAny_isTrue_Compare1 (thn (ha.v.run pins s σ H (fun v H1 => ∃ ρ1, Go ρ H ρ1 H1 ∧ SR X.K ρ1 H1 S1 ∧ VR ρ1 H1 x v) I ⟨ρ, e, S, x, S1, h1, h2, e1, fun ρ1 H1 v g s r => ⟨ρ1, g, s, r⟩⟩) fun u s1 ⟨v, H1, I1, r1, ρ1, g1, s1', rx⟩ =>
            thn (hy.v.run pins s1 σ H1 (fun w H2 => ∃ ρ2, Go ρ1 H1 ρ2 H2 ∧ SR X.K ρ2 H2 S' ∧ VR ρ2 H2 yv w) I1 ⟨ρ1, e, S1, yv, S', h1.go g1, s1', e3, fun ρ2 H2 w g s r => ⟨ρ2, g, s, r⟩⟩) fun u2 s2 ⟨w, H2, I2, r2, ρ2, g2, s2', ry⟩ => ?_) hm
          refine thn (op_cmpN hu o pins s2 σ H2 v w u u2 (fun c H3 => c = .bl b0 ∧ Q b0 H3) I2 r1 r2 ⟨ρ2, S', x, yv, .bl b0, S', s2', rx.go g2, ry, cmpR_of e4, fun ρ3 H3 w3 g3 s3 r3 => by cases r3; exact ⟨rfl, k ρ3 H3 ((g1.trans g2).trans g3) s3⟩⟩) fun c s3 ⟨w3, H3, I3, r3, e3, q3⟩ => ?_
          subst e3
          cases r3
          exact wpAny_truthy_bool ⟨H3, I3, q3⟩
      | cons o2 os =>
        cases ht with
        | nil => cases hl
        | @cons z Z zs Zs hz ht2 =>
          refine isTrue_chain (thn (ha.v.run pins s σ H (fun v H1 => ∃ ρ1, Go ρ H ρ1 H1 ∧ SR X.K ρ1 H1 S1 ∧ VR ρ1 H1 x v) I ⟨ρ, e, S, x, S1, h1, h2, e1, fun ρ1 H1 v g s r => ⟨ρ1, g, s, r⟩⟩) fun u s1 ⟨v, H1, I1, r1, ρ1, g1, s1', rx⟩ => ?_) hm
          exact testV hu (.cons hy (.cons hz ht2)) (o :: o2 :: os) (by simp) I1 (h1.go g1) s1' rx r1 e2 (fun ρ' H' g s => k ρ' H' (g1.trans g) s)
end
end N
set_option autoImplicit false
set_option Elab.async false
set_option linter.all false
set_option maxRecDepth 100000
set_option maxHeartbeats 4000000
namespace N
open PySem L2 PySem.Spec PyProof.Rows
/-! ### looks at names -/
def visB (sc : Scope) (x : Str) : Bool := match sc.names.lookup x with
  | some .local => true
  | some .cell => true
  | some .free => true
  | _ => false
def locB (sc : Scope) (fn : Str → Bool) (x : Str) : Bool := match sc.names.lookup x with
  | some .local => true
  | some .cell => fn x
  | _ => false
def glB (sc : Scope) (x : Str) : Bool := match sc.names.lookup x with
  | some .globalImplicit => true
  | _ => false
def plainB (x : Str) : Bool := !(x == ("__debug__" : Str)) && !(x == ("__classdict__" : Str))
def noSwap : Expr → Bool
  | .ListComp .. => false
  | .SetComp .. => false
  | .DictComp .. => false
  | _ => true
def noSet : Expr → Bool
  | .Set .. => false
  | _ => true
def noSlice : Expr → Bool
  | .Slice .. => false
  | _ => true
def noCall : Expr → Bool
  | .Call .. => false
  | _ => true
def bltName : Blt → Str
  | .len => "len" | .abs => "abs" | .max => "max" | .min => "min" | .sum => "sum" | .all => "all" | .any => "any" | .int => "int" | .str => "str" | .tuple => "tuple" | .list => "list" | .sorted => "sorted" | .repr => "repr" | .isi _ => "isinstance" | .set => "set" | .ftuple => "tuple"
def BN : List Str := ["len", "abs", "max", "min", "sum", "all", "any", "int", "str", "tuple", "list", "sorted", "repr", "isinstance", "set", "range", "enumerate", "zip", "bool"]
/-- what a text needs of the module -/
inductive Need where
  | call (x : List Nat) (f : Fn) | callk (x : List Nat) (ks : List (List Nat)) (f : Fn) (perm : List Nat) | gint (x : List Nat) (i : Int)
def Met (X : Cx) (k : Nat) : Need → Prop
  | .call x f => CalG X.prog X.w X.K X.mg X.base k (sOf x) f
  | .callk x ks f perm => CalK X.prog X.w X.K X.mg X.base k (sOf x) (ks.map sOf) perm f
  | .gint x i => ∃ t, X.mg (sOf x) = some (.int i t)
mutual
def needs : Ex → List Need
  | .glo x (.int i) => [.gint x i]
  | .bin _ a b => needs a ++ needs b
  | .neg a => needs a
  | .not a => needs a
  | .and a es => needs a ++ needss es
  | .or a es => needs a ++ needss es
  | .cmp a _ bs => needs a ++ needss bs
  | .ife c a b => needs c ++ (needs a ++ needs b)
  | .tup es => needss es
  | .lst es => needss es
  | .idx a i => needs a ++ needs i
  | .slc a lo hi st => needs a ++ (needs lo ++ (needs hi ++ needs st))
  | .call x f es => .call x f :: needss es
  | .callk x ks f perm es => .callk x ks f perm :: needss es
  | .blt _ es => needss es
  | .setlen a => needs a
  | .dict kvs => needss kvs
  | .meth _ o es => needs o ++ needss es
  | .rngT es => needss es
  | .rngL es => needss es
  | .comp elt tg it c _ => needs elt ++ (needs tg ++ (needs it ++ needs c))
  | .dcomp kx vx tg it c _ => needs kx ++ (needs vx ++ (needs tg ++ (needs it ++ needs c)))
  | .wk a => needs a
  | .rng es => needss es
  | .enum a => needs a
  | .enumz a b => needs a ++ needs b
  | .zip a b => needs a ++ needs b
  | .tgT ts => needss ts
  | .tgS o i => needs o ++ needs i
  | _ => []
def needss : List Ex → List Need
  | [] => []
  | x :: xs => needs x ++ needss xs
end
def ownL (ns : List Str) (own : List Nat) : List (Str × Nat) := own.filterMap fun i => (ns[i]?).map fun x => (x, i)
def fnC (scope : Scope) : Str → Bool := fun x => scope.names.lookup x == some .cell
def isAbs : Ex → Bool
  | .abs => true
  | _ => false
/-! ### the checks -/
mutual
def chkE (ns : List Str) : Ex → Scope → (Str → Bool) → Expr → Bool
  | .non, _, _, E => match E with
    | .Constant .none _ _ => true
    | _ => false
  | .bl b, _, _, E => match E with
    | .Constant (.bool c) _ _ => b == c
    | _ => false
  | .int i, _, _, E => match E with
    | .Constant (.int j) _ _ => decide (i = j)
    | _ => false
  | .str s, _, _, E => match E with
    | .Constant (.str z) _ _ => decide (sOf s = z)
    | _ => false
  | .var i, sc, _, E => match E with
    | .Name x _ => decide (ns[i]? = some x) && (visB sc x && plainB x)
    | _ => false
  | .glo xn v, sc, _, E => match E with
    | .Name x _ => decide (x = sOf xn) && (glB sc x && (plainB x && (match v with
      | .int _ => true
      | _ => false)))
    | _ => false
  | .bin op a b, sc, fn, E => match E with
    | .BinOp A o B _ => decide (o2 op = o) && (chkE ns a sc fn A && chkE ns b sc fn B)
    | _ => false
  | .neg a, sc, fn, E => match E with
    | .UnaryOp .USub A _ => chkE ns a sc fn A
    | _ => false
  | .not a, sc, fn, E => match E with
    | .UnaryOp .Not A _ => chkE ns a sc fn A
    | _ => false
  | .and a es, sc, fn, E => match E with
    | .BoolOp .And (A :: As) _ => chkE ns a sc fn A && chkEs ns es sc fn As
    | _ => false
  | .or a es, sc, fn, E => match E with
    | .BoolOp .Or (A :: As) _ => chkE ns a sc fn A && chkEs ns es sc fn As
    | _ => false
  | .cmp a os bs, sc, fn, E => match E with
    | .Compare A ops Bs _ => decide (os.map oc = ops) && ((!os.isEmpty && (decide (os.length = Bs.length) && !lastMarks (os.map oc) Bs)) && (chkE ns a sc fn A && chkEs ns bs sc fn Bs))
    | _ => false
  | .ife c a b, sc, fn, E => match E with
    | .IfExp C A B _ => chkE ns c sc fn C && (chkE ns a sc fn A && chkE ns b sc fn B)
    | _ => false
  | .tup es, sc, fn, E => match E with
    | .Tuple Es _ _ => (noStars Es && decide (Es.length ≤ 1000)) && chkEs ns es sc fn Es
    | _ => false
  | .lst es, sc, fn, E => match E with
    | .List Es _ => (noStars Es && decide (Es.length ≤ 1000)) && chkEs ns es sc fn Es
    | _ => false
  | .idx a i, sc, fn, E => match E with
    | .Subscript A I _ => noSlice I && (chkE ns a sc fn A && chkE ns i sc fn I)
    | _ => false
  | .slc a lo hi st, sc, fn, E => match E with
    | .Subscript A (.Slice Lo Hi St _) _ => chkE ns a sc fn A && ((match Lo with
      | none => isAbs lo
      | some L => chkE ns lo sc fn L) && ((match Hi with
      | none => isAbs hi
      | some L => chkE ns hi sc fn L) && (match St with
      | none => isAbs st
      | some L => chkE ns st sc fn L)))
    | _ => false
  | .call xn _ es, sc, fn, E => match E with
    | .Call (.Name x _) Es [] _ => (decide (x = sOf xn) && (glB sc x && (plainB x && noStars Es))) && chkEs ns es sc fn Es
    | _ => false
  | .callk xn ks _ _ es, sc, fn, E => match E with
    | .Call (.Name x _) [] kws _ => (decide (x = sOf xn) && (glB sc x && (plainB x && (decide (kwNames kws = some (ks.map sOf)) && decide (es.length = ks.length))))) && chkEs ns es sc fn (kws.map fun k => k.value)
    | _ => false
  | .blt b es, sc, fn, E => match E with
    | .Call (.Name x _) Es [] _ => (decide (x = bltName b) && glB sc x) && (match b with
      | .isi t => match es, Es with
        | [y], [A, .Name T _] => (decide (T = (Str.ofString (tyS t))) && (glB sc T && noStar A)) && chkE ns y sc fn A
        | _, _ => false
      | .set => false
      | .str => false
      | _ => (!Es.isEmpty && noStars Es) && chkEs ns es sc fn Es)
    | _ => false
  | .setlen a, sc, fn, E => match E with
    | .Call (.Name x _) [.Call (.Name y _) [A] [] _] [] _ => (decide (x = "len") && (decide (y = "set") && (glB sc x && (glB sc y && noStar A)))) && chkE ns a sc fn A
    | _ => false
  | .meth m o es, sc, fn, E => match E with
    | .Call (.Attribute O name apos) Es [] cpos => ((noCall O && (apos.endLine == cpos.line)) && (noStars Es && decide (Es.length < 20))) && ((match m with
      | .append => decide (name = "append") && !Es.isEmpty
      | .extend => decide (name = "extend") && !Es.isEmpty
      | .insert => decide (name = "insert") && !Es.isEmpty
      | .pop => decide (name = "pop")
      | .get => decide (name = "get") && !Es.isEmpty
      | .count => decide (name = "count") && !Es.isEmpty
      | .tcount => decide (name = "count") && !Es.isEmpty
      | .tindex => decide (name = "index") && !Es.isEmpty
      | _ => false) && (chkE ns o sc fn O && chkEs ns es sc fn Es))
    | _ => false
  | .dict kvs, sc, fn, E => match E with
    | .Dict ks vs _ => decide (ks.length ≤ 15) && (match inter ks vs with
      | some Es => chkEs ns kvs sc fn Es
      | none => false)
    | _ => false
  | .rngT es, sc, fn, E => match E with
    | .Call (.Name x _) [.Call (.Name y _) Es [] _] [] _ => (decide (x = "tuple") && (decide (y = "range") && (glB sc x && (glB sc y && noStars Es)))) && (match es, Es with
      | [a], [A] => chkE ns a sc fn A
      | [a, b], [A, B] => chkE ns a sc fn A && chkE ns b sc fn B
      | _, _ => false)
    | _ => false
  | .rngL es, sc, fn, E => match E with
    | .Call (.Name x _) [.Call (.Name y _) Es [] _] [] _ => (decide (x = "list") && (decide (y = "range") && (glB sc x && (glB sc y && noStars Es)))) && (match es, Es with
      | [a], [A] => chkE ns a sc fn A
      | [a, b], [A, B] => chkE ns a sc fn A && chkE ns b sc fn B
      | _, _ => false)
    | _ => false
  | .comp elt tg it c own, sc, fn, E => match E with
    | .ListComp Elt [⟨Tg, Iter, ifs, 0⟩] scope _ => ((noSet Iter && (decide ((ownL ns own).map (·.2) = own) && (blkC ns sc scope (ownL ns own) && (slots tg).all fun j => own.contains j)))) &&
        (chkI ns it sc fn Tg Iter && (chkT ns tg (relS scope sc) (fnC scope) Tg && (chkE ns elt (relS scope sc) (fnC scope) Elt && (match c, ifs with
          | .bl true, [] => true
          | c, [C] => chkE ns c (relS scope sc) (fnC scope) C
          | _, _ => false))))
    | _ => false
  | .dcomp kx vx tg it c own, sc, fn, E => match E with
    | .DictComp Kx Vx [⟨Tg, Iter, ifs, 0⟩] scope _ => ((noSet Iter && (decide ((ownL ns own).map (·.2) = own) && (blkC ns sc scope (ownL ns own) && (slots tg).all fun j => own.contains j)))) &&
        (chkI ns it sc fn Tg Iter && (chkT ns tg (relS scope sc) (fnC scope) Tg && ((chkE ns kx (relS scope sc) (fnC scope) Kx && chkE ns vx (relS scope sc) (fnC scope) Vx) && (match c, ifs with
          | .bl true, [] => true
          | c, [C] => chkE ns c (relS scope sc) (fnC scope) C
          | _, _ => false))))
    | _ => false
  | _, _, _, _ => false
def chkEs (ns : List Str) : List Ex → Scope → (Str → Bool) → List Expr → Bool
  | [], _, _, E => match E with
    | [] => true
    | _ => false
  | x :: xs, sc, fn, E => match E with
    | e :: es => chkE ns x sc fn e && chkEs ns xs sc fn es
    | _ => false
/-- what is walked -/
def chkI (ns : List Str) : Ex → Scope → (Str → Bool) → Expr → Expr → Bool
  | .wk a, sc, fn, _, E => chkE ns a sc fn E
  | .rng es, sc, fn, _, E => match E with
    | .Call (.Name x _) Es [] _ => (decide (x = "range") && (glB sc x && (noStars Es && (decide (1 ≤ Es.length) && decide (Es.length ≤ 3))))) && chkEs ns es sc fn Es
    | _ => false
  | .enum a, sc, fn, T, E => match T, E with
    | .Tuple _ _ _, .Call (.Name x _) [A] [] _ => (decide (x = "enumerate") && (glB sc x && noStar A)) && chkE ns a sc fn A
    | _, _ => false
  | .enumz a b, sc, fn, T, E => match T, E with
    | .Tuple _ _ _, .Call (.Name x _) [.Call (.Name y _) [A, B] [] _] [] _ => (decide (x = "enumerate") && (glB sc x && (decide (y = "zip") && (glB sc y && (noStar A && noStar B))))) && (chkE ns a sc fn A && chkE ns b sc fn B)
    | _, _ => false
  | .zip a b, sc, fn, T, E => match T, E with
    | .Tuple _ _ _, .Call (.Name x _) [A, B] [] _ => (decide (x = "zip") && (glB sc x && (noStar A && noStar B))) && (chkE ns a sc fn A && chkE ns b sc fn B)
    | _, _ => false
  | _, _, _, _, _ => false
def chkT (ns : List Str) : Ex → Scope → (Str → Bool) → Expr → Bool
  | .tgN i, sc, fn, E => match E with
    | .Name x _ => decide (ns[i]? = some x) && locB sc fn x
    | _ => false
  | .tgT ts, sc, fn, E => match E with
    | .Tuple Es _ _ => noStars Es && chkTs ns ts sc fn Es
    | _ => false
  | .tgS o i, sc, fn, E => match E with
    | .Subscript O I _ => noSlice I && (chkE ns o sc fn O && chkE ns i sc fn I)
    | _ => false
  | _, _, _, _ => false
def chkTs (ns : List Str) : List Ex → Scope → (Str → Bool) → List Expr → Bool
  | [], _, _, E => match E with
    | [] => true
    | _ => false
  | x :: xs, sc, fn, E => match E with
    | e :: es => chkT ns x sc fn e && chkTs ns xs sc fn es
    | _ => false
end
/-! ### what the looks say -/
section
variable {X : Cx} {ns : List Str} {sc : Scope} {fn : Str → Bool} {k : Nat}
theorem band {a b : Bool} (h : (a && b) = true) : a = true ∧ b = true := Bool.and_eq_true_iff.mp h
theorem vis_of {x : Str} (h : visB sc x = true) : Vis sc x := by
  unfold visB at h
  split at h
  · exact .inl ‹_›
  · exact .inr (.inl ‹_›)
  · exact .inr (.inr ‹_›)
  · cases h
theorem loc_of {x : Str} (h : locB sc fn x = true) : Loc sc x ∧ (fn x = true ∨ sc.names.lookup x = some .local) := by
  unfold locB at h
  split at h
  · exact ⟨.inl ‹_›, .inr ‹_›⟩
  · exact ⟨.inr ‹_›, .inl h⟩
  · cases h
theorem gl_of {x : Str} (G : Good X ns sc fn k) (h : glB sc x = true) : Gl X x := by
  unfold glB at h
  split at h
  · show X.env.scope.names.lookup x = _
    rw [G.sco]; assumption
  · cases h
theorem plain_of {x : Str} (h : plainB x = true) : (x == ("__debug__" : Str)) = false ∧ (x == ("__classdict__" : Str)) = false := by
  obtain ⟨h1, h2⟩ := band h
  exact ⟨by simpa using h1, by simpa using h2⟩
theorem noSlice_ix {I : Expr} (h : noSlice I = true) : PlainIx I := by
  intro o i
  cases I <;> first | rfl | cases h
theorem noSet_of {I : Expr} {env : PySem.Env} (h : noSet I = true) : ∀ x, foldedSetIterable I env x = pure x := by
  intro x
  cases I <;> first | rfl | cases h
theorem noCall_of {O : Expr} {name : Str} {env : PySem.Env} {w : Sem Value} (h : noCall O = true) : attributeBase O name env w = w := by
  cases O <;> first | rfl | cases h
theorem noSwap_of {E : Expr} {t : Option Expr} {l : Nat} {env : PySem.Env} (h : noSwap E = true) : swapsWith E t l env = pure false := by
  cases E <;> first | rfl | cases h
theorem bltName_ok (b : Blt) : bltName b ∈ BN ∧ bltName b ≠ "__name__" ∧ (bltName b == ("__debug__" : Str)) = false := by
  cases b <;> first | decide +kernel | (rename_i t; cases t <;> decide +kernel)
theorem sub_set {I : Expr} {O : Expr} {pos : Pos} {env : PySem.Env} (h : noSlice I = true) : ∀ v, assign (.Subscript O I pos) env v = (do
      let ov ← holding [v] (eval O env)
      let iv ← holding [v, ov] (eval I env)
      standAt pos
      holding [v, ov, iv] (setItem ov iv v)
      release [v, ov, iv] []) := by
  intro v
  cases I <;> first | rfl | cases h
theorem Good.room (G : Good X ns sc fn k) : X.A.units + 65 < cLine := by
  have := G.rm.un
  omega
/-- the context of a comprehension's block -/
theorem Good.blk (G : Good X ns sc fn k) {own : List (Str × Nat)} {scope : Scope} (ok : BlkOk ns sc scope own) (s : Shared) (H : Hp) (C : Addr) (cl : List (Str × Addr)) (fp : List Addr) : Good (X.blk s H scope (compEnvC scope cl C X.env) fp) ns (relS scope sc) (fnC scope) k :=
  ⟨G.nm, G.nd, by show relS scope X.env.scope = _; rw [G.sco], ok.kind, rfl, G.cm, G.gd, G.rm, rfl⟩
end
end N
set_option autoImplicit false
set_option Elab.async false
set_option linter.all false
set_option maxRecDepth 100000
set_option maxHeartbeats 4000000
namespace N
open PySem L2 PySem.Spec PyProof.Rows
section
variable {X : Cx} {ns : List Str} {sc : Scope} {fn : Str → Bool} {k : Nat}
theorem is_of {x : Ex} {E : Expr} (h : SE X E (evalE x)) (he : ∀ whole, isTrue E X.env whole = (do let v ← whole; standAt E.pos; holding [v] (truthy v))) : Is X x E := ⟨h, st_of h he⟩
theorem nl {α : Type} {P : α → Prop} {a b : List α} (h : ∀ n ∈ a ++ b, P n) : ∀ n ∈ a, P n := fun n q => h n (List.mem_append_left _ q)
theorem nr {α : Type} {P : α → Prop} {a b : List α} (h : ∀ n ∈ a ++ b, P n) : ∀ n ∈ b, P n := fun n q => h n (List.mem_append_right _ q)
theorem nt {α : Type} {P : α → Prop} {a : α} {b : List α} (h : ∀ n ∈ a :: b, P n) : P a ∧ ∀ n ∈ b, P n := ⟨h a (by simp), fun n q => h n (by simp [q])⟩
/-- an argument list -/
theorem sa_all : ∀ {ys : List Ex} {Es : List Expr}, All2 (Is X) ys Es → noStars Es = true → SA X Es (evalEs ys)
  | _, _, .nil, _ => sa_nil
  | _, _, .cons h t, hn => by
    obtain ⟨h1, h2⟩ := band (show (noStar _ && noStars _) = true from hn)
    exact sa_cons h.v (sa_all t h2) (star_cons h1)
theorem sk_all : ∀ {ys : List Ex} {kws : List Keyword}, All2 (Is X) ys (kws.map fun k => k.value) → SK X kws ys
  | ys, [], h => by
    cases h
    exact sk_nil
  | ys, ⟨n, v, p⟩ :: r, h => by
    cases h with
    | cons h t => exact sk_cons h.v (sk_all t)
theorem boot_abs' : bootBuiltins "abs" = some (.builtin "abs") := by decide +kernel
theorem boot_all' : bootBuiltins "all" = some (.builtin "all") := by decide +kernel
theorem boot_any' : bootBuiltins "any" = some (.builtin "any") := by decide +kernel
theorem boot_repr' : bootBuiltins "repr" = some (.builtin "repr") := by decide +kernel
theorem boot_len' : bootBuiltins "len" = some (.builtin "len") := by decide +kernel
theorem boot_max' : bootBuiltins "max" = some (.builtin "max") := by decide +kernel
theorem boot_min' : bootBuiltins "min" = some (.builtin "min") := by decide +kernel
theorem boot_sum' : bootBuiltins "sum" = some (.builtin "sum") := by decide +kernel
theorem boot_ty' (t : Ty) : bootBuiltins (Str.ofString (tyS t)) = some (.type (tyS t)) := by cases t <;> decide +kernel
theorem ty_BN (t : Ty) : Str.ofString (tyS t) ∈ BN ∧ Str.ofString (tyS t) ≠ "__name__" ∧ (Str.ofString (tyS t) == ("__debug__" : Str)) = false := by cases t <;> decide +kernel
mutual
theorem sndE : ∀ (x : Ex) (X : Cx) (sc : Scope) (fn : Str → Bool) (E : Expr), Good X ns sc fn k → (∀ x ∈ BN, X.mg x = none) → (∀ n ∈ needs x, Met X k n) → chkE ns x sc fn E = true → Is X x E
  | .non, X, sc, fn, E, G, hf, hn, h => by
    simp only [chkE] at h
    split at h
    · exact is_of (se_const pe_non fun _ _ => .non) fun _ => rfl
    · cases h
  | .bl b, X, sc, fn, E, G, hf, hn, h => by
    simp only [chkE] at h
    split at h
    · have := eq_of_beq h
      subst this
      exact is_of (se_const pe_bl fun _ _ => .bl _) fun _ => rfl
    · cases h
  | .int i, X, sc, fn, E, G, hf, hn, h => by
    simp only [chkE] at h
    split at h
    · have := of_decide_eq_true h
      subst this
      exact is_of (se_const pe_int fun _ _ => .int _) fun _ => rfl
    · cases h
  | .str s, X, sc, fn, E, G, hf, hn, h => by
    simp only [chkE] at h
    split at h
    · have := of_decide_eq_true h
      subst this
      exact is_of (se_const pe_str fun _ _ => .str _) fun _ => rfl
    · cases h
  | .var i, X, sc, fn, E, G, hf, hn, h => by
    simp only [chkE] at h
    split at h
    · rename_i x p
      obtain ⟨h1, h2⟩ := band h
      obtain ⟨h2, h3⟩ := band h2
      obtain ⟨d1, d2⟩ := plain_of h3
      refine is_of (se_var (by rw [G.nm]; exact of_decide_eq_true h1) (by rw [G.sco]; exact vis_of h2) d1 d2) fun _ => rfl
    · cases h
  | .glo xn v, X, sc, fn, E, G, hf, hn, h => by
    simp only [chkE] at h
    split at h
    · rename_i x p
      obtain ⟨h1, k2⟩ := band h
      obtain ⟨h2, k3⟩ := band k2
      obtain ⟨h3, h4⟩ := band k3
      obtain ⟨d1, d2⟩ := plain_of h3
      have e := of_decide_eq_true h1
      subst e
      split at h4
      · rename_i i
        obtain ⟨t, hm⟩ : ∃ t, X.mg (sOf xn) = some (.int i t) := hn (.gint xn i) (by simp [needs])
        exact is_of (se_const (pe_glob (v := .int i) (gl_of G h2) hm ⟨t, rfl⟩ d1) fun _ _ => .int i) fun _ => rfl
      · cases h4
    · cases h
  | .bin op a b, X, sc, fn, E, G, hf, hn, h => by
    simp only [chkE] at h
    split at h
    · obtain ⟨h1, h2⟩ := band h
      obtain ⟨h2, h3⟩ := band h2
      have e := of_decide_eq_true h1
      subst e
      exact is_of (se_bin (sndE a X sc fn _ G hf (nl hn) h2).v (sndE b X sc fn _ G hf (nr hn) h3).v) fun _ => rfl
    · cases h
  | .neg a, X, sc, fn, E, G, hf, hn, h => by
    simp only [chkE] at h
    split at h
    · exact is_of (se_neg (sndE a X sc fn _ G hf hn h).v) fun _ => rfl
    · cases h
  | .not a, X, sc, fn, E, G, hf, hn, h => by
    simp only [chkE] at h
    split at h
    · have q := sndE a X sc fn _ G hf hn h
      exact ⟨se_not q.t q.v, st_not q.t⟩
    · cases h
  | .and a es, X, sc, fn, E, G, hf, hn, h => by
    simp only [chkE] at h
    split at h
    · obtain ⟨h1, h2⟩ := band h
      have q := sndE a X sc fn _ G hf (nl hn) h1
      have qs := sndEs es X sc fn _ G hf (nr hn) h2
      exact ⟨se_and qs q, (sw_and qs q).pt⟩
    · cases h
  | .or a es, X, sc, fn, E, G, hf, hn, h => by
    simp only [chkE] at h
    split at h
    · obtain ⟨h1, h2⟩ := band h
      have q := sndE a X sc fn _ G hf (nl hn) h1
      have qs := sndEs es X sc fn _ G hf (nr hn) h2
      exact ⟨se_or qs q, (sw_or qs q).pt⟩
    · cases h
  | .cmp a os bs, X, sc, fn, E, G, hf, hn, h => by
    simp only [chkE] at h
    split at h
    · rename_i A ops Bs p
      obtain ⟨h1, h2⟩ := band h
      obtain ⟨h2, h3⟩ := band h2
      obtain ⟨h4, h5⟩ := band h2
      obtain ⟨h5, h6⟩ := band h5
      obtain ⟨h7, h8⟩ := band h3
      have e := of_decide_eq_true h1
      subst e
      have q := sndE a X sc fn _ G hf (nl hn) h7
      have qs := sndEs bs X sc fn _ G hf (nr hn) h8
      have hne : os ≠ [] := by rintro rfl; cases h4
      have hm : lastMarks (os.map oc) Bs = false := by simpa using h6
      exact ⟨se_cmp G.room q qs hne (of_decide_eq_true h5) hm, st_cmp G.room q qs hne (of_decide_eq_true h5) hm⟩
    · cases h
  | .ife c a b, X, sc, fn, E, G, hf, hn, h => by
    simp only [chkE] at h
    split at h
    · obtain ⟨h1, h2⟩ := band h
      obtain ⟨h2, h3⟩ := band h2
      have qc := sndE c X sc fn _ G hf (nl hn) h1
      have qa := sndE a X sc fn _ G hf (nl (nr hn)) h2
      have qb := sndE b X sc fn _ G hf (nr (nr hn)) h3
      exact ⟨se_ife qc.t qa.v qb.v, st_ife qc.t qa.t qb.t⟩
    · cases h
  | .tup es, X, sc, fn, E, G, hf, hn, h => by
    simp only [chkE] at h
    split at h
    · obtain ⟨h1, h2⟩ := band h
      obtain ⟨h3, h4⟩ := band h1
      have qs := sndEs es X sc fn _ G hf hn h2
      exact is_of (se_tup (sa_all qs h3) (of_decide_eq_true h4) fun e S r q => (evalEs_len q).trans qs.len) fun _ => rfl
    · cases h
  | .lst es, X, sc, fn, E, G, hf, hn, h => by
    simp only [chkE] at h
    split at h
    · obtain ⟨h1, h2⟩ := band h
      obtain ⟨h3, h4⟩ := band h1
      have qs := sndEs es X sc fn _ G hf hn h2
      exact is_of (se_lst (sa_all qs h3) (of_decide_eq_true h4) fun e S r q => (evalEs_len q).trans qs.len) fun _ => rfl
    · cases h
  | .idx a i, X, sc, fn, E, G, hf, hn, h => by
    simp only [chkE] at h
    split at h
    · obtain ⟨h1, h2⟩ := band h
      obtain ⟨h2, h3⟩ := band h2
      exact is_of (se_idx (by have := G.room; omega) (sndE a X sc fn _ G hf (nl hn) h2).v (sndE i X sc fn _ G hf (nr hn) h3).v (noSlice_ix h1)) fun _ => rfl
    · cases h
  | .slc a lo hi st, X, sc, fn, E, G, hf, hn, h => by
    simp only [chkE] at h
    split at h
    · rename_i A Lo Hi St p pos
      obtain ⟨h1, h2⟩ := band h
      obtain ⟨h2, h3⟩ := band h2
      obtain ⟨h3, h4⟩ := band h3
      have part : ∀ (y : Ex) (O : Option Expr), (∀ E, O = some E → SE X E (evalE y)) → (O = none → isAbs y = true) → SO X O y := fun y O f g => by
        cases O with
        | none =>
          have := g rfl
          cases y <;> first | exact so_none | cases this
        | some E => exact so_some (f E rfl)
      refine is_of (se_slc (sndE a X sc fn _ G hf (nl hn) h1).v (part lo Lo (fun E e => ?_) fun e => ?_) (part hi Hi (fun E e => ?_) fun e => ?_) (part st St (fun E e => ?_) fun e => ?_)) fun _ => rfl
      · subst e; exact (sndE lo X sc fn _ G hf (nl (nr hn)) h2).v
      · subst e; exact h2
      · subst e; exact (sndE hi X sc fn _ G hf (nl (nr (nr hn))) h3).v
      · subst e; exact h3
      · subst e; exact (sndE st X sc fn _ G hf (nr (nr (nr hn))) h4).v
      · subst e; exact h4
    · cases h
  | .call xn f es, X, sc, fn, E, G, hf, hn, h => by
    simp only [chkE] at h
    split at h
    · rename_i x p Es pos
      obtain ⟨h1, h2⟩ := band h
      obtain ⟨h3, k4⟩ := band h1
      obtain ⟨h4, k5⟩ := band k4
      obtain ⟨h5, h6⟩ := band k5
      have e := of_decide_eq_true h3
      subst e
      obtain ⟨n1, n2⟩ := nt hn
      have c : CalG X.prog X.w X.K X.mg X.base k (sOf xn) f := n1
      have qs := sndEs es X sc fn _ G hf n2 h2
      cases qs with
      | nil => exact is_of (se_call0 c G.rm (Nat.le_refl _) G.gd (gl_of G h4) (plain_of h5).1) fun _ => rfl
      | cons q t => exact is_of (se_call c G.rm (Nat.le_refl _) G.gd (gl_of G h4) (sa_all (.cons q t) h6) h6 (plain_of h5).1) fun _ => rfl
    · cases h
  | .callk xn ks f perm es, X, sc, fn, E, G, hf, hn, h => by
    simp only [chkE] at h
    split at h
    · rename_i x p kws pos
      obtain ⟨h1, h2⟩ := band h
      obtain ⟨h3, k4⟩ := band h1
      obtain ⟨h4, k5⟩ := band k4
      obtain ⟨h5, k6⟩ := band k5
      obtain ⟨h6, h7⟩ := band k6
      have e := of_decide_eq_true h3
      subst e
      obtain ⟨n1, n2⟩ := nt hn
      have c : CalK X.prog X.w X.K X.mg X.base k (sOf xn) (ks.map sOf) perm f := n1
      exact is_of (se_callk c G.rm (Nat.le_refl _) G.gd (gl_of G h4) (sk_all (sndEs es X sc fn _ G hf n2 h2)) (of_decide_eq_true h6) (by rw [List.length_map]; exact of_decide_eq_true h7) (plain_of h5).1) fun _ => rfl
    · cases h
  | .blt b es, X, sc, fn, E, G, hf, hn, h => by
    rw [chkE.eq_def] at h
    simp only at h
    split at h
    · rename_i x p Es pos
      obtain ⟨h1, h2⟩ := band h
      obtain ⟨h3, h4⟩ := band h1
      have e := of_decide_eq_true h3
      subst e
      obtain ⟨b1, b2, b3⟩ := bltName_ok b
      have hm := hf _ b1
      have hg := gl_of G h4
      have hr := G.room
      have plain : ∀ {h : (!Es.isEmpty && noStars Es) = true}, (chkEs ns es sc fn Es = true) → ∃ A As, Es = A :: As ∧ SA X (A :: As) (evalEs es) ∧ noStars (A :: As) = true := fun {h} h2 => by
        obtain ⟨a1, a2⟩ := band h
        have qs := sndEs es X sc fn _ G hf hn h2
        cases Es with
        | nil => cases a1
        | cons A As => exact ⟨A, As, rfl, sa_all qs a2, a2⟩
      cases b with
      | isi t =>
        simp only at h2
        split at h2
        · rename_i y A T p2
          obtain ⟨h5, h6⟩ := band h2
          obtain ⟨h7, k8⟩ := band h5
          obtain ⟨h8, h9⟩ := band k8
          have e := of_decide_eq_true h7
          subst e
          obtain ⟨t1, t2, t3⟩ := ty_BN t
          exact is_of (se_isi (boot_ty' t) hg hm (gl_of G h8) (hf _ t1) t2 t3 (sndE y X sc fn _ G hf (fun n q => hn n (by simp [needs, needss, q])) h6).v h9) fun _ => rfl
        · cases h2
      | sorted =>
        obtain ⟨h5, h6⟩ := band h2
        obtain ⟨A, As, rfl, ha, hs⟩ := plain (h := h5) h6
        exact is_of (se_bltF (call_srtN hr) PyProof.Rows.boot_sorted hg hm ha hs b2 b3) fun _ => rfl
      | set => cases h2
      | str => cases h2
      | len =>
        obtain ⟨h5, h6⟩ := band h2
        obtain ⟨A, As, rfl, ha, hs⟩ := plain (h := h5) h6
        exact is_of (se_bltF call_lenN boot_len' hg hm ha hs b2 b3) fun _ => rfl
      | abs =>
        obtain ⟨h5, h6⟩ := band h2
        obtain ⟨A, As, rfl, ha, hs⟩ := plain (h := h5) h6
        exact is_of (se_bltF call_absN boot_abs' hg hm ha hs b2 b3) fun _ => rfl
      | max =>
        obtain ⟨h5, h6⟩ := band h2
        obtain ⟨A, As, rfl, ha, hs⟩ := plain (h := h5) h6
        exact is_of (se_bltF (call_maxN G.cm (by omega)) boot_max' hg hm ha hs b2 b3) fun _ => rfl
      | min =>
        obtain ⟨h5, h6⟩ := band h2
        obtain ⟨A, As, rfl, ha, hs⟩ := plain (h := h5) h6
        exact is_of (se_bltF (call_minN G.cm (by omega)) boot_min' hg hm ha hs b2 b3) fun _ => rfl
      | sum =>
        obtain ⟨h5, h6⟩ := band h2
        obtain ⟨A, As, rfl, ha, hs⟩ := plain (h := h5) h6
        exact is_of (se_bltF (call_sumN G.cm) boot_sum' hg hm ha hs b2 b3) fun _ => rfl
      | all =>
        obtain ⟨h5, h6⟩ := band h2
        obtain ⟨A, As, rfl, ha, hs⟩ := plain (h := h5) h6
        exact is_of (se_bltF (call_allN G.cm) boot_all' hg hm ha hs b2 b3) fun _ => rfl
      | any =>
        obtain ⟨h5, h6⟩ := band h2
        obtain ⟨A, As, rfl, ha, hs⟩ := plain (h := h5) h6
        exact is_of (se_bltF (call_anyN G.cm) boot_any' hg hm ha hs b2 b3) fun _ => rfl
      | repr =>
        obtain ⟨h5, h6⟩ := band h2
        obtain ⟨A, As, rfl, ha, hs⟩ := plain (h := h5) h6
        exact is_of (se_bltF (call_repN G.gd hr) boot_repr' hg hm ha hs b2 b3) fun _ => rfl
      | int =>
        obtain ⟨h5, h6⟩ := band h2
        obtain ⟨A, As, rfl, ha, hs⟩ := plain (h := h5) h6
        exact is_of (se_bltT call_intN (boot_ty' .int) hg hm ha hs b2 b3) fun _ => rfl
      | tuple =>
        obtain ⟨h5, h6⟩ := band h2
        obtain ⟨A, As, rfl, ha, hs⟩ := plain (h := h5) h6
        exact is_of (se_bltT call_tupN (boot_ty' .tuple) hg hm ha hs b2 b3) fun _ => rfl
      | ftuple =>
        obtain ⟨h5, h6⟩ := band h2
        obtain ⟨A, As, rfl, ha, hs⟩ := plain (h := h5) h6
        exact is_of (se_bltT call_ftpN (boot_ty' .tuple) hg hm ha hs b2 b3) fun _ => rfl
      | list =>
        obtain ⟨h5, h6⟩ := band h2
        obtain ⟨A, As, rfl, ha, hs⟩ := plain (h := h5) h6
        exact is_of (se_bltT call_lstN (boot_ty' .list) hg hm ha hs b2 b3) fun _ => rfl
    · cases h
  | .meth m o es, X, sc, fn, E, G, hf, hn, h => by
    rw [chkE.eq_def] at h
    simp only at h
    split at h
    · rename_i O name apos Es cpos
      obtain ⟨h1, h2⟩ := band h
      obtain ⟨h3, h4⟩ := band h1
      obtain ⟨h5, h6⟩ := band h3
      obtain ⟨h7, h8⟩ := band h4
      obtain ⟨h9, k1⟩ := band h2
      obtain ⟨k2, k3⟩ := band k1
      have qo := (sndE o X sc fn _ G hf (nl hn) k2).v
      have qs := sndEs es X sc fn _ G hf (nr hn) k3
      have hlen := of_decide_eq_true h8
      have hu := G.room
      have go : ∀ {id : String} {g : Sto → D → List D → RE}, (m ≠ .tcount ∧ m ≠ .tindex) → (∀ S x ds, methI S m x ds = g S x ds) → PlainAttrs (mty m) → Slot (mty m) name id → typeOf (.builtin id) = pure (.type "method_descriptor") → MtR X id (rM X.K g) → Is X (.meth m o es) (.Call (.Attribute O name apos) Es [] cpos) := fun {id g} hk hg pa slot hty hm => by
        cases qs with
        | nil => exact is_of (se_meth0 hk hg pa slot hty hm qo (noCall_of h5) h6) fun _ => rfl
        | @cons y A ys As q t =>
          obtain ⟨s1, s2⟩ := band (show (noStar A && noStars As) = true from h7)
          refine is_of (se_meth hk hg pa slot hty hm qo (sa_all (.cons q t) h7) (noCall_of h5) ?_ h6 (star_cons s1) (star_any s2)) fun _ => rfl
          rw [star_all h7]
          show (true && true && decide (_ < 30)) = true
          rw [List.length_cons] at hlen ⊢
          simp
          omega
      cases m with
      | append =>
        have e := of_decide_eq_true (band h9).1
        subst e
        exact go (by simp) (fun _ _ _ => rfl) PySem.F.plainAttrs_list PySem.F.slot_list_append PySem.F.type_list_append mt_app
      | extend =>
        have e := of_decide_eq_true (band h9).1
        subst e
        exact go (by simp) (fun _ _ _ => rfl) PySem.F.plainAttrs_list PySem.F.slot_list_extend PySem.F.type_list_extend mt_ext
      | insert =>
        have e := of_decide_eq_true (band h9).1
        subst e
        exact go (by simp) (fun _ _ _ => rfl) PySem.F.plainAttrs_list PySem.F.slot_list_insert PySem.F.type_list_insert mt_ins
      | pop =>
        have e := of_decide_eq_true h9
        subst e
        exact go (by simp) (fun _ _ _ => rfl) PySem.F.plainAttrs_list PySem.F.slot_list_pop PySem.F.type_list_pop mt_popN
      | get =>
        have e := of_decide_eq_true (band h9).1
        subst e
        exact go (by simp) (fun _ _ _ => rfl) PySem.F.plainAttrs_dict PySem.F.slot_dict_get PySem.F.type_dict_get (mt_getN (by omega))
      | count =>
        have e := of_decide_eq_true (band h9).1
        subst e
        exact go (by simp) (fun _ _ _ => rfl) PySem.F.plainAttrs_list PySem.F.slot_list_count PySem.F.type_list_count mt_cnt
      | index => cases h9
      | tcount =>
        obtain ⟨h9, h10⟩ := band h9
        have e := of_decide_eq_true h9
        subst e
        cases qs with
        | nil => cases h10
        | @cons y A ys As q t =>
          obtain ⟨s1, s2⟩ := band (show (noStar A && noStars As) = true from h7)
          refine is_of (se_methF (.inl rfl) (fun _ _ _ => rfl) PySem.F.plainAttrs_tuple PySem.F.slot_tuple_count PySem.F.type_tuple_count mt_cntT qo (sa_all (.cons q t) h7) (noCall_of h5) ?_ h6 (star_cons s1) (star_any s2)) fun _ => rfl
          rw [star_all h7]
          show (true && true && decide (_ < 30)) = true
          rw [List.length_cons] at hlen ⊢
          simp
          omega
      | tindex =>
        obtain ⟨h9, h10⟩ := band h9
        have e := of_decide_eq_true h9
        subst e
        cases qs with
        | nil => cases h10
        | @cons y A ys As q t =>
          obtain ⟨s1, s2⟩ := band (show (noStar A && noStars As) = true from h7)
          refine is_of (se_methF (.inr rfl) (fun _ _ _ => rfl) PySem.F.plainAttrs_tuple PySem.F.slot_tuple_index PySem.F.type_tuple_index mt_idxT qo (sa_all (.cons q t) h7) (noCall_of h5) ?_ h6 (star_cons s1) (star_any s2)) fun _ => rfl
          rw [star_all h7]
          show (true && true && decide (_ < 30)) = true
          rw [List.length_cons] at hlen ⊢
          simp
          omega
    · cases h
  | .setlen a, X, sc, fn, E, G, hf, hn, h => by
    rw [chkE.eq_def] at h
    simp only at h
    split at h
    · obtain ⟨h1, h2⟩ := band h
      obtain ⟨h3, k4⟩ := band h1
      obtain ⟨h4, k5⟩ := band k4
      obtain ⟨h5, k6⟩ := band k5
      obtain ⟨h6, h7⟩ := band k6
      have e := of_decide_eq_true h3
      subst e
      have e := of_decide_eq_true h4
      subst e
      exact is_of (se_setlen G.cm G.room (gl_of G h5) (hf _ (by decide)) (gl_of G h6) (hf _ (by decide)) (sndE a X sc fn _ G hf hn h2).v h7) fun _ => rfl
    · cases h
  | .rngT es, X, sc, fn, E, G, hf, hn, h => by
    rw [chkE.eq_def] at h
    simp only at h
    split at h
    · rename_i x p y p2 Es pos2 pos
      obtain ⟨h1, h2⟩ := band h
      obtain ⟨h3, k4⟩ := band h1
      obtain ⟨h4, k5⟩ := band k4
      obtain ⟨h5, k6⟩ := band k5
      obtain ⟨h6, h7⟩ := band k6
      have e := of_decide_eq_true h3
      subst e
      have e := of_decide_eq_true h4
      subst e
      split at h2
      · rename_i a A
        exact is_of (se_rngT1 G.cm (gl_of G h5) (hf _ (by decide)) (gl_of G h6) (hf _ (by decide)) (sndE a X sc fn _ G hf (fun n q => hn n (by simp [needs, needss, q])) h2).v (band h7).1) fun _ => rfl
      · rename_i a b A B
        obtain ⟨h8, h9⟩ := band h2
        obtain ⟨s1, s2⟩ := band (show (noStar A && noStars [B]) = true from h7)
        exact is_of (se_rngT2 G.cm (gl_of G h5) (hf _ (by decide)) (gl_of G h6) (hf _ (by decide)) (sndE a X sc fn _ G hf (fun n q => hn n (by simp [needs, needss, q])) h8).v (sndE b X sc fn _ G hf (fun n q => hn n (by simp [needs, needss, q])) h9).v s1 (band s2).1) fun _ => rfl
      · cases h2
    · cases h
  | .rngL es, X, sc, fn, E, G, hf, hn, h => by
    rw [chkE.eq_def] at h
    simp only at h
    split at h
    · rename_i x p y p2 Es pos2 pos
      obtain ⟨h1, h2⟩ := band h
      obtain ⟨h3, k4⟩ := band h1
      obtain ⟨h4, k5⟩ := band k4
      obtain ⟨h5, k6⟩ := band k5
      obtain ⟨h6, h7⟩ := band k6
      have e := of_decide_eq_true h3
      subst e
      have e := of_decide_eq_true h4
      subst e
      split at h2
      · rename_i a A
        exact is_of (se_rngL1 G.cm (gl_of G h5) (hf _ (by decide)) (gl_of G h6) (hf _ (by decide)) (sndE a X sc fn _ G hf (fun n q => hn n (by simp [needs, needss, q])) h2).v (band h7).1) fun _ => rfl
      · rename_i a b A B
        obtain ⟨h8, h9⟩ := band h2
        obtain ⟨s1, s2⟩ := band (show (noStar A && noStars [B]) = true from h7)
        exact is_of (se_rngL2 G.cm (gl_of G h5) (hf _ (by decide)) (gl_of G h6) (hf _ (by decide)) (sndE a X sc fn _ G hf (fun n q => hn n (by simp [needs, needss, q])) h8).v (sndE b X sc fn _ G hf (fun n q => hn n (by simp [needs, needss, q])) h9).v s1 (band s2).1) fun _ => rfl
      · cases h2
    · cases h
  | .comp elt tg it c own, X, sc, fn, E, G, hf, hn, h => by
    rw [chkE.eq_def] at h
    simp only at h
    split at h
    · rename_i Elt Tg Iter ifs scope pos
      obtain ⟨h1, h2⟩ := band h
      obtain ⟨h3, k4⟩ := band h1
      obtain ⟨h4, k5⟩ := band k4
      obtain ⟨h5, h6⟩ := band k5
      obtain ⟨h7, k8⟩ := band h2
      obtain ⟨h8, k9⟩ := band k8
      obtain ⟨h9, ha⟩ := band k9
      have ew := of_decide_eq_true h4
      have ok : BlkOk X.N X.env.scope scope (ownL ns own) := by rw [G.nm, G.sco]; exact blkOk_by h5
      have okk : BlkOk ns sc scope (ownL ns own) := blkOk_by h5
      have hsl : ∀ j ∈ slots tg, j ∈ (ownL ns own).map (·.2) := fun j hj => by
        rw [ew]
        have := List.all_eq_true.mp h6 j hj
        simpa using this
      have q : SE X (.ListComp Elt [⟨Tg, Iter, ifs, 0⟩] scope pos) (evalE (.comp elt tg it c ((ownL ns own).map (·.2)))) := by
        refine se_comp G.cm (by rw [G.nm]; exact G.nd) (sndI it X sc fn Tg Iter G hf (nl (nr (nr hn))) h7) ok (fun s H C cl fp => sndT tg _ _ _ Tg (G.blk okk s H C cl fp) hf (nl (nr hn)) h8) (fun s H Cc cl fp => ?_) (fun s H C cl fp => (sndE elt _ _ _ Elt (G.blk okk s H C cl fp) hf (nl hn) h9).v) (noSet_of h3) hsl
        split at ha
        · exact spts_nil
        · exact pts_one (sndE c _ _ _ _ (G.blk okk s H Cc cl fp) hf (nr (nr (nr hn))) ha).t
        · cases ha
      rw [ew] at q
      exact is_of q fun _ => rfl
    · cases h
  | .dcomp kx vx tg it c own, X, sc, fn, E, G, hf, hn, h => by
    rw [chkE.eq_def] at h
    simp only at h
    split at h
    · rename_i Kx Vx Tg Iter ifs scope pos
      obtain ⟨h1, h2⟩ := band h
      obtain ⟨h3, k4⟩ := band h1
      obtain ⟨h4, k5⟩ := band k4
      obtain ⟨h5, h6⟩ := band k5
      obtain ⟨h7, k8⟩ := band h2
      obtain ⟨h8, k9⟩ := band k8
      obtain ⟨h9, ha⟩ := band k9
      obtain ⟨h9, hb⟩ := band h9
      have ew := of_decide_eq_true h4
      have ok : BlkOk X.N X.env.scope scope (ownL ns own) := by rw [G.nm, G.sco]; exact blkOk_by h5
      have okk : BlkOk ns sc scope (ownL ns own) := blkOk_by h5
      have hsl : ∀ j ∈ slots tg, j ∈ (ownL ns own).map (·.2) := fun j hj => by
        rw [ew]
        have := List.all_eq_true.mp h6 j hj
        simpa using this
      have q : SE X (.DictComp Kx Vx [⟨Tg, Iter, ifs, 0⟩] scope pos) (evalE (.dcomp kx vx tg it c ((ownL ns own).map (·.2)))) := by
        refine se_dcomp G.cm (by have := G.room; omega) (by rw [G.nm]; exact G.nd) (sndI it X sc fn Tg Iter G hf (nl (nr (nr (nr hn)))) h7) ok (fun s H C cl fp => sndT tg _ _ _ Tg (G.blk okk s H C cl fp) hf (nl (nr (nr hn))) h8) (fun s H Cc cl fp => ?_) (fun s H C cl fp => (sndE kx _ _ _ Kx (G.blk okk s H C cl fp) hf (nl hn) h9).v) (fun s H C cl fp => (sndE vx _ _ _ Vx (G.blk okk s H C cl fp) hf (nl (nr hn)) hb).v) (noSet_of h3) hsl
        split at ha
        · exact spts_nil
        · exact pts_one (sndE c _ _ _ _ (G.blk okk s H Cc cl fp) hf (nr (nr (nr (nr hn)))) ha).t
        · cases ha
      rw [ew] at q
      exact is_of q fun _ => rfl
    · cases h
  | .abs, X, sc, fn, E, G, hf, hn, h => by simp [chkE] at h
  | .dict kvs, X, sc, fn, E, G, hf, hn, h => by
    rw [chkE.eq_def] at h
    simp only at h
    split at h
    · rename_i ks vs pos
      obtain ⟨h1, h2⟩ := band h
      split at h2
      · rename_i Es e1
        exact is_of (se_dict e1 (sndEs kvs X sc fn _ G hf hn h2) (of_decide_eq_true h1)) fun _ => rfl
      · cases h2
    · cases h
  | .wk .., X, sc, fn, E, G, hf, hn, h => by simp [chkE] at h
  | .rng .., X, sc, fn, E, G, hf, hn, h => by simp [chkE] at h
  | .enum .., X, sc, fn, E, G, hf, hn, h => by simp [chkE] at h
  | .enumz .., X, sc, fn, E, G, hf, hn, h => by simp [chkE] at h
  | .zip .., X, sc, fn, E, G, hf, hn, h => by simp [chkE] at h
  | .items .., X, sc, fn, E, G, hf, hn, h => by simp [chkE] at h
  | .values .., X, sc, fn, E, G, hf, hn, h => by simp [chkE] at h
  | .tgN .., X, sc, fn, E, G, hf, hn, h => by simp [chkE] at h
  | .tgT .., X, sc, fn, E, G, hf, hn, h => by simp [chkE] at h
  | .tgS .., X, sc, fn, E, G, hf, hn, h => by simp [chkE] at h
theorem sndEs : ∀ (xs : List Ex) (X : Cx) (sc : Scope) (fn : Str → Bool) (Es : List Expr), Good X ns sc fn k → (∀ x ∈ BN, X.mg x = none) → (∀ n ∈ needss xs, Met X k n) → chkEs ns xs sc fn Es = true → All2 (Is X) xs Es
  | [], X, sc, fn, Es, G, hf, hn, h => by
    simp only [chkEs] at h
    split at h
    · exact .nil
    · cases h
  | x :: xs, X, sc, fn, Es, G, hf, hn, h => by
    simp only [chkEs] at h
    split at h
    · obtain ⟨h1, h2⟩ := band h
      exact .cons (sndE x X sc fn _ G hf (nl hn) h1) (sndEs xs X sc fn _ G hf (nr hn) h2)
    · cases h
theorem sndI : ∀ (x : Ex) (X : Cx) (sc : Scope) (fn : Str → Bool) (T E : Expr), Good X ns sc fn k → (∀ x ∈ BN, X.mg x = none) → (∀ n ∈ needs x, Met X k n) → chkI ns x sc fn T E = true → SI X T E (evalIt x)
  | .wk a, X, sc, fn, T, E, G, hf, hn, h => by
    simp only [chkI] at h
    exact si_wk (sndE a X sc fn _ G hf hn h).v
  | .rng es, X, sc, fn, T, E, G, hf, hn, h => by
    simp only [chkI] at h
    split at h
    · rename_i x p Es pos
      obtain ⟨h1, h2⟩ := band h
      obtain ⟨h3, k4⟩ := band h1
      obtain ⟨h4, k5⟩ := band k4
      obtain ⟨h5, k6⟩ := band k5
      obtain ⟨h6, h7⟩ := band k6
      have e := of_decide_eq_true h3
      subst e
      have l1 := of_decide_eq_true h6
      have l2 := of_decide_eq_true h7
      have qs := sndEs es X sc fn _ G hf hn h2
      have sa := sa_all qs h5
      have hm := hf "range" (by decide)
      have hg := gl_of G h4
      cases qs with
      | nil => cases l1
      | @cons y A ys As q t =>
        obtain ⟨s1, s2⟩ := band (show (noStar A && noStars As) = true from h5)
        cases t with
        | nil => exact si_rng1 hg hm sa (star_cons s1)
        | @cons y2 A2 ys2 As2 q2 t2 =>
          obtain ⟨s3, s4⟩ := band (show (noStar A2 && noStars As2) = true from s2)
          cases t2 with
          | nil => exact si_rng2 hg hm sa (star_cons s1) (star_cons s3)
          | @cons y3 A3 ys3 As3 q3 t3 =>
            cases t3 with
            | nil => exact si_rng3 hg hm sa (star_cons s1) (star_any s2)
            | cons _ _ => simp at l2
    · cases h
  | .enum a, X, sc, fn, T, E, G, hf, hn, h => by
    simp only [chkI] at h
    split at h
    · obtain ⟨h1, h2⟩ := band h
      obtain ⟨h3, k4⟩ := band h1
      obtain ⟨h4, h5⟩ := band k4
      have e := of_decide_eq_true h3
      subst e
      exact si_enum (gl_of G h4) (hf _ (by decide)) (sndE a X sc fn _ G hf hn h2).v (star_cons h5)
    · cases h
  | .enumz a b, X, sc, fn, T, E, G, hf, hn, h => by
    simp only [chkI] at h
    split at h
    · obtain ⟨h1, h2⟩ := band h
      obtain ⟨h3, k4⟩ := band h1
      obtain ⟨h4, k5⟩ := band k4
      obtain ⟨h5, k6⟩ := band k5
      obtain ⟨h6, k7⟩ := band k6
      obtain ⟨n1, n2⟩ := band k7
      obtain ⟨h7, h8⟩ := band h2
      have e := of_decide_eq_true h3
      subst e
      have e := of_decide_eq_true h5
      subst e
      exact si_enumz (gl_of G h4) (hf _ (by decide)) (gl_of G h6) (hf _ (by decide)) (sndE a X sc fn _ G hf (nl hn) h7).v (sndE b X sc fn _ G hf (nr hn) h8).v (star_cons n1) (star_cons n2) (by rw [star_cons n2]; rfl)
    · cases h
  | .zip a b, X, sc, fn, T, E, G, hf, hn, h => by
    simp only [chkI] at h
    split at h
    · rename_i x p A B pos
      obtain ⟨h1, h2⟩ := band h
      obtain ⟨h3, k4⟩ := band h1
      obtain ⟨h4, k5⟩ := band k4
      obtain ⟨h5, h6⟩ := band k5
      obtain ⟨h7, h8⟩ := band h2
      have e := of_decide_eq_true h3
      subst e
      exact si_zip (gl_of G h4) (hf _ (by decide)) (sndE a X sc fn _ G hf (nl hn) h7).v (sndE b X sc fn _ G hf (nr hn) h8).v (star_cons h5) (star_cons h6) (by rw [star_cons h6]; rfl)
    · cases h
  | .non, X, sc, fn, T, E, G, hf, hn, h => by simp [chkI] at h
  | .bl .., X, sc, fn, T, E, G, hf, hn, h => by simp [chkI] at h
  | .int .., X, sc, fn, T, E, G, hf, hn, h => by simp [chkI] at h
  | .str .., X, sc, fn, T, E, G, hf, hn, h => by simp [chkI] at h
  | .var .., X, sc, fn, T, E, G, hf, hn, h => by simp [chkI] at h
  | .glo .., X, sc, fn, T, E, G, hf, hn, h => by simp [chkI] at h
  | .bin .., X, sc, fn, T, E, G, hf, hn, h => by simp [chkI] at h
  | .neg .., X, sc, fn, T, E, G, hf, hn, h => by simp [chkI] at h
  | .not .., X, sc, fn, T, E, G, hf, hn, h => by simp [chkI] at h
  | .and .., X, sc, fn, T, E, G, hf, hn, h => by simp [chkI] at h
  | .or .., X, sc, fn, T, E, G, hf, hn, h => by simp [chkI] at h
  | .cmp .., X, sc, fn, T, E, G, hf, hn, h => by simp [chkI] at h
  | .ife .., X, sc, fn, T, E, G, hf, hn, h => by simp [chkI] at h
  | .tup .., X, sc, fn, T, E, G, hf, hn, h => by simp [chkI] at h
  | .lst .., X, sc, fn, T, E, G, hf, hn, h => by simp [chkI] at h
  | .idx .., X, sc, fn, T, E, G, hf, hn, h => by simp [chkI] at h
  | .slc .., X, sc, fn, T, E, G, hf, hn, h => by simp [chkI] at h
  | .call .., X, sc, fn, T, E, G, hf, hn, h => by simp [chkI] at h
  | .callk .., X, sc, fn, T, E, G, hf, hn, h => by simp [chkI] at h
  | .blt .., X, sc, fn, T, E, G, hf, hn, h => by simp [chkI] at h
  | .setlen .., X, sc, fn, T, E, G, hf, hn, h => by simp [chkI] at h
  | .meth .., X, sc, fn, T, E, G, hf, hn, h => by simp [chkI] at h
  | .rngT .., X, sc, fn, T, E, G, hf, hn, h => by simp [chkI] at h
  | .rngL .., X, sc, fn, T, E, G, hf, hn, h => by simp [chkI] at h
  | .comp .., X, sc, fn, T, E, G, hf, hn, h => by simp [chkI] at h
  | .abs, X, sc, fn, T, E, G, hf, hn, h => by simp [chkI] at h
  | .dcomp .., X, sc, fn, T, E, G, hf, hn, h => by simp [chkI] at h
  | .dict .., X, sc, fn, T, E, G, hf, hn, h => by simp [chkI] at h
  | .items .., X, sc, fn, T, E, G, hf, hn, h => by simp [chkI] at h
  | .values .., X, sc, fn, T, E, G, hf, hn, h => by simp [chkI] at h
  | .tgN .., X, sc, fn, T, E, G, hf, hn, h => by simp [chkI] at h
  | .tgT .., X, sc, fn, T, E, G, hf, hn, h => by simp [chkI] at h
  | .tgS .., X, sc, fn, T, E, G, hf, hn, h => by simp [chkI] at h
theorem sndT : ∀ (x : Ex) (X : Cx) (sc : Scope) (fn : Str → Bool) (E : Expr), Good X ns sc fn k → (∀ x ∈ BN, X.mg x = none) → (∀ n ∈ needs x, Met X k n) → chkT ns x sc fn E = true → SG X E x
  | .tgN i, X, sc, fn, E, G, hf, hn, h => by
    simp only [chkT] at h
    split at h
    · obtain ⟨h1, h2⟩ := band h
      obtain ⟨l1, l2⟩ := loc_of h2
      exact sg_name (by rw [G.nm]; exact G.nd) (by rw [G.nm]; exact of_decide_eq_true h1) (by rw [G.sco]; exact l1) (by rw [G.fns, G.sco]; exact l2)
    · cases h
  | .tgT ts, X, sc, fn, E, G, hf, hn, h => by
    simp only [chkT] at h
    split at h
    · obtain ⟨h1, h2⟩ := band h
      obtain ⟨q, ql⟩ := sndTs ts X sc fn _ G hf hn h2 h1
      obtain ⟨a1, a2⟩ := asg_len (env := X.env) h1
      exact sg_tup G.cm q (by rw [a1, ql]) a2
    · cases h
  | .tgS o i, X, sc, fn, E, G, hf, hn, h => by
    simp only [chkT] at h
    split at h
    · obtain ⟨h1, h2⟩ := band h
      obtain ⟨h2, h3⟩ := band h2
      exact sg_sub (by have := G.room; omega) (sndE o X sc fn _ G hf (nl hn) h2).v (sndE i X sc fn _ G hf (nr hn) h3).v (sub_set h1)
    · cases h
  | .non, X, sc, fn, E, G, hf, hn, h => by simp [chkT] at h
  | .bl .., X, sc, fn, E, G, hf, hn, h => by simp [chkT] at h
  | .int .., X, sc, fn, E, G, hf, hn, h => by simp [chkT] at h
  | .str .., X, sc, fn, E, G, hf, hn, h => by simp [chkT] at h
  | .var .., X, sc, fn, E, G, hf, hn, h => by simp [chkT] at h
  | .glo .., X, sc, fn, E, G, hf, hn, h => by simp [chkT] at h
  | .bin .., X, sc, fn, E, G, hf, hn, h => by simp [chkT] at h
  | .neg .., X, sc, fn, E, G, hf, hn, h => by simp [chkT] at h
  | .not .., X, sc, fn, E, G, hf, hn, h => by simp [chkT] at h
  | .and .., X, sc, fn, E, G, hf, hn, h => by simp [chkT] at h
  | .or .., X, sc, fn, E, G, hf, hn, h => by simp [chkT] at h
  | .cmp .., X, sc, fn, E, G, hf, hn, h => by simp [chkT] at h
  | .ife .., X, sc, fn, E, G, hf, hn, h => by simp [chkT] at h
  | .tup .., X, sc, fn, E, G, hf, hn, h => by simp [chkT] at h
  | .lst .., X, sc, fn, E, G, hf, hn, h => by simp [chkT] at h
  | .idx .., X, sc, fn, E, G, hf, hn, h => by simp [chkT] at h
  | .slc .., X, sc, fn, E, G, hf, hn, h => by simp [chkT] at h
  | .call .., X, sc, fn, E, G, hf, hn, h => by simp [chkT] at h
  | .callk .., X, sc, fn, E, G, hf, hn, h => by simp [chkT] at h
  | .blt .., X, sc, fn, E, G, hf, hn, h => by simp [chkT] at h
  | .setlen .., X, sc, fn, E, G, hf, hn, h => by simp [chkT] at h
  | .enumz .., X, sc, fn, E, G, hf, hn, h => by simp [chkT] at h
  | .meth .., X, sc, fn, E, G, hf, hn, h => by simp [chkT] at h
  | .rngT .., X, sc, fn, E, G, hf, hn, h => by simp [chkT] at h
  | .rngL .., X, sc, fn, E, G, hf, hn, h => by simp [chkT] at h
  | .comp .., X, sc, fn, E, G, hf, hn, h => by simp [chkT] at h
  | .abs, X, sc, fn, E, G, hf, hn, h => by simp [chkT] at h
  | .dcomp .., X, sc, fn, E, G, hf, hn, h => by simp [chkT] at h
  | .dict .., X, sc, fn, E, G, hf, hn, h => by simp [chkT] at h
  | .items .., X, sc, fn, E, G, hf, hn, h => by simp [chkT] at h
  | .values .., X, sc, fn, E, G, hf, hn, h => by simp [chkT] at h
  | .wk .., X, sc, fn, E, G, hf, hn, h => by simp [chkT] at h
  | .rng .., X, sc, fn, E, G, hf, hn, h => by simp [chkT] at h
  | .enum .., X, sc, fn, E, G, hf, hn, h => by simp [chkT] at h
  | .zip .., X, sc, fn, E, G, hf, hn, h => by simp [chkT] at h
theorem sndTs : ∀ (xs : List Ex) (X : Cx) (sc : Scope) (fn : Str → Bool) (Es : List Expr), Good X ns sc fn k → (∀ x ∈ BN, X.mg x = none) → (∀ n ∈ needss xs, Met X k n) → chkTs ns xs sc fn Es = true → noStars Es = true → SGs X Es xs ∧ Es.length = xs.length
  | [], X, sc, fn, Es, G, hf, hn, h, hs => by
    simp only [chkTs] at h
    split at h
    · exact ⟨sgs_nil, rfl⟩
    · cases h
  | x :: xs, X, sc, fn, Es, G, hf, hn, h, hs => by
    simp only [chkTs] at h
    split at h
    · rename_i E Es
      obtain ⟨h1, h2⟩ := band h
      obtain ⟨s1, s2⟩ := band (show (noStar E && noStars Es) = true from hs)
      obtain ⟨q, ql⟩ := sndTs xs X sc fn _ G hf (nr hn) h2 s2
      exact ⟨sgs_cons (sndT x X sc fn _ G hf (nl hn) h1) q (by rw [asg_cons s1]; rfl), by rw [List.length_cons, List.length_cons, ql]⟩
    · cases h
end
end
end N
set_option autoImplicit false
set_option Elab.async false
set_option linter.all false
set_option maxRecDepth 100000
set_option maxHeartbeats 4000000
namespace N
open PySem L2 PySem.Spec PyProof.Rows
/-! ### stores: what swaps, what is stored from the right -/
theorem sw_false {elt : Expr} {gs : List Comprehension} {scope : Scope} {pos py : Pos} {y : Str} {l : Nat} {env : PySem.Env} (h : (decide (env.scope.names.lookup y = some .local) && (py.line == pos.line)) = false) : swapsWith (.ListComp elt gs scope pos) (some (.Name y py)) l env = pure false := by
  unfold swapsWith
  show (pure (env.blockKind == .function && env.kindOf y == some .local && py.line == pos.line && !(scope.names.any fun (n, k) => n == y && (k == .local || k == .cell))) : Sem Bool) = pure false
  congr 1
  have e : (env.kindOf y == some NameKind.local) = decide (env.scope.names.lookup y = some .local) := by
    unfold Env.kindOf
    by_cases c : env.scope.names.lookup y = some .local
    · rw [c]; rfl
    · rw [decide_eq_false c]; simpa using c
  rw [e]
  have h2 : ∀ a b c d : Bool, (b && c) = false → (a && b && c && d) = false := by decide
  exact h2 _ _ _ _ h
theorem sw_falseD {kx vx : Expr} {gs : List Comprehension} {scope : Scope} {pos py : Pos} {y : Str} {l : Nat} {env : PySem.Env} (h : (decide (env.scope.names.lookup y = some .local) && (py.line == pos.line)) = false) : swapsWith (.DictComp kx vx gs scope pos) (some (.Name y py)) l env = pure false := by
  unfold swapsWith
  show (pure (env.blockKind == .function && env.kindOf y == some .local && py.line == pos.line && !(scope.names.any fun (n, k) => n == y && (k == .local || k == .cell))) : Sem Bool) = pure false
  congr 1
  have e : (env.kindOf y == some NameKind.local) = decide (env.scope.names.lookup y = some .local) := by
    unfold Env.kindOf
    by_cases c : env.scope.names.lookup y = some .local
    · rw [c]; rfl
    · rw [decide_eq_false c]; simpa using c
  rw [e]
  have h2 : ∀ a b c d : Bool, (b && c) = false → (a && b && c && d) = false := by decide
  exact h2 _ _ _ _ h
theorem sw_trueD {kx vx : Expr} {gs : List Comprehension} {scope : Scope} {pos py : Pos} {y : Str} {l : Nat} {env : PySem.Env} (hk : env.scope.kind = .function) (hy : env.scope.names.lookup y = some .local) (hl : (py.line == pos.line) = true)
    (ha : (scope.names.any fun (n, k) => n == y && (k == .local || k == .cell)) = false) : swapsWith (.DictComp kx vx gs scope pos) (some (.Name y py)) l env = pure true := by
  unfold swapsWith
  show (pure (env.blockKind == .function && env.kindOf y == some .local && py.line == pos.line && !(scope.names.any fun (n, k) => n == y && (k == .local || k == .cell))) : Sem Bool) = pure true
  rw [ha, hl, show env.kindOf y = some .local from hy, show env.blockKind = .function by unfold Env.blockKind; rw [hk]; rfl]
  rfl
/-- the names that a tuple of targets is -/
def nameAt (sc : Scope) (line : Nat) : Expr → Option Str
  | .Name id pos => if sc.names.lookup id == some .local && pos.line == line then some id else none
  | _ => none
def lineAt (ts : List Expr) : Nat := (ts.head?.map (·.pos.line)).getD 0
/-- no parallel stores -/
def parNo (sc : Scope) (tg V : Expr) : Bool := match tg, V with
  | .Tuple ts _ _, .Tuple vs _ _ => decide ((ts.filterMap (nameAt sc (lineAt ts))).length ≠ ts.length) || vs.all (foldedForSure 8)
  | .List _ _, _ => false
  | _, _ => true
def parYes (sc : Scope) (ts vs : List Expr) (names : List Str) : Bool :=
  ((decide (ts.length = 2) || decide (ts.length = 3)) && decide (vs.length = ts.length)) && ((noStars vs && decide (ts.filterMap (nameAt sc (lineAt ts)) = names)) &&
    ((decide (names.length = ts.length) && decide (names.eraseDups.length = names.length)) && (!vs.all (foldedForSure 8) && !vs.all (constantsAlone 8))))
theorem noStar_any : ∀ {vs : List Expr}, noStars vs = true → (vs.any fun | .Starred .. => true | _ => false) = false
  | [], _ => rfl
  | e :: es, h => by
    obtain ⟨h1, h2⟩ := Bool.and_eq_true_iff.mp (show (noStar e && noStars es) = true from h)
    rw [List.any_cons, noStar_any h2]
    cases e <;> first | rfl | cases h1
theorem sws_eq {ts vs : List Expr} {k k2 p p2} {env : PySem.Env} : swappedStores [.Tuple ts k p] (.Tuple vs k2 p2) env =
    (if (!(ts.length == 2 || ts.length == 3) || vs.length != ts.length || env.blockKind != .function) = true then pure none
    else if (vs.any fun | .Starred .. => true | _ => false) = true then pure none
    else if ((ts.filterMap (nameAt env.scope (lineAt ts))).length != ts.length || (ts.filterMap (nameAt env.scope (lineAt ts))).eraseDups.length != (ts.filterMap (nameAt env.scope (lineAt ts))).length) = true then pure none
    else if vs.all (foldedForSure 8) = true then pure none
    else if vs.all (constantsAlone 8) = true then (do unsupported "assign.tuple-of-constant-expressions:order-of-the-stores"; pure (some (ts.filterMap (nameAt env.scope (lineAt ts)))))
    else pure (some (ts.filterMap (nameAt env.scope (lineAt ts))))) := by
  first
    | rfl
    | (unfold swappedStores; simp only [pure_bind]; rfl)
theorem par_no {tg V : Expr} {env : PySem.Env} (h : parNo env.scope tg V = true) : swappedStores [tg] V env = pure none := by
  unfold parNo at h
  split at h
  · rename_i ts k p vs k2 p2
    rw [sws_eq]
    split
    · rfl
    · split
      · rfl
      · split
        · rfl
        · rename_i c3
          rcases Bool.or_eq_true_iff.mp h with h | h
          · have h := of_decide_eq_true h
            exfalso
            apply c3
            rw [Bool.or_eq_true]
            exact .inl (by simpa using h)
          · rw [if_pos h]
  · cases h
  · rename_i h1 h2
    cases tg with
    | Tuple ts k p =>
      cases V with
      | Tuple vs k2 p2 => exact (h2 _ _ _ _ _ _ rfl rfl).elim
      | _ => rfl
    | List ts p => exact (h1 _ _ rfl).elim
    | _ => rfl
theorem par_yes {ts vs : List Expr} {k k2 p p2} {env : PySem.Env} {names : List Str} (hk : env.scope.kind = .function) (h : parYes env.scope ts vs names = true) : swappedStores [.Tuple ts k p] (.Tuple vs k2 p2) env = pure (some names) := by
  unfold parYes at h
  obtain ⟨h1, h2⟩ := band h
  obtain ⟨h3, h4⟩ := band h1
  obtain ⟨h5, h6⟩ := band h2
  obtain ⟨h7, h8⟩ := band h5
  obtain ⟨h9, ha⟩ := band h6
  obtain ⟨hb, hc⟩ := band h9
  obtain ⟨hd, he⟩ := band ha
  have e := of_decide_eq_true h8
  have hbk : env.blockKind = .function := by unfold Env.blockKind; rw [hk]; rfl
  rw [sws_eq, e]
  have c1 : (!(ts.length == 2 || ts.length == 3) || vs.length != ts.length || env.blockKind != .function) = false := by
    rw [hbk, of_decide_eq_true h4]
    rcases Bool.or_eq_true_iff.mp h3 with q | q
    · rw [of_decide_eq_true q]; rfl
    · rw [of_decide_eq_true q]; rfl
  have c3 : (names.length != ts.length || names.eraseDups.length != names.length) = false := by
    rw [of_decide_eq_true hb, of_decide_eq_true hc]; simp [of_decide_eq_true hb]
  rw [if_neg (by rw [c1]; exact Bool.false_ne_true), if_neg (by rw [noStar_any h7]; exact Bool.false_ne_true), if_neg (by rw [c3]; exact Bool.false_ne_true), if_neg (by simpa using hd), if_neg (by simpa using he)]
theorem noSole_of {E t : Expr} {l : Nat} {env : PySem.Env} (h : noSwap E = true) : swapsWithSole [t] E l env = pure false := noSwap_of (t := some t) h
theorem sole_tup (V : Expr) {ts : List Expr} {k : Nat} {p : Pos} {l : Nat} {env : PySem.Env} : swapsWithSole [.Tuple ts k p] V l env = pure false := by cases V <;> rfl
theorem sole_sub (V : Expr) {O I : Expr} {p : Pos} {l : Nat} {env : PySem.Env} : swapsWithSole [.Subscript O I p] V l env = pure false := by cases V <;> rfl
/-! ### the checks of statements -/
mutual
def needsS : St → List Need
  | .asg t x => needs t ++ needs x
  | .ex x => needs x
  | .ife c a b => needs c ++ (needsSs a ++ needsSs b)
  | .forS t it b => needs t ++ (needs it ++ needsSs b)
  | .wh _ c b => needs c ++ needsSs b
  | .ret x => needs x
  | _ => []
def needsSs : List St → List Need
  | [] => []
  | s :: ss => needsS s ++ needsSs ss
end
def isLc : Expr → Bool
  | .ListComp .. => true
  | _ => false
/-- name = value -/
def chkNm (ns : List Str) (sc : Scope) (fn : Str → Bool) (t x : Ex) (y : Str) (py : Pos) (V : Expr) : Bool := chkE ns x sc fn V && match V with
  | .ListComp _ _ scope pos => match (decide (sc.names.lookup y = some .local) && (py.line == pos.line)) with
    | false => true
    | true => !(scope.names.any fun (n, k) => n == y && (k == .local || k == .cell))
  | .DictComp _ _ _ scope pos => match (decide (sc.names.lookup y = some .local) && (py.line == pos.line)) with
    | false => true
    | true => !(scope.names.any fun (n, k) => n == y && (k == .local || k == .cell))
  | _ => noSwap V
mutual
def chkS (ns : List Str) (sc : Scope) (fn : Str → Bool) : St → Stmt → Bool
  | .asg t x, E => match E with
    | .Assign [tg] V pos => (match tg with
      | .Name y py => chkT ns t sc fn (.Name y py) && chkNm ns sc fn t x y py V
      | .Tuple ts kt pt => (match parNo sc (.Tuple ts kt pt) V with
        | true => chkT ns t sc fn (.Tuple ts kt pt) && chkE ns x sc fn V
        | false => match t, x, ts, V with
          | .tgT [.tgN i, .tgN j], .tup [a, b], [.Name n1 _, .Name n2 _], .Tuple [A, B] _ _ =>
            (parYes sc ts [A, B] [n1, n2] && ((decide (ns[i]? = some n1) && decide (ns[j]? = some n2)) && (decide (i ≠ j) && (decide (sc.names.lookup n1 = some .local) && decide (sc.names.lookup n2 = some .local))))) && (chkE ns a sc fn A && chkE ns b sc fn B)
          | .tgT [.tgN i, .tgN j, .tgN l], .tup [a, b, c], [.Name n1 _, .Name n2 _, .Name n3 _], .Tuple [A, B, C] _ _ =>
            (parYes sc ts [A, B, C] [n1, n2, n3] && ((decide (ns[i]? = some n1) && (decide (ns[j]? = some n2) && decide (ns[l]? = some n3))) && ((decide (i ≠ j) && (decide (i ≠ l) && decide (j ≠ l))) && (decide (sc.names.lookup n1 = some .local) && (decide (sc.names.lookup n2 = some .local) && decide (sc.names.lookup n3 = some .local)))))) && (chkE ns a sc fn A && (chkE ns b sc fn B && chkE ns c sc fn C))
          | _, _, _, _ => false)
      | .Subscript O I p => chkT ns t sc fn (.Subscript O I p) && chkE ns x sc fn V
      | _ => false)
    | _ => false
  | .ex x, E => match E with
    | .Expr V _ => noSwap V && chkE ns x sc fn V
    | _ => false
  | .ife c a b, E => match E with
    | .If C A B _ => chkE ns c sc fn C && (chkSs ns sc fn a A && chkSs ns sc fn b B)
    | _ => false
  | .forS t it b, E => match E with
    | .For Tg Iter B [] _ => noSet Iter && (chkI ns it sc fn Tg Iter && (chkT ns t sc fn Tg && chkSs ns sc fn b B))
    | _ => false
  | .wh _ c b, E => match E with
    | .While C B [] _ => chkE ns c sc fn C && chkSs ns sc fn b B
    | _ => false
  | .ret x, E => match E with
    | .Return (some V) _ => chkE ns x sc fn V
    | _ => false
  | .retN, E => match E with
    | .Return none _ => true
    | _ => false
  | .brk, E => match E with
    | .Break _ => true
    | _ => false
  | .pass, E => match E with
    | .Pass _ => true
    | .Expr (.Constant (.str _) _ _) _ => true
    | _ => false
  | .never, _ => true
def chkSs (ns : List Str) (sc : Scope) (fn : Str → Bool) : List St → List Stmt → Bool
  | [], E => match E with
    | [] => true
    | _ => false
  | s :: ss, E => match E with
    | e :: es => chkS ns sc fn s e && chkSs ns sc fn ss es
    | _ => false
end
section
variable {X : Cx} {ns : List Str} {sc : Scope} {fn : Str → Bool} {k : Nat}
/-- a comprehension's parts, read off its check -/
theorem comp_parts {elt tg it c : Ex} {own : List Nat} {E : Expr} (G : Good X ns sc fn k) (hf : ∀ x ∈ BN, X.mg x = none) (hn : ∀ n ∈ needs (.comp elt tg it c own), Met X k n) (h : chkE ns (.comp elt tg it c own) sc fn E = true) :
    ∃ Elt Tg Iter ifs scope pos, E = .ListComp Elt [⟨Tg, Iter, ifs, 0⟩] scope pos ∧ (ownL ns own).map (·.2) = own ∧ SI X Tg Iter (evalIt it) ∧ BlkOk X.N X.env.scope scope (ownL ns own) ∧
    (∀ (s : Shared) (H : Hp) (C : Addr) (cl : List (Str × Addr)) (fp : List Addr), SG (X.blk s H scope (compEnvC scope cl C X.env) fp) Tg tg) ∧
    (∀ (s : Shared) (H : Hp) (C : Addr) (cl : List (Str × Addr)) (fp : List Addr), PTs (X.blk s H scope (compEnvC scope cl C X.env) fp) ifs (TTv X.K (evalE c))) ∧
    (∀ (s : Shared) (H : Hp) (C : Addr) (cl : List (Str × Addr)) (fp : List Addr), SE (X.blk s H scope (compEnvC scope cl C X.env) fp) Elt (evalE elt)) ∧
    (∀ x, foldedSetIterable Iter X.env x = pure x) ∧ ∀ j ∈ slots tg, j ∈ (ownL ns own).map (·.2) := by
  rw [chkE.eq_def] at h
  simp only at h
  split at h
  · rename_i Elt Tg Iter ifs scope pos
    obtain ⟨h1, h2⟩ := band h
    obtain ⟨h3, k4⟩ := band h1
    obtain ⟨h4, k5⟩ := band k4
    obtain ⟨h5, h6⟩ := band k5
    obtain ⟨h7, k8⟩ := band h2
    obtain ⟨h8, k9⟩ := band k8
    obtain ⟨h9, ha⟩ := band k9
    have ew := of_decide_eq_true h4
    have okk : BlkOk ns sc scope (ownL ns own) := blkOk_by h5
    refine ⟨Elt, Tg, Iter, ifs, scope, pos, rfl, ew, sndI it X sc fn Tg Iter G hf (nl (nr (nr hn))) h7, by rw [G.nm, G.sco]; exact okk, fun s H C cl fp => sndT tg _ _ _ Tg (G.blk okk s H C cl fp) hf (nl (nr hn)) h8, fun s H Cc cl fp => ?_,
      fun s H C cl fp => (sndE elt _ _ _ Elt (G.blk okk s H C cl fp) hf (nl hn) h9).v, noSet_of h3, fun j hj => ?_⟩
    · split at ha
      · exact spts_nil
      · exact pts_one (sndE c _ _ _ _ (G.blk okk s H Cc cl fp) hf (nr (nr (nr hn))) ha).t
      · cases ha
    · rw [ew]
      have := List.all_eq_true.mp h6 j hj
      simpa using this
  · cases h
/-- a comprehension's parts, read off its check -/
theorem dcomp_parts {kx vx tg it c : Ex} {own : List Nat} {E : Expr} (G : Good X ns sc fn k) (hf : ∀ x ∈ BN, X.mg x = none) (hn : ∀ n ∈ needs (.dcomp kx vx tg it c own), Met X k n) (h : chkE ns (.dcomp kx vx tg it c own) sc fn E = true) :
    ∃ Kx Vx Tg Iter ifs scope pos, E = .DictComp Kx Vx [⟨Tg, Iter, ifs, 0⟩] scope pos ∧ (ownL ns own).map (·.2) = own ∧ SI X Tg Iter (evalIt it) ∧ BlkOk X.N X.env.scope scope (ownL ns own) ∧
    (∀ (s : Shared) (H : Hp) (C : Addr) (cl : List (Str × Addr)) (fp : List Addr), SG (X.blk s H scope (compEnvC scope cl C X.env) fp) Tg tg) ∧
    (∀ (s : Shared) (H : Hp) (C : Addr) (cl : List (Str × Addr)) (fp : List Addr), PTs (X.blk s H scope (compEnvC scope cl C X.env) fp) ifs (TTv X.K (evalE c))) ∧
    (∀ (s : Shared) (H : Hp) (C : Addr) (cl : List (Str × Addr)) (fp : List Addr), SE (X.blk s H scope (compEnvC scope cl C X.env) fp) Kx (evalE kx)) ∧
    (∀ (s : Shared) (H : Hp) (C : Addr) (cl : List (Str × Addr)) (fp : List Addr), SE (X.blk s H scope (compEnvC scope cl C X.env) fp) Vx (evalE vx)) ∧
    (∀ x, foldedSetIterable Iter X.env x = pure x) ∧ ∀ j ∈ slots tg, j ∈ (ownL ns own).map (·.2) := by
  rw [chkE.eq_def] at h
  simp only at h
  split at h
  · rename_i Kx Vx Tg Iter ifs scope pos
    obtain ⟨h1, h2⟩ := band h
    obtain ⟨h3, k4⟩ := band h1
    obtain ⟨h4, k5⟩ := band k4
    obtain ⟨h5, h6⟩ := band k5
    obtain ⟨h7, k8⟩ := band h2
    obtain ⟨h8, k9⟩ := band k8
    obtain ⟨h9, ha⟩ := band k9
    obtain ⟨h9, hb⟩ := band h9
    have ew := of_decide_eq_true h4
    have okk : BlkOk ns sc scope (ownL ns own) := blkOk_by h5
    refine ⟨Kx, Vx, Tg, Iter, ifs, scope, pos, rfl, ew, sndI it X sc fn Tg Iter G hf (nl (nr (nr (nr hn)))) h7, by rw [G.nm, G.sco]; exact okk, fun s H C cl fp => sndT tg _ _ _ Tg (G.blk okk s H C cl fp) hf (nl (nr (nr hn))) h8, fun s H Cc cl fp => ?_,
      fun s H C cl fp => (sndE kx _ _ _ Kx (G.blk okk s H C cl fp) hf (nl hn) h9).v, fun s H C cl fp => (sndE vx _ _ _ Vx (G.blk okk s H C cl fp) hf (nl (nr hn)) hb).v, noSet_of h3, fun j hj => ?_⟩
    · split at ha
      · exact spts_nil
      · exact pts_one (sndE c _ _ _ _ (G.blk okk s H Cc cl fp) hf (nr (nr (nr (nr hn)))) ha).t
      · cases ha
    · rw [ew]
      have := List.all_eq_true.mp h6 j hj
      simpa using this
  · cases h
theorem lc_shape {x : Ex} {Elt : Expr} {gs : List Comprehension} {scope : Scope} {pos : Pos} (h : chkE ns x sc fn (.ListComp Elt gs scope pos) = true) : ∃ elt tg it c own, x = .comp elt tg it c own := by
  cases x with
  | comp elt tg it c own => exact ⟨_, _, _, _, _, rfl⟩
  | _ => rw [chkE.eq_def] at h; simp at h
theorem dc_shape {x : Ex} {Kx Vx : Expr} {gs : List Comprehension} {scope : Scope} {pos : Pos} (h : chkE ns x sc fn (.DictComp Kx Vx gs scope pos) = true) : ∃ kx vx tg it c own, x = .dcomp kx vx tg it c own := by
  cases x with
  | dcomp kx vx tg it c own => exact ⟨_, _, _, _, _, _, rfl⟩
  | _ => rw [chkE.eq_def] at h; simp at h
theorem snd_nm {t x : Ex} {y : Str} {py : Pos} {V : Expr} {pos : Pos} (G : Good X ns sc fn k) (hf : ∀ x ∈ BN, X.mg x = none) (hn : ∀ n ∈ needs t ++ needs x, Met X k n) (h1 : chkT ns t sc fn (.Name y py) = true) (h2 : chkNm ns sc fn t x y py V = true) : SS X (.Assign [.Name y py] V pos) (execS (.asg t x)) := by
  have hg := sndT t X sc fn _ G hf (nl hn) h1
  obtain ⟨h3, h4⟩ := band h2
  have plain : swapsWith V (some (.Name y py)) pos.line X.env = pure false → (∀ E, swappedStores [.Name y py] E X.env = pure none) → SS X (.Assign [.Name y py] V pos) (execS (.asg t x)) := fun q1 q2 => ss_asg (sndE x X sc fn _ G hf (nr hn) h3).v hg q1 (q2 V) rfl
  split at h4
  · rename_i Elt gs scope lp
    split at h4
    · rename_i c
      exact plain (sw_false (by rw [G.sco]; exact c)) fun _ => rfl
    · rename_i c
      obtain ⟨c1, c2⟩ := band c
      have hl := of_decide_eq_true c1
      obtain ⟨elt, tg, it, cc, own, rfl⟩ := lc_shape h3
      obtain ⟨Elt', Tg, Iter, ifs, scope', lp', ee, ew, q1, q2, q3, q4, q5, q6, q7⟩ := comp_parts G hf (nr hn) h3
      cases ee
      -- the target is a name
      have ht : ∃ i, t = .tgN i ∧ ns[i]? = some y := by
        cases t with
        | tgN i =>
          simp only [chkT] at h1
          exact ⟨i, rfl, of_decide_eq_true (band h1).1⟩
        | _ => simp [chkT] at h1
      obtain ⟨i, rfl, hi⟩ := ht
      have q := ss_setLc (spos := pos) (pos := lp) (py := py) (t := tg) (it := it) (c := cc) (elt := elt) G.cm (by rw [G.nm]; exact G.nd) (by rw [G.nm]; exact hi) (by rw [G.sco]; exact hl) (sw_true (by rw [G.sco]; exact G.kd) (by rw [G.sco]; exact hl) c2 (by simpa using h4)) q1 q2 q3 q4 q5 q6 q7
      rw [ew] at q
      exact q
  · rename_i Kx Vx gs scope lp
    split at h4
    · rename_i c
      exact plain (sw_falseD (by rw [G.sco]; exact c)) fun _ => rfl
    · rename_i c
      obtain ⟨c1, c2⟩ := band c
      have hl := of_decide_eq_true c1
      obtain ⟨kx, vx, tg, it, cc, own, rfl⟩ := dc_shape h3
      obtain ⟨Kx', Vx', Tg, Iter, ifs, scope', lp', ee, ew, q1, q2, q3, q4, q5, q5b, q6, q7⟩ := dcomp_parts G hf (nr hn) h3
      cases ee
      -- the target is a name
      have ht : ∃ i, t = .tgN i ∧ ns[i]? = some y := by
        cases t with
        | tgN i =>
          simp only [chkT] at h1
          exact ⟨i, rfl, of_decide_eq_true (band h1).1⟩
        | _ => simp [chkT] at h1
      obtain ⟨i, rfl, hi⟩ := ht
      have q := ss_setDc (spos := pos) (pos := lp) (py := py) (t := tg) (it := it) (c := cc) (kx := kx) (vx := vx) G.cm (by have := G.room; omega) (by rw [G.nm]; exact G.nd) (by rw [G.nm]; exact hi) (by rw [G.sco]; exact hl) (sw_trueD (by rw [G.sco]; exact G.kd) (by rw [G.sco]; exact hl) c2 (by simpa using h4)) q1 q2 q3 q4 q5 q5b q6 q7
      rw [ew] at q
      exact q
  · exact plain (noSwap_of h4) fun _ => rfl
mutual
theorem sndS : ∀ (s : St) (E : Stmt) (X : Cx), Good X ns sc fn k → (∀ x ∈ BN, X.mg x = none) → (∀ n ∈ needsS s, Met X k n) → chkS ns sc fn s E = true → SS X E (execS s)
  | .asg t x, E, X, G, hf, hn, h => by
    rw [chkS.eq_def] at h
    simp only at h
    split at h
    · rename_i tg V pos
      split at h
      · rename_i y py
        obtain ⟨h1, h2⟩ := band h
        exact snd_nm G hf hn h1 h2
      · rename_i ts kt pt
        split at h
        · rename_i hp
          obtain ⟨h3, h4⟩ := band h
          exact ss_asg (sndE x X sc fn _ G hf (nr hn) h4).v (sndT t X sc fn _ G hf (nl hn) h3) (sole_tup V) (par_no (by rw [G.sco]; exact hp)) rfl
        · split at h
          · rename_i i j a b n1 p1 n2 p2 A B k2 pt2 _
            obtain ⟨h1, h2⟩ := band h
            obtain ⟨h3, k4⟩ := band h1
            obtain ⟨k5, k6⟩ := band k4
            obtain ⟨h5, h6⟩ := band k5
            obtain ⟨h7, k8⟩ := band k6
            obtain ⟨h8, h9⟩ := band k8
            obtain ⟨ha, hb⟩ := band h2
            have hs : noStars [A, B] = true := (band (band (band h3).2).1).1
            have hn' := nr hn
            exact ss_par2 G.cm (by rw [G.nm]; exact G.nd) (by rw [G.nm]; exact of_decide_eq_true h5) (by rw [G.nm]; exact of_decide_eq_true h6) (of_decide_eq_true h7) (by rw [G.sco]; exact of_decide_eq_true h8) (by rw [G.sco]; exact of_decide_eq_true h9)
              (sa_all (.cons (sndE a X sc fn _ G hf (nl hn') ha) (.cons (sndE b X sc fn _ G hf (nl (nr hn')) hb) .nil)) hs) (par_yes (by rw [G.sco]; exact G.kd) (by rw [G.sco]; exact h3))
          · rename_i i j l a b c n1 p1 n2 p2 n3 p3 A B C k2 pt2 _
            obtain ⟨h1, h2⟩ := band h
            obtain ⟨h3, k4⟩ := band h1
            obtain ⟨k5, k6⟩ := band k4
            obtain ⟨h5, m6⟩ := band k5
            obtain ⟨h6, h7⟩ := band m6
            obtain ⟨m7, m8⟩ := band k6
            obtain ⟨e1, m9⟩ := band m7
            obtain ⟨e2, e3⟩ := band m9
            obtain ⟨l1, ma⟩ := band m8
            obtain ⟨l2, l3⟩ := band ma
            obtain ⟨ha, mb⟩ := band h2
            obtain ⟨hb, hc⟩ := band mb
            have hs : noStars [A, B, C] = true := (band (band (band h3).2).1).1
            have hn' := nr hn
            exact ss_par3 G.cm (by rw [G.nm]; exact G.nd) (by rw [G.nm]; exact of_decide_eq_true h5) (by rw [G.nm]; exact of_decide_eq_true h6) (by rw [G.nm]; exact of_decide_eq_true h7) (of_decide_eq_true e1) (of_decide_eq_true e2) (of_decide_eq_true e3) (by rw [G.sco]; exact of_decide_eq_true l1) (by rw [G.sco]; exact of_decide_eq_true l2) (by rw [G.sco]; exact of_decide_eq_true l3)
              (sa_all (.cons (sndE a X sc fn _ G hf (nl hn') ha) (.cons (sndE b X sc fn _ G hf (nl (nr hn')) hb) (.cons (sndE c X sc fn _ G hf (nl (nr (nr hn'))) hc) .nil))) hs) (par_yes (by rw [G.sco]; exact G.kd) (by rw [G.sco]; exact h3))
          · cases h
      · rename_i O I p
        obtain ⟨h3, h4⟩ := band h
        exact ss_asg (sndE x X sc fn _ G hf (nr hn) h4).v (sndT t X sc fn _ G hf (nl hn) h3) (sole_sub V) rfl rfl
      · cases h
    · cases h
  | .ex x, E, X, G, hf, hn, h => by
    simp only [chkS] at h
    split at h
    · obtain ⟨h1, h2⟩ := band h
      exact ss_ex (sndE x X sc fn _ G hf hn h2).v (noSwap_of h1)
    · cases h
  | .ife c a b, E, X, G, hf, hn, h => by
    simp only [chkS] at h
    split at h
    · obtain ⟨h1, h2⟩ := band h
      obtain ⟨h2, h3⟩ := band h2
      exact ss_ife (sndE c X sc fn _ G hf (nl hn) h1).t (sndSs a _ X G hf (nl (nr hn)) h2) (sndSs b _ X G hf (nr (nr hn)) h3)
    · cases h
  | .forS t it b, E, X, G, hf, hn, h => by
    simp only [chkS] at h
    split at h
    · obtain ⟨h1, h2⟩ := band h
      obtain ⟨h2, h3⟩ := band h2
      obtain ⟨h3, h4⟩ := band h3
      exact ss_for G.noxe G.cm (sndI it X sc fn _ _ G hf (nl (nr hn)) h2) (sndT t X sc fn _ G hf (nl hn) h3) (sndSs b _ X G hf (nr (nr hn)) h4) (noSet_of h1)
    · cases h
  | .wh n c b, E, X, G, hf, hn, h => by
    simp only [chkS] at h
    split at h
    · obtain ⟨h1, h2⟩ := band h
      exact ss_wh G.noxe (sndE c X sc fn _ G hf (nl hn) h1).t (sndSs b _ X G hf (nr hn) h2)
    · cases h
  | .ret x, E, X, G, hf, hn, h => by
    simp only [chkS] at h
    split at h
    · exact ss_ret (sndE x X sc fn _ G hf hn h).v
    · cases h
  | .retN, E, X, G, hf, hn, h => by
    simp only [chkS] at h
    split at h
    · exact ss_retN
    · cases h
  | .brk, E, X, G, hf, hn, h => by
    simp only [chkS] at h
    split at h
    · exact ss_brk
    · cases h
  | .pass, E, X, G, hf, hn, h => by
    simp only [chkS] at h
    split at h
    · exact ss_pass
    · exact ss_doc
    · cases h
  | .never, E, X, G, hf, hn, h => ss_never
theorem sndSs : ∀ (ss : List St) (Es : List Stmt) (X : Cx), Good X ns sc fn k → (∀ x ∈ BN, X.mg x = none) → (∀ n ∈ needsSs ss, Met X k n) → chkSs ns sc fn ss Es = true → SSs X Es (execSs ss)
  | [], Es, X, G, hf, hn, h => by
    simp only [chkSs] at h
    split at h
    · exact sss_nil
    · cases h
  | s :: ss, Es, X, G, hf, hn, h => by
    simp only [chkSs] at h
    split at h
    · obtain ⟨h1, h2⟩ := band h
      exact sss_cons (sndS s _ X G hf (nl hn) h1) (sndSs ss _ X G hf (nr hn) h2)
    · cases h
end
end
end N
set_option autoImplicit false
set_option Elab.async false
set_option linter.all false
set_option maxRecDepth 100000
set_option maxHeartbeats 4000000
namespace N
open PySem L2 PySem.Spec PyProof.Rows
/-! ### the law's end -/
/-- the script alone is told -/
def onlyAt (a : Addr) (vs : List Value) (ns : List Int) : Hp := fun b => if b = a then some (.frz { cls := .type "list", data := .seq vs.toArray } (.lst (ns.map V.int))) else none
theorem onlyAt_self {a : Addr} {vs : List Value} {ns : List Int} : onlyAt a vs ns a = some (.frz { cls := .type "list", data := .seq vs.toArray } (.lst (ns.map V.int))) := if_pos rfl
theorem onlyAt_ne {a b : Addr} {vs : List Value} {ns : List Int} (h : b ≠ a) : onlyAt a vs ns b = none := if_neg h
/-- no row stands in the written part -/
def rowless (K : PySem.W.Frag) : Prop := ∀ a o, K.lookup a = some o → ∀ xs n, o.data ≠ .seq xs n
theorem law_runs {P : Program} {w : World} {K : PySem.W.Frag} {mg mb : Str → Option Value} {k : Nat} {fa a : Addr} {fd : FuncData} {x : Str} {F : Fn} {st : Shared} {vs : List Value} {ns : List Int}
    (row : rowless K) (kin : K.In st.heap) (gl : st.heap.Ns mainGlobals mg) (bl : st.heap.Ns builtinsNs mb) (blt : ∀ y : Str, y ≠ "__name__" → mb y = bootBuiltins y) (lim : st.heap.NoLimit) (gens : st.gens = #[])
    (at_ : st.heap.get? a = some { cls := .type "list", data := .seq vs.toArray }) (inn : IntsAre vs ns) (len : ns.length ≤ sizeLine) (room : Room k callerA)
    (G : ∀ base : Heap, K.In base → base.Ns mainGlobals mg → FnG P w K mg base k fa fd [x] F) (bind : ∀ (s : Shared) (u : Value), BindsTo s fd ⟨[u], []⟩ [(x, u)])
    (says : ∃ S', F [.ref 0] [.scr ns] = some (.bl true, S')) :
    codeAny (model P w) callerA (.call (.ref fa) ⟨[.ref a], []⟩) (fun r s' => r = .ok (.ret (.bool true)) ∧ OldK st.heap s'.heap ∧ s'.os = st.os ∧ AllBare s'.gens) st := by
  have rel := vals_ints inn
  have notK : K.lookup a = none := by
    cases e : K.lookup a with
    | none => rfl
    | some o =>
      have q := kin a o e
      rw [at_] at q
      cases q
      exact absurd rfl (row a _ e _ _)
  have freeOf : ∀ {b : Addr}, b ≠ a → onlyAt a vs ns b = none := fun h => onlyAt_ne h
  have known : ∀ {b : Addr} {o : Obj}, st.heap.get? b = some o → b ≠ a → (hidT st.heap (onlyAt a vs ns)).get? b = some o := fun e h => hidT_get e (freeOf h)
  have nsOf : ∀ {b : Addr} {m : Str → Option Value}, st.heap.Ns b m → (hidT st.heap (onlyAt a vs ns)).Ns b m := by
    rintro b m ⟨o, es, ep, e, d, r⟩
    refine ⟨o, es, ep, known e fun z => ?_, d, r⟩
    rw [z, at_] at e
    cases e
    cases d
  have kbase : K.In (hidT st.heap (onlyAt a vs ns)) := fun b o e => known (kin b o e) fun z => by rw [z, notK] at e; cases e
  have hok : HOk P w (onlyAt a vs ns) st.heap := fun b u e => by
    by_cases z : b = a
    · subst z
      rw [onlyAt_self] at e
      cases e
      exact ⟨at_, by rw [List.length_map]; exact len, vs, 0, rel, at_⟩
    · rw [freeOf z] at e; cases e
  obtain ⟨mc, lm1, lm2⟩ := lim
  have env : Env0 P w K mg (hidT st.heap (onlyAt a vs ns)) callerA [] st (onlyAt a vs ns) :=
    ⟨rfl, ⟨kbase, nsOf gl, ⟨mb, nsOf bl, blt⟩, mc, nsOf lm1, lm2⟩, fun b o e => of_hidT e, Nat.le_of_eq (hidT_size _ _), trivial, fun b hb => (by cases hb), hok, .of_eq gens⟩
  obtain ⟨S', run⟩ := says
  have sp : rF K [x].length F [.ref a] (onlyAt a vs ns) fun v _ => v = .bl true := by
    refine ⟨rfl, [a], [.scr ns], [.ref 0], .bl true, S', ⟨rfl, fun n o b h1 h2 => ?_, fun m n b o u h1 h2 h3 _ l1 _ => ?_⟩, .cons (.ref rfl) .nil, run, fun ρ' H' v _ _ r => by cases r; rfl⟩
    · cases n with
      | zero => cases h1; cases h2; exact ⟨_, onlyAt_self⟩
      | succ n => simp at h1
    · cases m with
      | zero => cases h3; cases l1
      | succ m => simp at h3
  refine codeAny_mono ((G _ kbase (nsOf gl)).go (us := [.ref a]) (vs := [.ref a]) rfl room env (.cons rfl .nil) (bind st (.ref a)) sp) fun r s' h => ?_
  cases r with
  | error e => exact h.elim
  | ok fl =>
    cases fl with
    | next => exact h.elim
    | brk => exact h.elim
    | cont => exact h.elim
    | ret u =>
      obtain ⟨v, H', os, bare, un, hok', rv, q⟩ := h
      have q : v = .bl true := q
      subst q
      obtain rfl : u = Value.bool true := rv
      refine ⟨rfl, OldK.of_keep fun b o e => ?_, os, bare⟩
      by_cases z : b = a
      · subst z
        obtain ⟨e2, _⟩ := hok' b _ (un.frzs b _ _ onlyAt_self)
        rw [at_] at e
        cases e
        exact e2
      · exact un.keep b o e (freeOf z) (fun z => (by cases z)) (by simp)
theorem walk_G {l : PySem.W.OpenLaw} {n k : Nat} {q : Program} {loose : List Str} {XP : (Str → Option Value) → Heap → Prop} {YP : World → Heap → Prop} {d : DefRec} {x : Str}
    (hn : l.most = some n) (hn2 : n ≤ sizeLine) (hdf : d.params.defaults = []) (room : Room k callerA)
    (F : ∀ (w : World) (mg : Str → Option Value) (fa : Addr) (h : Heap), YP w h → h.Ns mainGlobals mg → mg d.name = some (.ref fa) →
      ∃ (K : PySem.W.Frag) (fd : FuncData) (f : Fn), K.In h ∧ rowless K ∧ (∀ (s : Shared) (u : Value), BindsTo s fd ⟨[u], []⟩ [(x, u)]) ∧
        (∀ ns : List Int, ns.length ≤ n → (∀ z ∈ ns, Builtin.Int.intBits z ≤ 1048576) → ∃ S', f [.ref 0] [.scr ns] = some (.bl true, S')) ∧
        ∀ base : Heap, K.In base → base.Ns mainGlobals mg → FnG l.prog w K mg base k fa fd [x] f) : PySem.W.WalkO q loose XP YP l.row.toRowW d [] (fun f vs => PySem.call f vs) := by
  refine Att.attach_callB hn hdf fun w s0 st mg mb fa o pm cd doc a vs ns G Y ho hd hcd hmg hobj hin len bits gens => ?_
  obtain ⟨K, fd, f, kin, row, hb, says, hG⟩ := F w mg fa _ Y G.T.g hmg
  exact law_runs row kin G.T.g G.T.b G.T.builtins G.T.nolimit gens hobj hin (Nat.le_trans len hn2) room hG hb (says ns len bits)
/-! ### the written part without its rows -/
def plainO (o : Obj) : Bool := match o.data with
  | .seq _ _ => false
  | _ => true
def lessK (K : PySem.W.Frag) : PySem.W.Frag := K.filterMap fun p => match K.lookup p.1 with
  | some o => if plainO o then some (p.1, o) else none
  | none => none
theorem lessAt (K : PySem.W.Frag) {b : Addr} {o : Obj} : ∀ L : PySem.W.Frag, (L.filterMap fun p => match K.lookup p.1 with
  | some o => if plainO o then some (p.1, o) else none
  | none => none).lookup b = some o → K.lookup b = some o ∧ plainO o = true
  | [], h => by cases h
  | p :: ps, h => by
    rw [List.filterMap_cons] at h
    cases e : K.lookup p.1 with
    | none => rw [e] at h; exact lessAt K ps h
    | some u =>
      rw [e] at h
      by_cases c : plainO u = true
      · simp only [c, if_true] at h
        rw [List.lookup_cons] at h
        split at h
        · rename_i z
          cases h
          rw [eq_of_beq z]
          exact ⟨e, c⟩
        · exact lessAt K ps h
      · simp only [c] at h
        exact lessAt K ps h
theorem less_has (K : PySem.W.Frag) {b : Addr} {o : Obj} (h : K.lookup b = some o) (c : plainO o = true) : ∀ L : PySem.W.Frag, (L.lookup b).isSome = true → (L.filterMap fun p => match K.lookup p.1 with
  | some o => if plainO o then some (p.1, o) else none
  | none => none).lookup b = some o
  | [], e => by cases e
  | p :: ps, e => by
    rw [List.filterMap_cons]
    by_cases z : b = p.1
    · subst z
      simp only [h, c, if_true]
      rw [List.lookup_cons]
      simp
    · have e' : (ps.lookup b).isSome = true := by
        rw [List.lookup_cons] at e
        have : (b == p.1) = false := by simpa using z
        rw [this] at e
        exact e
      have ih := less_has K h c ps e'
      split
      · exact ih
      · rename_i u hu
        split at hu
        · split at hu
          · cases hu
            rw [List.lookup_cons]
            have : (b == p.1) = false := by simpa using z
            rw [this]
            exact ih
          · cases hu
        · cases hu
theorem less_look {K : PySem.W.Frag} {b : Addr} {o : Obj} : (lessK K).lookup b = some o ↔ K.lookup b = some o ∧ plainO o = true :=
  ⟨fun h => lessAt K K h, fun h => less_has K h.1 h.2 K (by rw [h.1]; rfl)⟩
theorem less_in {K : PySem.W.Frag} {h : Heap} (kin : K.In h) : (lessK K).In h := fun b o e => kin b o (less_look.mp e).1
theorem less_row (K : PySem.W.Frag) : rowless (lessK K) := fun a o e xs n z => by
  have := (less_look.mp e).2
  unfold plainO at this
  rw [z] at this
  cases this
theorem less_code {K : PySem.W.Frag} {cd : Value} {q : Str} (h : PySem.W.codeIn K cd q = true) : PySem.W.codeIn (lessK K) cd q = true := by
  unfold PySem.W.codeIn at h ⊢
  split at h
  · split at h
    · rename_i c _ o1 o2 vs o3 e
      have : (lessK K).lookup c = some _ := less_look.mpr ⟨e, rfl⟩
      rw [this]
      exact h
    · cases h
  · cases h
/-- a def of the module by its name: as the head tells it -/
structure DefN (K : PySem.W.Frag) (mg : Str → Option Value) (x qual : Str) (st : Stmt) (f : Addr) (fd : FuncData) : Prop where
  fn : C8.Fun K qual qual st f fd
  mgf : mg x = some (.ref f)
  kp : PySem.W.keepIn K (.ref f) = true
  df : fd.defaults = .none
end N
set_option autoImplicit false
set_option Elab.async false
set_option linter.all false
set_option maxRecDepth 100000
set_option maxHeartbeats 4000000
namespace N
open PySem L2 PySem.Spec PyProof.Rows
/-! ### the chain of defs -/
def MetP (P : Program) (w : World) (K : PySem.W.Frag) (mg : Str → Option Value) (base : Heap) (k : Nat) : Need → Prop
  | .call x f => CalG P w K mg base k (sOf x) f
  | .callk x ks f perm => CalK P w K mg base k (sOf x) (ks.map sOf) perm f
  | .gint x i => ∃ t, mg (sOf x) = some (.int i t)
theorem all_nil {P : Need → Prop} : ∀ n ∈ ([] : List Need), P n := fun n h => by cases h
theorem all_cons {P : Need → Prop} {a : Need} {l : List Need} (h : P a) (t : ∀ n ∈ l, P n) : ∀ n ∈ a :: l, P n := fun n q => by
  rcases List.mem_cons.mp q with rfl | q
  · exact h
  · exact t n q
section
variable {P : Program} {w : World} {K : PySem.W.Frag} {mg : Str → Option Value} {base : Heap} {nm x : Str} {st : Stmt} {f : Addr} {fd : FuncData} {ns ps : List Str} {k j n : Nat} {body : List St} {F : Fn}
theorem FnG.mono (G : FnG P w K mg base k f fd ps F) (h : k ≤ j) : FnG P w K mg base j f fd ps F := ⟨fun gd r => G.go gd (r.mono h)⟩
theorem CalG.mono (c : CalG P w K mg base k x F) (h : k ≤ j) : CalG P w K mg base j x F := by
  obtain ⟨f, fd, ps, G, r⟩ := c.ex
  exact ⟨f, fd, ps, G.mono h, r⟩
theorem CalK.mono {ks : List Str} {perm : List Nat} (c : CalK P w K mg base k x ks perm F) (h : k ≤ j) : CalK P w K mg base j x ks perm F := by
  obtain ⟨f, fd, ps, G, r⟩ := c.ex
  exact ⟨f, fd, ps, G.mono h, r⟩
abbrev FunS (K : PySem.W.Frag) (nm : Str) (st : Stmt) (f : Addr) (fd : FuncData) : Prop := L2.FunD K nm nm (C8.fnArgs st) (C8.fnBody st) (C8.fnScope st) [] [] f fd
theorem fun_less (D : FunS K nm st f fd) : C8.Fun (lessK K) nm nm st f fd := by
  obtain ⟨oc, od, dV, kV, doc, pm, an, cdv, ct, osl, rfl, lk, hcd, _, _⟩ := D.ex
  exact ⟨⟨oc, od, dV, kV, doc, pm, an, cdv, ct, osl, rfl, less_look.mpr ⟨lk, rfl⟩, less_code hcd⟩⟩
theorem keep_less (D : FunS K nm st f fd) : PySem.W.keepIn (lessK K) (.ref f) = true := by
  obtain ⟨oc, od, dV, kV, doc, pm, an, cdv, ct, osl, rfl, lk, hcd, _, _⟩ := D.ex
  have : (lessK K).lookup f = some _ := less_look.mpr ⟨lk, rfl⟩
  unfold PySem.W.keepIn
  simp only [this]
theorem def_G (D : FunS K nm st f fd) (hn : n = ns.length) (sc : C8.scC ns ps (C8.fnScope st) = true) (chk : chkSs ns (C8.fnScope st) (fun _ => true) body (C8.fnBody st) = true)
    (hf : ∀ x ∈ BN, mg x = none) (hm : ∀ m ∈ needsSs body, MetP P w (lessK K) mg base k m) : FnG P w (lessK K) mg base (k + 1) f fd ps (runF n ps.length body) := by
  refine fn_G hn (fun_less D) (C8.fnScope_by sc) fun X e1 e2 e3 e4 e5 G => ?_
  subst e1 e2 e4 e5
  refine sndSs body _ X G hf (fun m q => ?_) chk
  have := hm m q
  rw [← e3] at this
  cases m <;> exact this
/-- its arguments are bound by place -/
def BindP (nm : Str) (st : Stmt) (ps : List Str) : Prop := ∀ (kV doc pm : Value) (an : Option Addr) (cdv ct : Value) (us : List Value), us.length = ps.length → bindArgs (PySem.W.fnOf nm nm (C8.fnArgs st) (C8.fnBody st) (C8.fnScope st) .none kV doc pm an cdv ct) ⟨us, []⟩ = pure (ps.zip us)
def BindK (nm : Str) (st : Stmt) (ps ks : List Str) (perm : List Nat) : Prop := ∀ (kV doc pm : Value) (an : Option Addr) (cdv ct : Value) (us : List Value), us.length = ks.length → bindArgs (PySem.W.fnOf nm nm (C8.fnArgs st) (C8.fnBody st) (C8.fnScope st) .none kV doc pm an cdv ct) ⟨[], ks.zip us⟩ = pure (ps.zip (perm.filterMap fun i => us[i]?))
theorem bindP_of (D : FunS K nm st f fd) (h : BindP nm st ps) : ∀ us : List Value, us.length = ps.length → bindArgs fd ⟨us, []⟩ = pure (ps.zip us) := by
  obtain ⟨oc, od, dV, kV, doc, pm, an, cdv, ct, osl, rfl, lk, hcd, hD, hK⟩ := D.ex
  rcases hD with ⟨_, rfl⟩ | ⟨e, _⟩
  · exact h kV doc pm an cdv ct
  · exact absurd rfl e
theorem bindK_of {ks : List Str} {perm : List Nat} (D : FunS K nm st f fd) (h : BindK nm st ps ks perm) : ∀ us : List Value, us.length = ks.length → bindArgs fd ⟨[], ks.zip us⟩ = pure (ps.zip (perm.filterMap fun i => us[i]?)) := by
  obtain ⟨oc, od, dV, kV, doc, pm, an, cdv, ct, osl, rfl, lk, hcd, hD, hK⟩ := D.ex
  rcases hD with ⟨_, rfl⟩ | ⟨e, _⟩
  · exact h kV doc pm an cdv ct
  · exact absurd rfl e
theorem cal_G (D : FunS K nm st f fd) (G : FnG P w (lessK K) mg base k f fd ps (runF n ps.length body)) (hm : mg x = some (.ref f)) (b : BindP nm st ps) : CalG P w (lessK K) mg base k x (runF n ps.length body) :=
  ⟨f, fd, ps, G, hm, keep_less D, runF_len, bindP_of D b⟩
theorem calK_G {ks : List Str} {perm : List Nat} (D : FunS K nm st f fd) (G : FnG P w (lessK K) mg base k f fd ps (runF n ps.length body)) (hm : mg x = some (.ref f)) (hp : perm.length = ps.length) (hp2 : ∀ i ∈ perm, i < ks.length) (b : BindK nm st ps ks perm) : CalK P w (lessK K) mg base k x ks perm (runF n ps.length body) :=
  ⟨f, fd, ps, G, hm, keep_less D, runF_len, hp, hp2, bindK_of D b⟩
/-- a list of so many -/
theorem len_cases {α : Type} {Q : List α → Prop} : (n : Nat) → (us : List α) → us.length = n → (match n with
  | 0 => Q []
  | 1 => ∀ a, Q [a]
  | 2 => ∀ a b, Q [a, b]
  | 3 => ∀ a b c, Q [a, b, c]
  | 4 => ∀ a b c d, Q [a, b, c, d]
  | 5 => ∀ a b c d e, Q [a, b, c, d, e]
  | 6 => ∀ a b c d e f, Q [a, b, c, d, e, f]
  | _ => False) → Q us
  | 0, [], _, h => h
  | 1, [a], _, h => h a
  | 2, [a, b], _, h => h a b
  | 3, [a, b, c], _, h => h a b c
  | 4, [a, b, c, d], _, h => h a b c d
  | 5, [a, b, c, d, e], _, h => h a b c d e
  | 6, [a, b, c, d, e, f], _, h => h a b c d e f
  | n + 7, _, _, h => h.elim
end
end N
set_option autoImplicit false
set_option linter.all false
set_option maxRecDepth 100000
namespace N
/-! ### runs that end in a raise -/
mutual
def raiS : St → Env → Sto → Bool
  | .never, _, _ => true
  | .ife c a b, e, S => match thenT (evalE c e S) with
    | some (true, S1) => raiSs a e S1
    | some (false, S1) => raiSs b e S1
    | none => false
  | _, _, _ => false
def raiSs : List St → Env → Sto → Bool
  | [], _, _ => false
  | s :: ss, e, S => match execS s e S with
    | some (.nx, e1, S1) => raiSs ss e1 S1
    | some _ => false
    | none => raiS s e S
end
/-- the run of a body with n names, k of them parameters, ends in the raise -/
def raiF (n k : Nat) (body : List St) : List D → Bool := fun ds => decide (ds.length = k) && raiSs body (ds.map some ++ List.replicate (n - k) none) []
/-- def f(..): try: return g(..) / except C as e: return ['..', isinstance(e, L)] -/
def tryF (n k : Nat) (x : Ex) (ys : List Ex) (B : List D → Bool) (o : O) : Fn := fun ds S =>
  if ds.length = k then
    match evalE x (ds.map some ++ List.replicate (n - k) none) S with
    | some r => some r
    | none => match evalEs ys (ds.map some ++ List.replicate (n - k) none) S with
      | some (xs, S1) => if D.los 0 xs && B xs then new S1 o else none
      | none => none
  else none
end N
set_option autoImplicit false
set_option Elab.async false
set_option linter.all false
set_option maxRecDepth 100000
set_option maxHeartbeats 4000000
namespace N
open PySem PySem.W PySem.Calls PyProof.Rows
/-! ### an own exception whose __init__ only says super().__init__() -/
abbrev bareInit (p0 p1 p2 p3 p4 : Pos) : List Stmt := [.Expr (.Call (.Attribute (.Call (.Name "super" p0) [] [] p1) "__init__" p2) [] [] p3) p4]
theorem ev_bare (p0 p1 p2 p3 : Pos) (env : PySem.Env) (hp : (p2.endLine == p3.line) = true) : eval (.Call (.Attribute (.Call (.Name "super" p0) [] [] p1) "__init__" p2) [] [] p3) env = (do
      let ov ← attributeBase (.Call (.Name "super" p0) [] [] p1) "__init__" env (eval (.Call (.Name "super" p0) [] [] p1) env)
      standAt p2.atName
      let (f, first) ← holding [ov] (getMethod ov "__init__" (do return (← importBound (.Call (.Name "super" p0) [] [] p1) env).getD true))
      callWith p3 f first (backTo p3 (starEach [] env)) []) := by
  have e : eval (.Call (.Attribute (.Call (.Name "super" p0) [] [] p1) "__init__" p2) [] [] p3) env = (do
      let ov ← attributeBase (.Call (.Name "super" p0) [] [] p1) "__init__" env (eval (.Call (.Name "super" p0) [] [] p1) env)
      standAt p2.atName
      methodCall (.Call (.Name "super" p0) [] [] p1) "__init__" p2 p3 env ov 0 (backTo p3 (starEach [] env)) (backToKw p3 (keywordEach [] env))) := by rfl
  rw [e]
  unfold methodCall methodCallPos
  have h2 : (!methodCallForm 0 (backTo p3 (starEach [] env)) (backToKw p3 (keywordEach [] env)) || p2.endLine == p3.line) = true := by rw [hp, Bool.or_true]
  simp only [h2, if_true, pure_bind]
  rfl
/-- what the written part tells of such a class (at C), its __init__ (at f) -/
structure BareC (P : Program) (K : Frag) (C f : Addr) : Prop where
  T : L2.OexC K C
  iC : findIn K (.ref C) "__init__" = some (some (.ref f))
  tI : typeIn K (.ref f) = some (.type "function")
  fn : ∃ (nm qual : Str) (params : Arguments) (scope : Scope) (p0 p1 p2 p3 p4 : Pos) (dV kV doc pm ct oc : Value) (an od : Option Addr) (osl : Array (Option Value)) (cda cc : Addr) (ar : Arg),
    K.lookup f = some ⟨oc, od, .func (ksFn nm qual params (bareInit p0 p1 p2 p3 p4) scope dV kV doc pm an (.ref cda) ct cc), osl⟩ ∧
    (params.posonlyargs ++ params.args).head? = some ar ∧ (∀ u, bindArgs (ksFn nm qual params (bareInit p0 p1 p2 p3 p4) scope dV kV doc pm an (.ref cda) ct cc) ⟨[u], []⟩ = pure [(ar.arg, u)]) ∧
    scope.names.lookup ar.arg = some .local ∧ scope.names.lookup ("super" : Str) = some .globalImplicit ∧ scope.names.lookup ("__class__" : Str) = some .free ∧
    (p2.endLine == p3.line) = true ∧ (∀ x ∈ scope.names, x.2 ≠ .cell) ∧ scope.kind = .function ∧ scope.isCoroutine = false ∧ scope.isGenerator = false ∧ codeIn K (.ref cda) qual = true ∧
    (∃ (ccl : Value) (cdd : Option Addr) (vs : Array Value) (ccs : Array (Option Value)) (file : Str) (tf : Tok), K.lookup cda = some ⟨ccl, cdd, .fields vs, ccs⟩ ∧ vs[2]? = some (.str file tf) ∧ ((P.main.file : Str) == file) = true) ∧
    ∃ (cl : Value) (cld : Option Addr) (csl : Array (Option Value)), K.lookup cc = some ⟨cl, cld, .cell (some (.ref C)), csl⟩
  cls : ∃ cd, clsIn K C = some cd ∧ alongIn K "__init__" ((cd.mro.dropWhile (· != .ref C)).drop 1) = some (some (.builtin "ValueError.__init__"))
  own : mroIn K C (.ref C) = some true
  ve : subIn K (.ref C) (.type "ValueError") = some true
  st : nsIn K cStatics "thirdparty.any" = some none
  top : (P.main.scope.names.lookup ("super" : Str)).isSome = false
section
variable {P : Program} {w : World} {K : Frag} {A : Around} {R : Result → Shared → Prop} {h : Heap} {g : Array GenState} {d : Drawn} {t : Nat} {os : OsState} {C f x t0 : Addr} {mg mb : Str → Option Value}
theorem bare_init (U : BareC P K C f) (kin : K.In h) (gl : h.Ns mainGlobals mg) (hs : mg "super" = none) (bl : h.Ns builtinsNs mb) (blt : ∀ y : Str, y ≠ "__name__" → mb y = bootBuiltins y) (lim : h.NoLimit) (room : A.depth < recursionLimit)
    (hx : h.get? x = some (PySem.HandSPX.excO C t0)) (hq : ∀ h' t1 t', (∀ b o, b ≠ x → h.get? b = some o → h'.get? b = some o) → h'.get? x = some (PySem.HandSPX.excO C t1) → R (.ok (.ret .none)) ⟨h', g, d, t', os⟩) :
    codeAny (model P w) A (.call (.ref f) ⟨[.ref x], []⟩) R ⟨h, g, d, t, os⟩ := by
  obtain ⟨nm, qual, params, scope, p0, p1, p2, p3, p4, dV, kV, doc, pm, ct, oc, an, od, osl, cda, cc, ar, lk, hp, bnd, k1, k2, k3, kp, k4, k5, k6, k7, cdi, ⟨ccl, cdd, vs, ccs, file, tf, lc, hvs, hfile⟩, cl, cld, csl, lcell⟩ := U.fn
  obtain ⟨cdC, hcd, along⟩ := U.cls
  obtain ⟨nm2, q2, N2, bs, bm, sn, sub, ab, col, dd, e0, e1, e2, e3, e5, hC, hbm⟩ := U.T.cls
  refine ks_codeAny_call_defAt (fd := ksFn nm qual params (bareInit p0 p1 p2 p3 p4) scope dV kV doc pm an (.ref cda) ct cc) (body := bareInit p0 p1 p2 p3 p4) (binds := [(ar.arg, .ref x)]) room (kin _ _ lk) rfl lim (codeRec_of kin cdi) rfl (.of_eq (bnd _)) k4 (fun y hy => ?_) (fun h0 hns keep => ?_) k6 k7 k5
  · rcases List.mem_cons.mp hy with rfl | hy
    · exact k1
    · cases hy
  have kin0 : K.In h0 := kin.keeps keep
  have hx0 := keep _ _ hx
  have hC0 : h0.get? C = some _ := kin0 _ _ hC
  have looksC : Looks (model P w) h0 (classData C) cdC := looks_clsIn kin0 hcd
  have hD : h0.get? C = some _ := hC0
  have hself : (fun y => List.lookup y [(ar.arg, Value.ref x)].reverse) ar.arg = some (.ref x) := by simp
  refine ks_wpAt_execs_cons (ks_wpAt_Expr_any (ks_wpAt_MethodCall ?_ (ev_bare p0 p1 p2 p3 _ kp)) (by unfold interactive; show (_ && _) = false; rw [show (callEnv (ksFn nm qual params (bareInit p0 p1 p2 p3 p4) scope dV kV doc pm an (Value.ref cda) ct cc) h.objs.size f).scope.kind = .function from k5]; rfl))
  refine ks_wpAt_super_base (env := ksEnv qual scope h.objs.size f (.ref cda) cc) k2 k3 (by decide) rfl (kin0 _ _ lk) rfl hp rfl (kin0 _ _ lc) rfl hvs hfile U.top ?_
  refine ks_loadName_global k5 k2 (loadGlobal_builtin (env := ksEnv qual scope h.objs.size f (.ref cda) cc) (gl.keeps keep) hs (bl.keeps keep) ((blt _ (by decide +kernel)).trans (by decide +kernel)) ⟨rfl, ?_⟩)
  refine wpAny_loadName_free k5 k3 rfl ⟨_, kin0 _ _ lcell, rfl⟩ ?_
  refine wpAny_loadName_local k5 k1 hns hself ?_
  refine ks_wpAny_isType_cls hC0 rfl ⟨rfl, ?_⟩
  refine ks_wpAny_call_super hC0 rfl hx0 rfl (fun c e => by cases e) (looks_mroIn kin0 U.own) (fun h1 e1 k1' => ?_)
  have kin1 : K.In h1 := kin0.keeps k1'
  have hx1 := k1' _ _ hx0
  have hxC : x ≠ C := fun z => by
    rw [z, hC0] at hx0
    have := Option.some.inj hx0
    exact absurd (congrArg Obj.cls this) (by simp)
  have inst : Looks (model P w) h1 (isInstance (.ref x) (.type "ValueError")) true := by
    have ty : Looks (model P w) h1 (typeOf (.ref x)) (.ref C) := fun A Q E s k q => wpAny_typeOf_ref (k _ _ hx1) q
    exact ty.andThen (looks_subIn kin1 U.ve)
  refine kxs_getMethod kxs_ValueError e1 (looks_opaque kin1 U.st) (l₀ := cdC.mro) (fun A Q E s k q => wpAny_bind ((looks_clsIn kin1 hcd) A _ E s k (wpAny_pure q))) rfl kin1 along inst hxC (by decide) ?_
  have hmw : (h1.push (kxs_mw "ValueError.__init__" x)).get? h1.objs.size = some (kxs_mw "ValueError.__init__" x) := Heap.get?_push_at rfl rfl
  have up : ∀ b o, h1.get? b = some o → (h1.push (kxs_mw "ValueError.__init__" x)).get? b = some o := fun b o e => Heap.get?_push_of_some _ e
  refine kxs_callWith (i := "ValueError.__init__") (x := x) rfl (evalArgs_empty ⟨hmw, ?_⟩)
  refine wpAny_call (codeAny_of_tree ?_)
  show wpAny _ (Around.in1 _) (callAny (.ref h1.objs.size) ⟨[], []⟩) _ _ _
  simp only [callAny]
  refine wpAny_bind (wpAny_load hmw ?_)
  simp only [kxs_mw, show (Value.type "method-wrapper" == Value.type "method" || Value.type "method-wrapper" == Value.type "builtin_function_or_method" || Value.type "method-wrapper" == Value.type "method-wrapper") = true by decide, if_true]
  refine KFB.if_so (by decide) ?_
  refine wpAny_bind (check_bound_init F.excBase_ValueError.toExcCallFacts (up _ _ (kin1 _ _ hC)) (up _ _ hx1) rfl ?_)
  refine wpAny_bind (wpAny_pure (wpAny_pure ?_))
  refine ⟨plainId_quiet F.excBase_ValueError.init.plain _, codeAny_builtin F.excBase_ValueError.initEntry ?_⟩
  refine exc_init_tree (cls := .ref C) (t0 := t0) (dv := none) (c2 := .none) (c3 := .none) (b4 := .bool false) (up _ _ hx1) (by simp) fun h2 k2' e2' _ => ?_
  refine wpAt_of_wpAny (wpAny_execs_nil ?_)
  exact hq h2 _ _ (fun b o hb e => k2' b o hb (up _ _ (k1' _ _ (keep _ _ e)))) e2'
end
end N
set_option autoImplicit false
set_option Elab.async false
set_option linter.all false
set_option maxRecDepth 100000
set_option maxHeartbeats 4000000
namespace N
open PySem L2 PySem.Spec PyProof.Rows
section
variable {X : Cx} {x : Str} {p pos : Pos} {C f : Addr}
/-- C(), C an exception whose __init__ says super().__init__() alone -/
theorem pmk_bare {k : Nat} (U : BareC X.prog X.K C f) (hr : Room (k + 1) X.A) (hs : X.mg "super" = none) (hg : Gl X x) (hm : X.mg x = some (.ref C)) (hdb : (x == ("__debug__" : Str)) = false) :
    PMk X (.Call (.Name x p) [] [] pos) (fun _ H Q => Q (.ref C) none H) := by
  intro pins s σ H Q I q
  obtain ⟨nm, qn, Nn, bs, bm, sn, sub, ab, col, dd, k0, k1, k2, k3, k5, hC, hbm⟩ := U.T.cls
  refine wpAny_Call_Name_kw (ld_glob I hg hm ?_ hdb)
  refine PySem.W.callWith_K0 (I.tok _).kIn U.T.kC ?_
  show wpAny _ _ (call (.ref C) []) _ _ _
  obtain ⟨hp, g, dr, tk, os⟩ := s
  have kin : X.K.In hp := I.kIn
  have up : ∀ b o, hp.get? b = some o → ((hp.push (PySem.W.kdv_tup [])).push (PySem.HandSPX.excO C hp.objs.size)).get? b = some o := fun b o e => Heap.get?_push_of_some _ (Heap.get?_push_of_some _ e)
  have hget : ((hp.push (PySem.W.kdv_tup [])).push (PySem.HandSPX.excO C hp.objs.size)).get? (hp.objs.size + 1) = some (PySem.HandSPX.excO C hp.objs.size) := by heap_get
  have bsU : ∀ b o, X.base.get? b = some o → ((hp.push (PySem.W.kdv_tup [])).push (PySem.HandSPX.excO C hp.objs.size)).get? b = some o := fun b o e => up b o (I.env0.bs b o e).1
  obtain ⟨mb, hmb, hmb2⟩ := I.ok.mod.blt
  refine wpAny_call (PySem.HandSPX.call_own F.excBase_ValueError (fun Y => PySem.HandSPX.refsVE_contains Y bm hbm) (kin _ _ hC) (PySem.W.looks_findIn kin U.iC) (fun self => PySem.W.bind_fn kin self U.tI) (by simp) ?_)
  have hr2 := hr.make C [] []
  refine bare_init (mg := X.mg) (mb := mb) U (kin.keeps up) (I.ok.mod.glob.keeps bsU) hs (hmb.keeps bsU) hmb2 (I.ok.mod.nolimit.keeps bsU) hr2.depth hget fun h' t1 t' kp e' => ⟨rfl, ?_⟩
  have nx : ∀ b o, hp.get? b = some o → h'.get? b = some o := fun b o e => kp b o (fun z => by
    have := Heap.lt_size e
    rw [z] at this
    exact Nat.lt_irrefl _ (Nat.lt_trans (Nat.lt_succ_self _) this)) (up b o e)
  have fresh : hp.get? (hp.objs.size + 1) = none := by
    cases e : hp.get? (hp.objs.size + 1) with
    | none => rfl
    | some o => exact absurd (Nat.lt_trans (Nat.lt_succ_self _) (Heap.lt_size e)) (Nat.lt_irrefl _)
  exact ⟨hp.objs.size + 1, _, _, ⟨hp, g, dr, tk, os⟩, H, .ref C, none, rfl, I, nx, fresh, e', ⟨rfl, rfl⟩, rfl, rfl, I.hok.fresh (Nat.le_succ _), rfl, I.bare, raises_own U.T.exC U.T.tyC, q⟩
end
end N
set_option autoImplicit false
set_option Elab.async false
set_option linter.all false
set_option maxRecDepth 100000
set_option maxHeartbeats 4000000
namespace N
open PySem L2 PySem.Spec PyProof.Rows
/-! ### bodies that end in a raise -/
mutual
/-- where never stands, the class x is raised -/
def chkR (x : Str) (sc : Scope) (fn : Str → Bool) : St → Stmt → Bool
  | .never, E => match E with
    | .Raise (some (.Call (.Name y _) [] [] _)) none _ => decide (y = x)
    | _ => false
  | .ife _ a b, E => match E with
    | .If _ A B _ => chkRs x sc fn a A && chkRs x sc fn b B
    | _ => false
  | _, _ => true
def chkRs (x : Str) (sc : Scope) (fn : Str → Bool) : List St → List Stmt → Bool
  | [], _ => true
  | s :: ss, E => match E with
    | e :: es => chkR x sc fn s e && chkRs x sc fn ss es
    | _ => false
end
/-- a run that ends in the raise of C -/
def TRv (K : PySem.W.Frag) (W : WX) (C : Addr) (x : Env → Sto → Bool) : TS := fun _ σ H => ∃ ρ e S, ER ρ H e σ ∧ SR K ρ H S ∧ x e S = true ∧ ∀ ρ' H' σ', Go ρ H ρ' H' → W (.ref C) none σ' H'
section
variable {X : Cx}
theorem ps_nox {E : Stmt} {t : TS} (h : PS X.nox E t) : PS X E t := ⟨fun pins s σ H D I hw =>
  wpAny_mono (h.run pins s σ H D (I.wish _) hw) (fun _ _ q => q.unwish) fun _ _ z => False.elim z⟩
theorem ps_either {E : Stmt} {t u : TS} (h1 : PS X E t) (h2 : PS X E u) : PS X E (fun D σ H => t D σ H ∨ u D σ H) := ⟨fun pins s σ H D I hw => hw.elim (h1.run pins s σ H D I) (h2.run pins s σ H D I)⟩
theorem ps_no {E : Stmt} {t : TS} (h : ∀ D σ H, ¬ t D σ H) : PS X E t := ⟨fun pins s σ H D I hw => (h _ _ _ hw).elim⟩
theorem pss_no {E : List Stmt} {t : TS} (h : ∀ D σ H, ¬ t D σ H) : PSs X E t := ⟨fun pins s σ H D I hw => (h _ _ _ hw).elim⟩
variable {ns : List Str} {sc : Scope} {fn : Str → Bool} {k : Nat} {W : WX} {C f : Addr} {x : Str}
/-- what a raise needs of its context -/
structure Rai (X : Cx) (W : WX) (C f : Addr) (x : Str) (k : Nat) : Prop where
  tk : Takes X W
  cm : X.calm = true
  ba : BareC X.prog X.K C f
  rm : Room (k + 1) X.A
  sp : X.mg "super" = none
  gl : Gl X x
  at_ : X.mg x = some (.ref C)
  dbg : (x == ("__debug__" : Str)) = false
mutual
theorem sndR : ∀ (s : St) (E : Stmt), Good X.nox ns sc fn k → Rai X W C f x k → (∀ y ∈ BN, X.mg y = none) → (∀ n ∈ needsS s, Met X.nox k n) → chkS ns sc fn s E = true → chkR x sc fn s E = true → PS X E (TRv X.K W C (raiS s))
  | .never, E, G, Ra, hf, hn, h, h2 => by
    simp only [chkR] at h2
    split at h2
    · rename_i y p1 p2 p3
      have e := of_decide_eq_true h2
      subst e
      exact PS.imp (ps_raise Ra.cm Ra.tk (pmk_bare Ra.ba Ra.rm Ra.sp Ra.gl Ra.at_ Ra.dbg)) fun D σ H ⟨ρ, e, S, _, _, _, q⟩ => q ρ H σ .refl
    · cases h2
  | .ife c a b, E, G, Ra, hf, hn, h, h2 => by
    simp only [chkS] at h
    split at h
    · simp only [chkR] at h2
      obtain ⟨h1, h3⟩ := band h
      obtain ⟨h3, h4⟩ := band h3
      obtain ⟨h5, h6⟩ := band h2
      have hc := (sndE c X.nox sc fn _ G hf (nl hn) h1).t
      refine PS.imp (ps_if (PT.nox hc) (sndRs a _ G Ra hf (nl (nr hn)) h3 h5) (sndRs b _ G Ra hf (nr (nr hn)) h4 h6)) fun D σ H q => ?_
      obtain ⟨ρ, e, S, q1, q2, q3, q4⟩ := q
      simp only [raiS] at q3
      split at q3
      · rename_i S1 e1
        unfold thenT at e1
        split at e1
        · rename_i d1 S2 e2
          obtain ⟨b', e3, e4⟩ := Option.map_eq_some_iff.mp e1
          cases e4
          exact ⟨ρ, e, S, d1, _, true, q1, q2, e2, e3, fun ρ' H' g s => ⟨ρ', e, S1, q1.go g, s, q3, fun ρ2 H2 σ2 g2 => q4 ρ2 H2 σ2 (g.trans g2)⟩⟩
        · cases e1
      · rename_i S1 e1
        unfold thenT at e1
        split at e1
        · rename_i d1 S2 e2
          obtain ⟨b', e3, e4⟩ := Option.map_eq_some_iff.mp e1
          cases e4
          exact ⟨ρ, e, S, d1, _, false, q1, q2, e2, e3, fun ρ' H' g s => ⟨ρ', e, S1, q1.go g, s, q3, fun ρ2 H2 σ2 g2 => q4 ρ2 H2 σ2 (g.trans g2)⟩⟩
        · cases e1
      · cases q3
    · cases h
  | .asg t y, E, _, _, _, _, _, _ => ps_no fun D σ H ⟨ρ, e, S, _, _, q, _⟩ => by cases q
  | .ex y, E, _, _, _, _, _, _ => ps_no fun D σ H ⟨ρ, e, S, _, _, q, _⟩ => by cases q
  | .forS t it b, E, _, _, _, _, _, _ => ps_no fun D σ H ⟨ρ, e, S, _, _, q, _⟩ => by cases q
  | .wh n c b, E, _, _, _, _, _, _ => ps_no fun D σ H ⟨ρ, e, S, _, _, q, _⟩ => by cases q
  | .ret y, E, _, _, _, _, _, _ => ps_no fun D σ H ⟨ρ, e, S, _, _, q, _⟩ => by cases q
  | .retN, E, _, _, _, _, _, _ => ps_no fun D σ H ⟨ρ, e, S, _, _, q, _⟩ => by cases q
  | .brk, E, _, _, _, _, _, _ => ps_no fun D σ H ⟨ρ, e, S, _, _, q, _⟩ => by cases q
  | .pass, E, _, _, _, _, _, _ => ps_no fun D σ H ⟨ρ, e, S, _, _, q, _⟩ => by cases q
theorem sndRs : ∀ (ss : List St) (Es : List Stmt), Good X.nox ns sc fn k → Rai X W C f x k → (∀ y ∈ BN, X.mg y = none) → (∀ n ∈ needsSs ss, Met X.nox k n) → chkSs ns sc fn ss Es = true → chkRs x sc fn ss Es = true → PSs X Es (TRv X.K W C (raiSs ss))
  | [], Es, _, _, _, _, _, _ => pss_no fun D σ H ⟨ρ, e, S, _, _, q, _⟩ => by cases q
  | s :: ss, Es, G, Ra, hf, hn, h, h2 => by
    simp only [chkSs] at h
    split at h
    · rename_i E Et
      simp only [chkRs] at h2
      obtain ⟨h3, h4⟩ := band h
      obtain ⟨h5, h6⟩ := band h2
      refine PSs.imp (pss_cons (ps_either (ps_nox (sndS s _ X.nox G hf (nl hn) h3)) (sndR s _ G Ra hf (nl hn) h3 h5)) (sndRs ss _ G Ra hf (nr hn) h4 h6)) fun D σ H q => ?_
      obtain ⟨ρ, e, S, q1, q2, q3, q4⟩ := q
      simp only [raiSs] at q3
      split at q3
      · rename_i e1 S1 e2
        refine .inl ⟨ρ, e, S, .nx, e1, S1, q1, q2, e2, fun ρ1 H1 g s => ?_⟩
        intro σ1 E1
        exact ⟨ρ1, e1, S1, E1, s, q3, fun ρ2 H2 σ2 g2 => q4 ρ2 H2 σ2 (g.trans g2)⟩
      · cases q3
      · exact .inr ⟨ρ, e, S, q1, q2, q3, q4⟩
    · cases h
end
end
end N
set_option autoImplicit false
set_option Elab.async false
set_option linter.all false
set_option maxRecDepth 100000
set_option maxHeartbeats 4000000
namespace N
open PySem L2 PySem.Spec PyProof.Rows
/-! ### a def that raises -/
structure FnR (P : Program) (w : World) (K : PySem.W.Frag) (mg : Str → Option Value) (base : Heap) (k : Nat) (f : Addr) (fd : FuncData) (ps : List Str) (C : Addr) (B : List D → Bool) : Prop where
  go : ∀ {A : Around} {outer : List PySem.Env} {s : Shared} {H : Hp} {args : Args} {us : List Value} {vs : List V} {ds : List D} {E : XK}, A.guards = some [] → Room k A → Env0 P w K mg base A outer s H →
    Vals vs us → BindsTo s fd args (ps.zip us) → vs.length = ps.length → VRs [] H ds vs → B ds = true → (∀ ρ' H', Go [] H ρ' H' → E (.ref C) none H') → codeAny (model P w) A (.call (.ref f) args) (fun r s' => match r with
      | .error u => L2.CX P w outer H s E u s'
      | _ => False) s
section
variable {P : Program} {w : World} {K : PySem.W.Frag} {mg : Str → Option Value} {base : Heap}
theorem fn_R {x cn qual : Str} {st : Stmt} {f C fI : Addr} {fd : FuncData} {ns ps : List Str} {k n : Nat} {body : List St} (hn : n = ns.length) (F : C8.Fun K x qual st f fd) (sc : FnScope ns ps (C8.fnScope st))
    (chk : chkSs ns (C8.fnScope st) (fun _ => true) body (C8.fnBody st) = true) (chr : chkRs cn (C8.fnScope st) (fun _ => true) body (C8.fnBody st) = true)
    (hf : ∀ y ∈ BN, mg y = none) (hm : ∀ m ∈ needsSs body, MetP P w K mg base k m) (U : BareC P K C fI) (hsp : mg "super" = none) (hC : mg cn = some (.ref C)) (dbg : (cn == ("__debug__" : Str)) = false)
    (gl : ∀ X : Cx, X.env.scope = C8.fnScope st → X.fn = (fun _ => true) → X.N = ns → Gl X cn) : FnR P w K mg base (k + 2) f fd ps C (raiF n ps.length body) := by
  obtain ⟨c1, c2, c3, c4, c5, c6, c7, cdv, c8, c9, rfl, look, code⟩ := F.ex
  refine ⟨fun {A frs0 s H ar us vs ds E} gd room env rel bind hl rs hB hE => ?_⟩
  have kin : K.In s.heap := env.mod.kin.keeps fun b o e => (env.bs b o e).1
  have nolim : s.heap.NoLimit := env.mod.nolimit.keeps fun b o e => (env.bs b o e).1
  have names : ∀ y ∈ ps.zip us, (C8.fnScope st).names.lookup y.1 = some .local ∨ ((C8.fnScope st).names.lookup y.1 = some .cell ∧ ((cellsFrom (s.heap.objs.size + 1) (C8.fnScope st).names []).lookup y.1).isSome = true) := by
    rintro ⟨n1, v1⟩ hy
    rcases sc.par n1 (List.of_mem_zip hy).1 with q | q
    · exact .inl q
    · exact .inr ⟨q, PySem.W.cellsFrom_some _ _ _ (.inl q)⟩
  refine codeAny_call_function room.depth (kin _ _ look) rfl sc.co sc.gen rfl (PySem.W.codeRec_of kin code) (bind _ _ _ _ ?_)
  refine wpAny_newFunctionEnv_cells sc.kind names fun en hen s1 inc => ?_
  subst hen
  refine ⟨nolim.keeps inc.toInCall.keep, codeAny_func ?_⟩
  have I := inv_start (CX := L2.CX P w) (P := P) (w := w) (E := E) sc room.hd env hl rel inc
  have good : Good (cxOf (L2.CX P w) P w K mg base ns qual (C8.fnScope st) f cdv A frs0 s H E).nox ns (C8.fnScope st) (fun _ => true) k :=
    ⟨rfl, sc.nd, rfl, sc.kind, rfl, rfl, gd, (room.deeper _).mono (Nat.le_succ k), rfl⟩
  have tk : Takes (cxOf (L2.CX P w) P w K mg base ns qual (C8.fnScope st) f cdv A frs0 s H E) (fun cls d _ H => E cls d H) := takes_of rfl rfl rfl rfl
  have rai : Rai (cxOf (L2.CX P w) P w K mg base ns qual (C8.fnScope st) f cdv A frs0 s H E) (fun cls d _ H => E cls d H) C fI cn k :=
    ⟨tk, rfl, U, (room.deeper _ : Room (k + 1) _), hsp, gl _ rfl rfl rfl, hC, dbg⟩
  obtain ⟨hk, hr⟩ := Bool.and_eq_true_iff.mp hB
  have hk := of_decide_eq_true hk
  have pss := sndRs body (C8.fnBody st) good rai hf (fun m q => by
    have := hm m q
    cases m <;> exact this) chk chr
  refine wpAny_mono (pss.run [] s1 _ H { nx := fun _ _ => False, rt := fun _ _ => False } I ⟨[], ds.map some ++ List.replicate (n - ps.length) none, [], by rw [← hk]; exact ER.start rs hn, ⟨rfl, fun n o a q => by simp at q, fun m n a o u q => by simp at q⟩, hr, fun ρ' H' σ' g => hE ρ' H' g⟩)
    (fun fl s' z => ?_) fun e s' z => z
  cases fl with
  | ret u => obtain ⟨_, _, _, _, _, q⟩ := z; exact q.elim
  | next => obtain ⟨_, _, _, q⟩ := z; exact q.elim
  | brk => obtain ⟨_, _, _, q⟩ := z; exact q.elim
  | cont => obtain ⟨_, _, _, q⟩ := z; exact q.elim
end
end N
set_option autoImplicit false
set_option Elab.async false
set_option linter.all false
set_option maxRecDepth 100000
set_option maxHeartbeats 4000000
namespace N
open PySem PySem.W PySem.Spec PyProof.Rows
/-! ### what is read in K is read without its rows -/
section
variable {K : Frag} {a : Addr} {x : Str} {v t c : Value}
theorem nsIn_less {r : Option Value} (h : nsIn K a x = some r) : nsIn (lessK K) a x = some r := by
  unfold nsIn at h ⊢
  cases e : K.lookup a with
  | none => rw [e] at h; cases h
  | some o =>
    obtain ⟨oc, od, da, sl⟩ := o
    cases da with
    | dict es n =>
      rw [less_look.mpr ⟨e, rfl⟩]
      rw [e] at h
      exact h
    | _ => rw [e] at h; cases h
theorem clsIn_less {cd : ClassData} (h : clsIn K a = some cd) : clsIn (lessK K) a = some cd := by
  unfold clsIn at h ⊢
  cases e : K.lookup a with
  | none => rw [e] at h; cases h
  | some o =>
    obtain ⟨oc, od, da, sl⟩ := o
    cases da with
    | cls cd' =>
      rw [less_look.mpr ⟨e, rfl⟩]
      rw [e] at h
      exact h
    | _ => rw [e] at h; cases h
theorem ownIn_less {r : Option Value} (h : ownIn K x v = some r) : ownIn (lessK K) x v = some r := by
  cases v with
  | ref b =>
    unfold ownIn at h ⊢
    dsimp only at h ⊢
    cases e : K.lookup b with
    | none => rw [e] at h; cases h
    | some o =>
      obtain ⟨oc, od, da, sl⟩ := o
      cases da with
      | cls cd' =>
        rw [less_look.mpr ⟨e, rfl⟩]
        rw [e] at h
        exact nsIn_less h
      | _ => rw [e] at h; cases h
  | _ => exact h
theorem alongIn_less : ∀ {l : List Value} {r : Option Value}, alongIn K x l = some r → alongIn (lessK K) x l = some r
  | [], _, h => h
  | c :: l, r, h => by
    unfold alongIn at h ⊢
    cases e : ownIn K x c with
    | none => rw [e] at h; cases h
    | some q =>
      rw [e] at h
      rw [ownIn_less e]
      cases q with
      | none => exact alongIn_less h
      | some q => exact h
theorem findIn_less {r : Option Value} (h : findIn K t x = some r) : findIn (lessK K) t x = some r := by
  cases t with
  | ref b =>
    unfold findIn at h ⊢
    dsimp only at h ⊢
    cases e : K.lookup b with
    | none => rw [e] at h; cases h
    | some o =>
      obtain ⟨oc, od, da, sl⟩ := o
      cases da with
      | cls cd' =>
        rw [less_look.mpr ⟨e, rfl⟩]
        rw [e] at h
        exact alongIn_less h
      | _ => rw [e] at h; cases h
  | _ => exact h
theorem mroIn_less {b : Bool} (h : mroIn K a v = some b) : mroIn (lessK K) a v = some b := by
  unfold mroIn at h ⊢
  obtain ⟨cd, e1, e2⟩ := Option.bind_eq_some_iff.mp h
  rw [clsIn_less e1]
  exact e2
theorem subIn_less {b : Bool} (h : subIn K t v = some b) : subIn (lessK K) t v = some b := by
  cases t with
  | ref C => exact mroIn_less h
  | _ => exact h
/-- the type of a function, of a class -/
def plainAt (K : Frag) (a : Addr) : Bool := match K.lookup a with
  | some o => plainO o
  | none => false
theorem typeIn_less (hp : plainAt K a = true) (h : typeIn K (.ref a) = some v) : typeIn (lessK K) (.ref a) = some v := by
  unfold plainAt at hp
  unfold typeIn at h ⊢
  dsimp only at h ⊢
  cases e : K.lookup a with
  | none => rw [e] at h; cases h
  | some o =>
    rw [e] at hp h
    rw [less_look.mpr ⟨e, hp⟩]
    exact h
theorem specialIn_less {i : String} {r : Option Value} (h : specialIn K (.builtin i) x = some r) : specialIn (lessK K) (.builtin i) x = some r := by
  unfold specialIn at h ⊢
  obtain ⟨t, e1, e2⟩ := Option.bind_eq_some_iff.mp h
  have e3 : typeIn (lessK K) (.builtin i) = some t := e1
  rw [e3]
  exact findIn_less e2
theorem specialIn_lessR {r : Option Value} (hp : plainAt K a = true) (h : specialIn K (.ref a) x = some r) : specialIn (lessK K) (.ref a) x = some r := by
  unfold specialIn at h ⊢
  obtain ⟨t, e1, e2⟩ := Option.bind_eq_some_iff.mp h
  rw [typeIn_less hp e1]
  exact findIn_less e2
theorem takesIn_less {i : String} {b : Bool} (h : takesIn K (.builtin i) = some b) : takesIn (lessK K) (.builtin i) = some b := by
  unfold takesIn at h ⊢
  cases e : specialIn K (.builtin i) "__set__" with
  | none => rw [e] at h; cases h
  | some q =>
    rw [e] at h
    rw [specialIn_less e]
    cases q with
    | some _ => exact h
    | none =>
      obtain ⟨y, e1, e2⟩ := Option.map_eq_some_iff.mp h
      dsimp only
      rw [specialIn_less e1]
      exact congrArg some e2
theorem hasDict_less (h : hasDictIn K a = true) : hasDictIn (lessK K) a = true := by
  unfold hasDictIn at h ⊢
  cases e : clsIn K a with
  | none => rw [e] at h; cases h
  | some cd =>
    rw [clsIn_less e]
    rw [e] at h
    exact h
theorem keepC_less (h : keepIn K (.ref a) = true) : keepIn (lessK K) (.ref a) = true := by
  unfold keepIn at h ⊢
  dsimp only at h ⊢
  cases e : K.lookup a with
  | none => rw [e] at h; cases h
  | some o =>
    obtain ⟨oc, od, da, sl⟩ := o
    cases da with
    | func fd => rw [less_look.mpr ⟨e, rfl⟩]
    | cls cd =>
      rw [less_look.mpr ⟨e, rfl⟩]
      rw [e] at h
      have hp : plainAt K a = true := by unfold plainAt; rw [e]; rfl
      have := eq_of_beq h
      dsimp only
      rw [specialIn_lessR hp this]
      rfl
    | _ => rw [e] at h; cases h
end
end N
set_option autoImplicit false
set_option Elab.async false
set_option linter.all false
set_option maxRecDepth 100000
set_option maxHeartbeats 4000000
namespace N
open PySem PySem.W PySem.Spec PyProof.Rows
/-! ### the class of an exception, as the written part has it -/
def clsB (K : Frag) (C : Addr) : Bool := match K.lookup C with
  | some ⟨.type t, _, .cls cd, sl⟩ => match cd.mro, sl.toList with
    | .ref B :: bm, [_, _, _, _, some (.builtin n), _] => (decide (t = "type") && decide (B = C)) && (decide (n = "ValueError.__new__") && ((!cd.hasDel && cd.hasDict) && PySem.HandSPX.refsVE bm))
    | _, _ => false
  | _ => false
theorem clsB_ok {K : Frag} {C : Addr} (h : clsB K C = true) : ∃ nm q N bs bm sn sub ab col dd k0 k1 k2 k3 k5, (lessK K).lookup C = some (excClassObj nm q C N bs bm true sn sub ab col dd k0 k1 k2 k3 k5 "ValueError.__new__") ∧ PySem.HandSPX.refsVE bm = true := by
  unfold clsB at h
  cases e : K.lookup C with
  | none => rw [e] at h; cases h
  | some o =>
    rw [e] at h
    obtain ⟨oc, od, da, sl⟩ := o
    cases oc with
    | type t =>
      cases da with
      | cls cd =>
        dsimp only at h
        obtain ⟨nm, bs, mro, ns, qn, hd, sn, sb, ab, col, del⟩ := cd
        obtain ⟨sl⟩ := sl
        dsimp only at h
        split at h
        · rename_i B bm s0 s1 s2 s3 n s5
          obtain ⟨h1, h2⟩ := band h
          obtain ⟨h3, h4⟩ := band h1
          obtain ⟨h5, h6⟩ := band h2
          obtain ⟨h7, h8⟩ := band h6
          obtain ⟨h9, ha⟩ := band h7
          have e3 := of_decide_eq_true h3
          have e4 := of_decide_eq_true h4
          have e5 := of_decide_eq_true h5
          subst e3 e4 e5
          have hdel : del = false := by simpa using h9
          subst hdel
          have hdt : hd = true := ha
          subst hdt
          exact ⟨nm, qn, ns, bs, bm, sn, sb, ab, col, od, s0, s1, s2, s3, s5, less_look.mpr ⟨e, rfl⟩, h8⟩
        · cases h
      | _ => cases h
    | _ => cases da <;> cases h
/-- the __init__ at f: its text, its places -/
def initB (P : Program) (K : Frag) (C f : Addr) : Bool := match K.lookup f with
  | some ⟨_, _, .func fd, _⟩ => match fd.body, fd.closure, fd.params, fd.code with
    | .stmts [.Expr (.Call (.Attribute (.Call (.Name n1 _) [] [] _) n2 p2) [] [] p3) _], [(n3, cc)], ⟨[], [a], none, [], [], none, []⟩, .ref cda =>
      ((decide (n1 = "super") && (decide (n2 = "__init__") && decide (n3 = "__class__"))) && ((decide (fd.globals = mainGlobals) && decide (fd.builtins = builtinsNs)) && ((p2.endLine == p3.line) && (decide (a.arg = "self") && decide (fd.defaults = .none))))) &&
      (((decide (fd.scope.names.lookup a.arg = some .local) && (decide (fd.scope.names.lookup ("super" : Str) = some .globalImplicit) && decide (fd.scope.names.lookup ("__class__" : Str) = some .free))) &&
        (fd.scope.names.all (fun y => decide (y.2 ≠ .cell)) && (decide (fd.scope.kind = .function) && (!fd.scope.isCoroutine && !fd.scope.isGenerator)))) &&
      ((codeIn K (.ref cda) fd.qualname && (match K.lookup cda with
        | some ⟨_, _, .fields vs, _⟩ => match (vs[2]? : Option Value) with
          | some (.str file _) => (P.main.file : Str) == file
          | _ => false
        | _ => false)) && (match K.lookup cc with
        | some ⟨_, _, .cell (some (.ref B)), _⟩ => decide (B = C)
        | _ => false)))
    | _, _, _, _ => false
  | _ => false
def superB (K : Frag) (C : Addr) : Bool := match clsIn K C with
  | some cd => decide (alongIn K "__init__" ((cd.mro.dropWhile (· != .ref C)).drop 1) = some (some (.builtin "ValueError.__init__")))
  | none => false
def bareB (P : Program) (K : Frag) (C f : Addr) : Bool :=
  ((clsB K C && decide (findIn K (.ref C) "__setattr__" = some (some (.builtin "object.__setattr__")))) && (decide (subIn K (.ref C) (.type "BaseException") = some true) && (decide (typeIn K (.ref C) = some (.type "type")) && keepIn K (.ref C)))) &&
  (((decide (findIn K (.ref C) "__init__" = some (some (.ref f))) && decide (typeIn K (.ref f) = some (.type "function"))) && (initB P K C f && superB K C)) &&
  ((decide (mroIn K C (.ref C) = some true) && decide (subIn K (.ref C) (.type "ValueError") = some true)) && (decide (nsIn K cStatics "thirdparty.any" = some none) && !(P.main.scope.names.lookup ("super" : Str)).isSome)))
theorem bareB_ok {P : Program} {K : Frag} {C f : Addr} (h : bareB P K C f = true) : BareC P (lessK K) C f := by
  obtain ⟨h1, h2⟩ := band h
  obtain ⟨h3, h4⟩ := band h1
  obtain ⟨hc, hsa⟩ := band h3
  obtain ⟨hbe, h5⟩ := band h4
  obtain ⟨hty, hkp⟩ := band h5
  obtain ⟨h6, h7⟩ := band h2
  obtain ⟨h8, h9⟩ := band h6
  obtain ⟨hi, ht⟩ := band h8
  obtain ⟨hin, hsu⟩ := band h9
  obtain ⟨ha, hb⟩ := band h7
  obtain ⟨hm, hve⟩ := band ha
  obtain ⟨hst, htop⟩ := band hb
  have pC : plainAt K C = true := by
    unfold clsB at hc
    unfold plainAt
    cases e : K.lookup C with
    | none => rw [e] at hc; cases hc
    | some o =>
      rw [e] at hc
      obtain ⟨oc, od, da, sl⟩ := o
      cases da with
      | cls cd => rfl
      | _ => cases oc <;> cases hc
  have hfn := hin
  unfold initB at hin
  have pf : plainAt K f = true := by
    unfold plainAt
    cases e : K.lookup f with
    | none => rw [e] at hin; cases hin
    | some o =>
      rw [e] at hin
      obtain ⟨oc, od, da, sl⟩ := o
      cases da with
      | func fd => rfl
      | _ => cases hin
  refine ⟨⟨clsB_ok hc, findIn_less (of_decide_eq_true hsa), subIn_less (of_decide_eq_true hbe), typeIn_less pC (of_decide_eq_true hty), keepC_less hkp⟩, findIn_less (of_decide_eq_true hi), typeIn_less pf (of_decide_eq_true ht), ?_, ?_, mroIn_less (of_decide_eq_true hm),
    subIn_less (of_decide_eq_true hve), nsIn_less (of_decide_eq_true hst), by simpa using htop⟩
  · cases e : K.lookup f with
    | none => rw [e] at hin; cases hin
    | some o =>
      rw [e] at hin
      obtain ⟨oc, od, da, sl⟩ := o
      cases da with
      | func fd =>
        obtain ⟨fnm, fq, fpar, fbody, fsc, fgl, fcl, fdv, fkv, fdoc, fpm, fan, fcode, fct, fbl⟩ := fd
        dsimp only at hin
        split at hin
        · rename_i n1 p0 p1 n2 p2 p3 p4 n3 cc a cda
          obtain ⟨g1, g2⟩ := band hin
          obtain ⟨g3, g4⟩ := band g1
          obtain ⟨x1, g5⟩ := band g3
          obtain ⟨x2, x3⟩ := band g5
          obtain ⟨g6, x6⟩ := band g4
          obtain ⟨x7, u1⟩ := band x6
          obtain ⟨u2, u3⟩ := band u1
          have u4 := of_decide_eq_true u2
          have u5 := of_decide_eq_true u3
          clear u1 u2 u3
          obtain ⟨x4, x5⟩ := band g6
          obtain ⟨g7, g8⟩ := band g2
          obtain ⟨g9, ga⟩ := band g7
          obtain ⟨y1, gb⟩ := band g9
          obtain ⟨y2, y3⟩ := band gb
          obtain ⟨y4, gc⟩ := band ga
          obtain ⟨y5, gd⟩ := band gc
          obtain ⟨y6, y7⟩ := band gd
          obtain ⟨ge, z3⟩ := band g8
          obtain ⟨z1, z2⟩ := band ge
          have w1 := of_decide_eq_true x1
          have w2 := of_decide_eq_true x2
          have w3 := of_decide_eq_true x3
          have w4 := of_decide_eq_true x4
          have w5 := of_decide_eq_true x5
          clear x1 x2 x3 x4 x5
          subst w1 w2 w3 w4 w5
          obtain ⟨an, aa, ap⟩ := a
          dsimp only at u4
          subst u4 u5
          refine ⟨fnm, fq, ⟨[], [⟨"self", aa, ap⟩], none, [], [], none, []⟩, fsc, p0, p1, p2, p3, p4, .none, fkv, fdoc, fpm, fct, oc, fan, od, sl, cda, cc, ⟨"self", aa, ap⟩, less_look.mpr ⟨e, rfl⟩, rfl, fun u => rfl, of_decide_eq_true y1, of_decide_eq_true y2, of_decide_eq_true y3, x7, fun y hy => ?_, of_decide_eq_true y5, by simpa using y6, by simpa using y7, less_code z1, ?_, ?_⟩
          · exact of_decide_eq_true (List.all_eq_true.mp y4 y hy)
          · cases e2 : K.lookup cda with
            | none => rw [e2] at z2; cases z2
            | some o2 =>
              rw [e2] at z2
              obtain ⟨oc2, od2, da2, sl2⟩ := o2
              cases da2 with
              | fields vs =>
                try dsimp only at z2
                split at z2
                · rename_i file tf e3
                  exact ⟨oc2, od2, vs, sl2, file, tf, less_look.mpr ⟨e2, rfl⟩, e3, z2⟩
                · cases z2
              | _ => cases z2
          · cases e2 : K.lookup cc with
            | none => rw [e2] at z3; cases z3
            | some o2 =>
              rw [e2] at z3
              obtain ⟨oc2, od2, da2, sl2⟩ := o2
              try dsimp only at z3
              split at z3
              · rename_i q1 q2 B q3 q4
                cases q4
                have := of_decide_eq_true z3
                subst this
                exact ⟨_, _, _, less_look.mpr ⟨e2, rfl⟩⟩
              · cases z3
        · cases hin
      | _ => cases hin
  · unfold superB at hsu
    cases e : clsIn K C with
    | none => rw [e] at hsu; cases hsu
    | some cd =>
      rw [e] at hsu
      exact ⟨cd, clsIn_less e, alongIn_less (of_decide_eq_true hsu)⟩
/-- isinstance asks its instances rightly -/
def askB (K : Frag) (D : Addr) : Bool :=
  ((decide (findIn K (.ref D) "__getattribute__" = some (some (.builtin "BaseException.__getattribute__"))) && decide (findIn K (.ref D) "__getattr__" = some none)) && (decide (subIn K (.ref D) (.type "BaseException") = some true) && hasDictIn K D)) &&
  ((decide (findIn K (.ref D) "__class__" = some (some (.builtin "object.__class__"))) && decide (specialIn K (.builtin "object.__class__") "__get__" = some (some (.builtin "getset_descriptor.__get__")))) &&
  (decide (takesIn K (.builtin "object.__class__") = some true) && decide (mroIn K D (.type "object") = some true)))
theorem askB_ok {K : Frag} {D : Addr} (h : askB K D = true) : L2.ExcC (lessK K) D := by
  obtain ⟨h1, h2⟩ := band h
  obtain ⟨h3, h4⟩ := band h1
  obtain ⟨a1, a2⟩ := band h3
  obtain ⟨a3, a4⟩ := band h4
  obtain ⟨h5, h6⟩ := band h2
  obtain ⟨a5, a6⟩ := band h5
  obtain ⟨a7, a8⟩ := band h6
  exact ⟨findIn_less (of_decide_eq_true a1), findIn_less (of_decide_eq_true a2), subIn_less (of_decide_eq_true a3), hasDict_less a4, findIn_less (of_decide_eq_true a5), specialIn_less (of_decide_eq_true a6), takesIn_less (of_decide_eq_true a7), mroIn_less (of_decide_eq_true a8)⟩
end N
set_option autoImplicit false
set_option Elab.async false
set_option linter.all false
set_option maxRecDepth 100000
set_option maxHeartbeats 4000000
namespace N
open PySem L2 PySem.Spec PyProof.Rows
/-! ### a call that raises, a try around it -/
structure CalR (P : Program) (w : World) (K : PySem.W.Frag) (mg : Str → Option Value) (base : Heap) (k : Nat) (x : Str) (C : Addr) (B : List D → Bool) : Prop where
  ex : ∃ (f : Addr) (fd : FuncData) (ps : List Str), FnR P w K mg base k f fd ps C B ∧ mg x = some (.ref f) ∧ PySem.W.keepIn K (.ref f) = true ∧ (∀ ds, B ds = true → ds.length = ps.length) ∧ ∀ us : List Value, us.length = ps.length → bindArgs fd ⟨us, []⟩ = pure (ps.zip us)
section
variable {X : Cx} {C : Addr} {W : WX} {B : List D → Bool} {p pos : Pos}
theorem pe_either {E : Expr} {t u : TE} (h1 : PE X E t) (h2 : PE X E u) : PE X E (fun σ H Q => t σ H Q ∨ u σ H Q) := ⟨fun pins s σ H Q I hw => hw.elim (h1.run pins s σ H Q I) (h2.run pins s σ H Q I)⟩
theorem pe_callR {j k : Nat} {x : Str} {E : Expr} {Es : List Expr} {ys : List Ex} (c : CalR X.prog X.w X.K X.mg X.base k x C B) (tk : Takes X W) (hr : Room j X.A) (hk : k ≤ j) (gd : X.A.guards = some []) (hg : Gl X x) (ha : SA X (E :: Es) (evalEs ys)) (ns : noStars (E :: Es) = true) (hdb : (x == ("__debug__" : Str)) = false) :
    PE X (.Call (.Name x p) (E :: Es) [] pos) (fun σ H Q => ∃ ρ e S ds S1, ER ρ H e σ ∧ SR X.K ρ H S ∧ evalEs ys e S = some (ds, S1) ∧ D.los 0 ds = true ∧ B ds = true ∧ ∀ ρ' H', Go ρ H ρ' H' → SR X.K ρ' H' S1 → W (.ref C) none σ H') := by
  obtain ⟨fa, fd, ps, G, hm, hkp, hlen, hb⟩ := c.ex
  have h := Bool.and_eq_true_iff.mp (show (noStar E && noStars Es) = true from ns)
  refine ⟨fun pins s σ H Q I q => ?_⟩
  obtain ⟨ρ, e, S, ds, S1, h1, h2, e1, h0, hB, k2⟩ := q
  refine wpAny_Call_Name_kw (ld_glob I hg hm ?_ hdb)
  refine PySem.W.callWith_K (h₀ := X.base) I.ok.mod.kin hkp (thn (ha.run pos pins s σ H (fun vs H1 => ∃ ρ1, Go ρ H ρ1 H1 ∧ SR X.K ρ1 H1 S1 ∧ VRs ρ1 H1 ds vs) I ⟨ρ, e, S, ds, S1, h1, h2, e1, fun ρ1 H1 vs g1 s1 r1 => ⟨ρ1, g1, s1, r1⟩⟩) fun us s1 ⟨vs, H1, I1, r, ρ1, g1, s1', rr⟩ => ⟨I1.kIn, ?_⟩) (star_cons h.1) (star_any h.2)
  have hn := hlen ds hB
  have hvl : vs.length = ps.length := by rw [← rr.len]; exact hn
  have hl : us.length = ps.length := by rw [← r.length]; exact hvl
  refine wpAny_call (codeAny_mono (G.go (E := fun cls d H2 => cls = .ref C ∧ d = none ∧ ∃ ρ2, Go [] H1 ρ2 H2) gd (hr.mono hk) I1.env0 r (.of_eq (hb us hl)) hvl (rr.pure h0) hB fun ρ2 H2 g => ⟨rfl, rfl, ρ2, g⟩) fun q s' z => ?_)
  cases q with
  | ok fl => exact False.elim z
  | error u =>
    refine tk u s' (XE.of_call I1 (fun cls d H2 hE => ?_) z)
    obtain ⟨rfl, rfl, ρ2, g⟩ := hE
    have kp : ∀ a u, H1 a = some u → H2 a = some u := fun a u e => g.fr a u e fun z => absurd z.1 (by simp)
    exact k2 ρ1 H2 (g1.trans ⟨⟨[], by simp, by simp⟩, fun a o e _ => kp a o e, g.th⟩) (s1'.keep kp)
end
theorem tryF_len {n k : Nat} {x : Ex} {ys : List Ex} {B : List D → Bool} {o : O} (ds : List D) (S : Sto) (r : D × Sto) (h : tryF n k x ys B o ds S = some r) : ds.length = k := by
  unfold tryF at h
  split at h
  · assumption
  · cases h
section
variable {X : Cx} {C L : Addr}
/-- the suite: return ['..', isinstance(e, L)] -/
theorem suite_isi {i : Nat} {xs en ln : Str} {b : Bool} {j : Nat} {p5 p6 p7 p8 p9 p10 p11 : Pos} (d1 : (en == ("__debug__" : Str)) = false) (d2 : (en == ("__classdict__" : Str)) = false) (d3 : (ln == ("__debug__" : Str)) = false) (ask : ExcC X.K C) (hN : X.N[i]? = some en) (hv : Vis X.env.scope en) (gi : Gl X "isinstance") (mi : X.mg "isinstance" = none) (gL : Gl X ln) (mL : X.mg ln = some (.ref L)) (kt : PySem.W.kitOne X.K (.ref C) (.ref L) = some b)
    (a : Addr) (oe : Obj) (cls : Value) (d : Option Addr) (pn : List (Addr × Obj)) (hz : Zc cls d oe) (hfv : ∃ vs, oe.data = .fields vs) :
    PSs (X.suite a ((a, oe) :: pn)) [.Return (some (.List [.Constant (.str xs) j p5, .Call (.Name "isinstance" p6) [.Name en p7, .Name ln p8] [] p9] p10)) p11]
      (fun D σ H => cls = .ref C ∧ d = none ∧ σ[i]? = some (some (.ref a)) ∧ ∀ q, H q = none → D.rt (.ref q) (upd H q (.lst [.str xs, .bl b]))) := by
  refine ⟨fun pins s σ H De I h => ?_⟩
  obtain ⟨rfl, rfl, hσ, k⟩ := h
  have r := pss_one (ps_ret (pos := p11) (pe_lst (X := X.suite a ((a, oe) :: pn)) (pos := p10) (pa_cons (pe_str (x := xs) (j := j) (pos := p5)) (pa_cons (pe_callB (p := p6) (pos := p9) (call_isE (X := X) (pn := pn) ask hz hfv) gi mi (by decide +kernel) (pa_cons (pe_var (pos := p7) hN hv d1 d2) (pa_cons (pe_glob (pos := p8) gL mL (v := .ref L) rfl d3) pa_nil))) pa_nil))))
  exact r.run pins s σ H De I ⟨.ref a, hσ, _, _, b, rfl, fun u z => z, kt, by rw [sizeLine_eq]; simp, k⟩
end
theorem takesNo {X : Cx} : Takes X (fun _ _ _ _ => False) := fun _ _ h => by
  obtain ⟨a, B, sI, pins, σ, H, cls, d, e⟩ := h
  exact e.2.2.2.2.2.2.2.2.elim
theorem PAll.nox {X : Cx} : ∀ {ys : List Ex} {Es : List Expr}, All2 (Is X.nox) ys Es → All2 (Is X) ys Es
  | _, _, .nil => .nil
  | _, _, .cons h t => .cons ⟨PE.nox h.v, PT.nox h.t⟩ (PAll.nox t)
section
variable {P : Program} {w : World} {K : PySem.W.Frag} {mg : Str → Option Value} {base : Heap}
/-- the names of a try def, as its scope has them -/
structure TrySc (ns : List Str) (sc : Scope) (i : Nat) (fx cx ln en : Str) : Prop where
  err : ns[i]? = some en
  loc : sc.names.lookup en = some .local
  gf : sc.names.lookup fx = some .globalImplicit
  gc : sc.names.lookup cx = some .globalImplicit
  gi : sc.names.lookup ("isinstance" : Str) = some .globalImplicit
  gl : sc.names.lookup ln = some .globalImplicit
  df : (fx == ("__debug__" : Str)) = false
  dc : (cx == ("__debug__" : Str)) = false
  dl : (ln == ("__debug__" : Str)) = false
  de : (en == ("__debug__" : Str)) = false
  de2 : (en == ("__classdict__" : Str)) = false
/-- the text of such a def -/
def chkTry (ns : List Str) (sc : Scope) (fx cx ln en : Str) (xs : List Nat) (ys : List Ex) : List Stmt → Bool
  | [.Try [.Return (some (.Call (.Name f1 _) (E :: Es) [] _)) _] [.ExceptHandler (some (.Name c1 _)) (some e1) [.Return (some (.List [.Constant (.str s1) _ _, .Call (.Name i1 _) [.Name e2 _, .Name l1 _] [] _] _)) _] _] [] [] _] =>
    ((decide (f1 = fx) && (decide (c1 = cx) && decide (e1 = en))) && ((decide (s1 = sOf xs) && decide (i1 = "isinstance")) && (decide (e2 = en) && decide (l1 = ln)))) && (chkEs ns ys sc (fun _ => true) (E :: Es) && noStars (E :: Es))
  | _ => false
theorem fn_T0 {x qual fx cx ln en : Str} {xs : List Nat} {xn : List Nat} {g : Fn} {ys : List Ex} {B : List D → Bool} {st : Stmt} {f C CL : Addr} {fd : FuncData} {ns ps : List Str} {i k n j : Nat} {b : Bool} {E : Expr} {Es : List Expr} {p1 p2 p3 p4 p5 p6 p7 p8 p9 p10 p11 p12 p13 : Pos} (hn : n = ns.length) (hni : i < ns.length) (F : C8.Fun K x qual st f fd) (sc : FnScope ns ps (C8.fnScope st))
    (hbody : C8.fnBody st = [.Try [.Return (some (.Call (.Name fx p1) (E :: Es) [] p2)) p3] [.ExceptHandler (some (.Name cx p4)) (some en) [.Return (some (.List [.Constant (.str (sOf xs)) j p5, .Call (.Name "isinstance" p6) [.Name en p7, .Name ln p8] [] p9] p10)) p11] p12] [] [] p13])
    (chk : chkEs ns ys (C8.fnScope st) (fun _ => true) (E :: Es) = true) (nst : noStars (E :: Es) = true) (ts : TrySc ns (C8.fnScope st) i fx cx ln en)
    (hf : ∀ y ∈ BN, mg y = none) (hm : ∀ m ∈ needss ys, MetP P w K mg base k m) (cg : CalG P w K mg base k fx g) (cr : CalR P w K mg base k fx C B) (hC : mg cx = some (.ref C)) (hL : mg ln = some (.ref CL)) (mi : mg "isinstance" = none)
    (ask : ExcC K C) (kt : PySem.W.kitOne K (.ref C) (.ref CL) = some b) (ex : PySem.W.exmOne K (.ref C) (.ref C) = some true) :
    FnG P w K mg base (k + 1) f fd ps (tryF n ps.length (.call xn g ys) ys B (.lst [.str xs, .bl b])) := by
  obtain ⟨c1, c2, c3, c4, c5, c6, c7, cdv, c8, c9, rfl, look, code⟩ := F.ex
  refine ⟨fun {A frs0 s H ar us vs Q} gd room env rel bind sp => ?_⟩
  obtain ⟨hl, ρ, S, ds, d, S', hS, rs, run, fin⟩ := sp
  have kin : K.In s.heap := env.mod.kin.keeps fun b o e => (env.bs b o e).1
  have nolim : s.heap.NoLimit := env.mod.nolimit.keeps fun b o e => (env.bs b o e).1
  have names : ∀ y ∈ ps.zip us, (C8.fnScope st).names.lookup y.1 = some .local ∨ ((C8.fnScope st).names.lookup y.1 = some .cell ∧ ((cellsFrom (s.heap.objs.size + 1) (C8.fnScope st).names []).lookup y.1).isSome = true) := by
    rintro ⟨n1, v1⟩ hy
    rcases sc.par n1 (List.of_mem_zip hy).1 with q | q
    · exact .inl q
    · exact .inr ⟨q, PySem.W.cellsFrom_some _ _ _ (.inl q)⟩
  refine codeAny_call_function room.depth (kin _ _ look) rfl sc.co sc.gen rfl (PySem.W.codeRec_of kin code) (bind _ _ _ _ ?_)
  refine wpAny_newFunctionEnv_cells sc.kind names fun en2 hen s1 inc => ?_
  subst hen
  refine ⟨nolim.keeps inc.toInCall.keep, codeAny_func ?_⟩
  have I := inv_start (CX := C8.CX0) (P := P) (w := w) (E := fun _ _ _ => False) sc room.hd env hl rel inc
  let X : Cx := (cxOf C8.CX0 P w K mg base ns qual (C8.fnScope st) f cdv A frs0 s H fun _ _ _ => False).nox
  have pss : PSs X (C8.fnBody st) (fun De σ H0 => (TEv K (evalE (.call xn g ys)) σ H0 De.rt) ∨ ∃ ρ e S ds S1, ER ρ H0 e σ ∧ SR K ρ H0 S ∧ evalEs ys e S = some (ds, S1) ∧ D.los 0 ds = true ∧ B ds = true ∧
      ∀ ρ' H', Go ρ H0 ρ' H' → SR K ρ' H' S1 → wAs K (.ref C) i (fun a cls d De σ H => cls = .ref C ∧ d = none ∧ σ[i]? = some (some (.ref a)) ∧ ∀ q, H q = none → De.rt (.ref q) (upd H q (.lst [.str (sOf xs), .bl b]))) (fun _ _ _ _ => False) De (.ref C) none σ H') := by
    rw [hbody]
    refine pss_one (ps_try_as (X := X) (c := .ref C) (i := i) (n := en) (Wout := fun _ _ _ _ => False)
      (tb := fun W De σ H0 => (TEv K (evalE (.call xn g ys)) σ H0 De.rt) ∨ ∃ ρ e S ds S1, ER ρ H0 e σ ∧ SR K ρ H0 S ∧ evalEs ys e S = some (ds, S1) ∧ D.los 0 ds = true ∧ B ds = true ∧ ∀ ρ' H', Go ρ H0 ρ' H' → SR K ρ' H' S1 → W (.ref C) none σ H')
      rfl rfl sc.nd ts.err ts.loc ⟨ts.gc, ts.dc, .inl hC⟩ takesNo (fun W pn xe tk po => ?_) (fun a oe cls d pn hz hfv => suite_isi (X := X) ts.de ts.de2 ts.dl ask ts.err (.inl ts.loc) ts.gi mi ts.gl hL kt a oe cls d pn hz hfv))
    have good : Good (X.tr pn xe).nox ns (C8.fnScope st) (fun _ => true) k := ⟨rfl, sc.nd, rfl, sc.kind, rfl, rfl, gd, room.deeper _, rfl⟩
    have qs := sndEs ys (X.tr pn xe).nox _ _ (E :: Es) good hf (fun m q => by
      have := hm m q
      cases m <;> exact this) chk
    have sa : SA (X.tr pn xe) (E :: Es) (evalEs ys) := sa_all (PAll.nox qs) nst
    exact pss_one (ps_ret (pe_either (se_call (X := X.tr pn xe) cg (room.deeper _) (Nat.le_refl _) gd ts.gf sa nst ts.df) (pe_callR (X := X.tr pn xe) cr tk (room.deeper _) (Nat.le_refl _) gd ts.gf sa nst ts.df)))
  unfold tryF at run
  split at run
  · rename_i hk
    have er : ER ρ H (ds.map some ++ List.replicate (n - ps.length) none) (L2.start ns vs) := by rw [← hk]; exact ER.start rs hn
    refine wpAny_mono (pss.run [] s1 _ H { nx := fun _ H' => Q .non H', rt := Q } (I.wish _) ?_) (fun fl s' z => ?_) fun e s' z => False.elim z
    · split at run
      · rename_i r e1
        cases run
        exact .inl ⟨ρ, _, S, d, S', er, hS, e1, fin⟩
      · split at run
        · rename_i xs1 S1 e1
          split at run
          · rename_i c
            obtain ⟨h0, hB⟩ := Bool.and_eq_true_iff.mp c
            cases run
            refine .inr ⟨ρ, _, S, xs1, S1, er, hS, e1, h0, hB, fun ρ' H' g' s2 => ⟨true, ex, fun _ a ha => ⟨rfl, rfl, List.getElem?_set_self ?_, fun q hq => ?_⟩, fun z => nomatch z⟩⟩
            · unfold L2.start
              rw [List.length_append, List.length_map, List.length_replicate]
              omega
            · exact (fin.go g').lst s2 (.cons (.str _) (.cons (.bl _) .nil)) q hq
          · cases run
        · cases run
    · have q := fn_G.fin_ok z.unwish
      cases fl <;> exact q
  · cases run
theorem fn_T {x qual fx cx ln en : Str} {xs : List Nat} {xn : List Nat} {g : Fn} {ys : List Ex} {B : List D → Bool} {st : Stmt} {f C CL : Addr} {fd : FuncData} {ns ps : List Str} {i k n : Nat} {b : Bool} (hn : n = ns.length) (hni : i < ns.length) (F : C8.Fun K x qual st f fd) (sc : FnScope ns ps (C8.fnScope st))
    (chk : chkTry ns (C8.fnScope st) fx cx ln en xs ys (C8.fnBody st) = true) (ts : TrySc ns (C8.fnScope st) i fx cx ln en)
    (hf : ∀ y ∈ BN, mg y = none) (hm : ∀ m ∈ needss ys, MetP P w K mg base k m) (cg : CalG P w K mg base k fx g) (cr : CalR P w K mg base k fx C B) (hC : mg cx = some (.ref C)) (hL : mg ln = some (.ref CL)) (mi : mg "isinstance" = none)
    (ask : ExcC K C) (kt : PySem.W.kitOne K (.ref C) (.ref CL) = some b) (ex : PySem.W.exmOne K (.ref C) (.ref C) = some true) :
    FnG P w K mg base (k + 1) f fd ps (tryF n ps.length (.call xn g ys) ys B (.lst [.str xs, .bl b])) := by
  have key : ∀ l, C8.fnBody st = l → chkTry ns (C8.fnScope st) fx cx ln en xs ys l = true → FnG P w K mg base (k + 1) f fd ps (tryF n ps.length (.call xn g ys) ys B (.lst [.str xs, .bl b])) := by
    intro l hl h
    unfold chkTry at h
    split at h
    · obtain ⟨h1, h2⟩ := band h
      obtain ⟨h3, h4⟩ := band h1
      obtain ⟨a1, h5⟩ := band h3
      obtain ⟨a2, a3⟩ := band h5
      obtain ⟨h6, h7⟩ := band h4
      obtain ⟨a4, a5⟩ := band h6
      obtain ⟨a6, a7⟩ := band h7
      obtain ⟨a8, a9⟩ := band h2
      rw [of_decide_eq_true a1, of_decide_eq_true a2, of_decide_eq_true a3, of_decide_eq_true a4, of_decide_eq_true a5, of_decide_eq_true a6, of_decide_eq_true a7] at hl
      exact fn_T0 hn hni F sc hl a8 a9 ts hf hm cg cr hC hL mi ask kt ex
    · cases h
  exact key _ rfl chk
end
end N
set_option autoImplicit false
set_option Elab.async false
set_option linter.all false
set_option maxRecDepth 100000
set_option maxHeartbeats 4000000
namespace N
open PySem L2 PySem.Spec PyProof.Rows
/-! ### for the head: exceptions, other names of a def -/
section
variable {K : PySem.W.Frag} {t c : Value}
theorem plain_cls {C : Addr} (h : (PySem.W.clsIn K C).isSome = true) : plainAt K C = true := by
  unfold PySem.W.clsIn at h
  unfold plainAt
  cases e : K.lookup C with
  | none => rw [e] at h; cases h
  | some o =>
    rw [e] at h
    obtain ⟨oc, od, da, sl⟩ := o
    cases da with
    | cls cd => rfl
    | _ => cases h
theorem kitCls_less {b : Bool} (h : PySem.W.kitCls K t c = some b) : PySem.W.kitCls (lessK K) t c = some b := by
  cases c with
  | ref C =>
    unfold PySem.W.kitCls at h ⊢
    dsimp only at h ⊢
    split at h
    · rename_i q
      obtain ⟨q1, q2⟩ := band q
      have e2 := eq_of_beq q2
      obtain ⟨cd, e1⟩ := Option.isSome_iff_exists.mp q1
      rw [if_pos (by rw [clsIn_less e1, typeIn_less (plain_cls q1) e2]; rfl)]
      exact subIn_less h
    · cases h
  | type T =>
    unfold PySem.W.kitCls at h ⊢
    dsimp only at h ⊢
    split at h
    · rename_i q
      rw [if_pos q]
      exact subIn_less h
    · cases h
  | _ => cases h
theorem kitOne_less {b : Bool} (h : PySem.W.kitOne K t c = some b) : PySem.W.kitOne (lessK K) t c = some b := by
  unfold PySem.W.kitOne at h ⊢
  split at h
  · rename_i q; rw [if_pos q]; exact h
  · rename_i q; rw [if_neg q]; exact kitCls_less h
theorem exmOne_less {b : Bool} (h : PySem.W.exmOne K t c = some b) : PySem.W.exmOne (lessK K) t c = some b := by
  unfold PySem.W.exmOne at h ⊢
  split at h
  · rename_i q
    have e := eq_of_beq q
    rw [if_pos (by rw [subIn_less e]; rfl)]
    exact kitCls_less h
  · cases h
end
/-- what the head asks of the exception x, whose base is y -/
def excB (P : Program) (K : PySem.W.Frag) (x y : Str) : Bool := (bareB P K (He.ga K x) (He.ma K (He.ga K x) "__init__") && askB K (He.ga K x)) && (decide (PySem.W.kitOne K (.ref (He.ga K x)) (.ref (He.ga K y)) = some true) && decide (PySem.W.exmOne K (.ref (He.ga K x)) (.ref (He.ga K x)) = some true))
/-- two names of one def -/
def aliB (K : PySem.W.Frag) (x y : Str) : Bool := decide (He.ga K x = He.ga K y)
section
variable {P : Program} {w : World} {K : PySem.W.Frag} {mg : Str → Option Value} {base : Heap} {nm x : Str} {st : Stmt} {f C fI : Addr} {fd : FuncData} {ns ps : List Str} {k j n : Nat} {body : List St} {B : List D → Bool}
theorem raiF_len {n k : Nat} {body : List St} (ds : List D) (h : raiF n k body ds = true) : ds.length = k := of_decide_eq_true (Bool.and_eq_true_iff.mp h).1
theorem def_R {cn : Str} (D : FunS K nm st f fd) (hn : n = ns.length) (sc : C8.scC ns ps (C8.fnScope st) = true) (chk : chkSs ns (C8.fnScope st) (fun _ => true) body (C8.fnBody st) = true) (chr : chkRs cn (C8.fnScope st) (fun _ => true) body (C8.fnBody st) = true)
    (hf : ∀ x ∈ BN, mg x = none) (hm : ∀ m ∈ needsSs body, MetP P w (lessK K) mg base k m) (U : BareC P (lessK K) C fI) (hsp : mg "super" = none) (hC : mg cn = some (.ref C)) (dbg : (cn == ("__debug__" : Str)) = false) (gl : (C8.fnScope st).names.lookup cn = some .globalImplicit) :
    FnR P w (lessK K) mg base (k + 2) f fd ps C (raiF n ps.length body) :=
  fn_R hn (fun_less D) (C8.fnScope_by sc) chk chr hf hm U hsp hC dbg fun X e _ _ => by show X.env.scope.names.lookup cn = _; rw [e]; exact gl
theorem FnR.mono (G : FnR P w K mg base k f fd ps C B) (h : k ≤ j) : FnR P w K mg base j f fd ps C B := ⟨fun gd r => G.go gd (r.mono h)⟩
theorem calR_G (D : FunS K nm st f fd) (G : FnR P w (lessK K) mg base k f fd ps C (raiF n ps.length body)) (hm : mg x = some (.ref f)) (b : BindP nm st ps) : CalR P w (lessK K) mg base k x C (raiF n ps.length body) :=
  ⟨f, fd, ps, G, hm, keep_less D, raiF_len, bindP_of D b⟩
theorem calT_G {xe : Ex} {ys : List Ex} {o : O} (D : FunS K nm st f fd) (G : FnG P w (lessK K) mg base k f fd ps (tryF n ps.length xe ys B o)) (hm : mg x = some (.ref f)) (b : BindP nm st ps) : CalG P w (lessK K) mg base k x (tryF n ps.length xe ys B o) :=
  ⟨f, fd, ps, G, hm, keep_less D, tryF_len, bindP_of D b⟩
theorem CalR.mono (c : CalR P w K mg base k x C B) (h : k ≤ j) : CalR P w K mg base j x C B := by
  obtain ⟨f, fd, ps, G, r⟩ := c.ex
  exact ⟨f, fd, ps, G.mono h, r⟩
end
/-! the head's hook: the statics too, a Bool of our own -/
def obsY (n : Nat) (fa : List He.Fa) (fn : List He.DefD) (ex : PySem.W.Frag → Bool) (g : Addr → Option Obj) : He.AlD × Bool := (He.obsD fa fn (He.frT g (cStatics :: He.asD g n)), ex (He.frT g (cStatics :: He.asD g n)))
def hookY (n : Nat) (fa : List He.Fa) (fn : List He.DefD) (ex : PySem.W.Frag → Bool) : PySem.W.Hook where
  α := He.AlD × Bool
  obs := fun s => obsY n fa fn ex s.heap.get?
  val := fun _ => (He.valD fn, true)
  says := fun _ h => ∃ K : PySem.W.Frag, K.In h ∧ He.SaysD fa fn K ∧ ex K = true
  of := fun _ _ e => ⟨_, He.frT_in, congrArg Prod.fst e, congrArg Prod.snd e⟩
  keeps := fun _ _ _ ⟨K, hK, c⟩ k => ⟨K, PySem.W.Frag.In.keeps hK k, c⟩
theorem obsY_eq {n : Nat} {fa : List He.Fa} {fn : List He.DefD} {ex : PySem.W.Frag → Bool} {g : Addr → Option Obj} {s : Shared} (h : ∀ a, g a = s.heap.get? a) : obsY n fa fn ex g = (hookY n fa fn ex).obs s := by
  have e : g = s.heap.get? := funext h
  rw [e] <;> rfl
end N
set_option autoImplicit false
set_option linter.all false
set_option maxRecDepth 100000
namespace N
namespace K93
def fuel : Nat := 1000000000000
/-- focus_begin: 0 sizes, 1 m -/
def b_focus_begin : List St := [.asg (.tgN 1) (.blt .len [.var 0]),
    .ret (.tup [.bin .mul (.tup [.int 0]) (.var 1), .rngT [.bin .add (.var 1) (.int 1)], .bin .mul (.tup [.int 1]) (.var 1)])]
abbrev f_focus_begin : Fn := runF 2 1 b_focus_begin
/-- pointers_by: 0 waits, 1 m, 2 found, 3 j, 4 begins, 5 k -/
def b_pointers_by : List St := [.asg (.tgN 1) (.blt .len [.var 0]),
    .asg (.tgN 2) (.rngL [.bin .add (.var 1) (.int 1)]),
    .forS (.tgN 3) (.rng [.bin .sub (.var 1) (.int 1), .neg (.int 1), .neg (.int 1)]) [.ife (.idx (.var 0) (.var 3)) [.asg (.tgN 4) (.or (.cmp (.var 3) [.eq] [.int 0]) [.not (.idx (.var 0) (.bin .sub (.var 3) (.int 1)))]),
    .asg (.tgN 5) (.var 3),
    .wh fuel (.and (.var 4) [.cmp (.var 5) [.lt] [.var 1], .idx (.var 0) (.var 5)]) [.asg (.tgN 5) (.bin .add (.var 5) (.int 1))],
    .asg (.tgS (.var 2) (.var 3)) (.ife (.var 4) (.var 5) (.var 3))] []],
    .ret (.blt .tuple [.var 2])]
abbrev f_pointers_by : Fn := runF 6 1 b_pointers_by
/-- focus_at: 0 sizes, 1 place, 2 size, 3 row, 4 ways, 5 waits, 6 digit -/
def b_focus_at : List St := [.asg (.tgT [.tgN 3, .tgN 4, .tgN 5]) (.tup [.lst [], .lst [], .lst []]),
    .forS (.tgN 2) (.wk (.var 0)) [.asg (.tgT [.tgN 6, .tgN 1]) (.tup [.bin .mod (.var 1) (.var 2), .bin .fdiv (.var 1) (.var 2)]),
    .ex (.meth .append (.var 5) [.cmp (.var 6) [.eq] [.bin .sub (.var 2) (.int 1)]]),
    .ex (.meth .append (.var 3) [.ife (.cmp (.bin .mod (.var 1) (.int 2)) [.eq] [.int 0]) (.var 6) (.bin .sub (.bin .sub (.var 2) (.int 1)) (.var 6))]),
    .ex (.meth .append (.var 4) [.ife (.cmp (.bin .mod (.bin .add (.var 1) (.blt .int [.idx (.var 5) (.neg (.int 1))])) (.int 2)) [.eq] [.int 0]) (.int 1) (.neg (.int 1))])],
    .ret (.tup [.blt .tuple [.var 3], .call [112, 111, 105, 110, 116, 101, 114, 115, 95, 98, 121] f_pointers_by [.var 5], .blt .tuple [.var 4]])]
abbrev f_focus_at : Fn := runF 7 2 b_focus_at
/-- products_of: 0 sizes, 1 found, 2 size -/
def b_products_of : List St := [.asg (.tgN 1) (.lst [.int 1]),
    .forS (.tgN 2) (.wk (.var 0)) [.ex (.meth .append (.var 1) [.bin .mul (.idx (.var 1) (.neg (.int 1))) (.var 2)])],
    .ret (.var 1)]
abbrev f_products_of : Fn := runF 3 1 b_products_of
/-- row_place: 0 sizes, 1 row, 2 j, 3 found, 4 products, 5 above, 6 digit -/
def b_row_place : List St := [.asg (.tgT [.tgN 3, .tgN 4]) (.tup [.int 0, .call [112, 114, 111, 100, 117, 99, 116, 115, 95, 111, 102] f_products_of [.var 0]]),
    .forS (.tgN 2) (.rng [.bin .sub (.blt .len [.var 0]) (.int 1), .neg (.int 1), .neg (.int 1)]) [.asg (.tgN 5) (.bin .fdiv (.var 3) (.idx (.var 4) (.bin .add (.var 2) (.int 1)))),
    .asg (.tgN 6) (.ife (.cmp (.bin .mod (.var 5) (.int 2)) [.eq] [.int 0]) (.idx (.var 1) (.var 2)) (.bin .sub (.bin .sub (.idx (.var 0) (.var 2)) (.int 1)) (.idx (.var 1) (.var 2)))),
    .asg (.tgN 3) (.bin .add (.var 3) (.bin .mul (.var 6) (.idx (.var 4) (.var 2))))],
    .ret (.var 3)]
abbrev f_row_place : Fn := runF 7 2 b_row_place
/-- are_within: 0 value, 1 many, 2 least, 3 most, 4 own -/
def b_are_within : List St := [.ife (.or (.not (.blt (.isi .tuple) [.var 0])) [.cmp (.blt .len [.var 0]) [.ne] [.var 1]]) [.ret (.bl false)] [],
    .ret (.blt .all [.comp (.and (.blt (.isi .int) [.var 4]) [.not (.blt (.isi .bool) [.var 4]), .cmp (.var 2) [.le, .le] [.var 4, .var 3]]) (.tgN 4) (.wk (.var 0)) (.bl true) [4]])]
abbrev f_are_within : Fn := runF 5 4 b_are_within
/-- focus_error: 0 sizes, 1 value, 2 m, 3 due, 4 i, 5 own, 6 size -/
def b_focus_error : List St := [.asg (.tgN 2) (.blt .len [.var 0]),
    .ife (.or (.not (.blt (.isi .tuple) [.var 1])) [.cmp (.blt .len [.var 1]) [.ne] [.int 3], .not (.call [97, 114, 101, 95, 119, 105, 116, 104, 105, 110] f_are_within [.idx (.var 1) (.int 0), .var 2, .int 0, .int 99])]) [.ret (.str [102, 111, 114, 109])] [],
    .ife (.or (.not (.blt .all [.comp (.cmp (.var 5) [.lt] [.var 6]) (.tgT [.tgN 5, .tgN 6]) (.zip (.idx (.var 1) (.int 0)) (.var 0)) (.bl true) [5, 6]])) [.not (.call [97, 114, 101, 95, 119, 105, 116, 104, 105, 110] f_are_within [.idx (.var 1) (.int 1), .bin .add (.var 2) (.int 1), .int 0, .var 2])]) [.ret (.str [102, 111, 114, 109])] [],
    .ife (.or (.not (.call [97, 114, 101, 95, 119, 105, 116, 104, 105, 110] f_are_within [.idx (.var 1) (.int 2), .var 2, .neg (.int 1), .int 1])) [.cmp (.int 0) [.inn] [.idx (.var 1) (.int 2)]]) [.ret (.str [102, 111, 114, 109])] [],
    .asg (.tgN 3) (.call [102, 111, 99, 117, 115, 95, 97, 116] f_focus_at [.var 0, .call [114, 111, 119, 95, 112, 108, 97, 99, 101] f_row_place [.var 0, .idx (.var 1) (.int 0)]]),
    .forS (.tgN 4) (.rng [.int 3]) [.ife (.cmp (.idx (.var 1) (.var 4)) [.ne] [.idx (.var 3) (.var 4)]) [.ret (.tup [.str [115, 116, 97, 116, 101], .var 4])] []],
    .ret (.non)]
abbrev f_focus_error : Fn := runF 7 2 b_focus_error
/-- is_integer: 0 value -/
def b_is_integer : List St := [.ret (.and (.blt (.isi .int) [.var 0]) [.not (.blt (.isi .bool) [.var 0])])]
abbrev f_is_integer : Fn := runF 1 1 b_is_integer
/-- digit_row_error: 0 sizes, 1 value, 2 i, 3 item -/
def b_digit_row_error : List St := [.ife (.or (.not (.blt (.isi .tuple) [.var 1])) [.cmp (.blt .len [.var 1]) [.ne] [.blt .len [.var 0]]]) [.ret (.str [102, 111, 114, 109])] [],
    .forS (.tgT [.tgN 2, .tgN 3]) (.enum (.var 1)) [.ife (.or (.not (.call [105, 115, 95, 105, 110, 116, 101, 103, 101, 114] f_is_integer [.var 3])) [.not (.cmp (.int 0) [.le, .lt] [.var 3, .idx (.var 0) (.var 2)])]) [.ret (.tup [.str [100, 105, 103, 105, 116], .var 2])] []],
    .ret (.non)]
abbrev f_digit_row_error : Fn := runF 4 2 b_digit_row_error
/-- digit_rows_number: 0 sizes, 1 found, 2 size -/
def b_digit_rows_number : List St := [.asg (.tgN 1) (.int 1),
    .forS (.tgN 2) (.wk (.var 0)) [.asg (.tgN 1) (.bin .mul (.var 1) (.var 2))],
    .ret (.var 1)]
abbrev f_digit_rows_number : Fn := runF 3 1 b_digit_rows_number
/-- rests_of: 0 sizes, 1 found, 2 size -/
def b_rests_of : List St := [.asg (.tgN 1) (.lst [.int 1]),
    .forS (.tgN 2) (.wk (.slc (.var 0) (.abs) (.int 0) (.neg (.int 1)))) [.ex (.meth .append (.var 1) [.bin .mul (.idx (.var 1) (.neg (.int 1))) (.var 2)])],
    .ret (.slc (.var 1) (.abs) (.abs) (.neg (.int 1)))]
abbrev f_rests_of : Fn := runF 3 1 b_rests_of
/-- reflected_row: 0 sizes, 1 place, 2 found, 3 rest, 4 digit -/
def b_reflected_row : List St := [.asg (.tgN 2) (.lst []),
    .forS (.tgN 3) (.wk (.call [114, 101, 115, 116, 115, 95, 111, 102] f_rests_of [.var 0])) [.asg (.tgT [.tgN 4, .tgN 1]) (.tup [.bin .fdiv (.var 1) (.var 3), .bin .mod (.var 1) (.var 3)]),
    .ife (.cmp (.bin .mod (.var 4) (.int 2)) [.eq] [.int 1]) [.asg (.tgN 1) (.bin .sub (.bin .sub (.var 3) (.int 1)) (.var 1))] [],
    .ex (.meth .append (.var 2) [.var 4])],
    .ret (.blt .tuple [.var 2])]
abbrev f_reflected_row : Fn := runF 5 2 b_reflected_row
/-- reflected_place: 0 sizes, 1 row, 2 place, 3 rest, 4 digit -/
def b_reflected_place : List St := [.asg (.tgN 2) (.int 0),
    .forS (.tgT [.tgN 3, .tgN 4]) (.zip (.slc (.call [114, 101, 115, 116, 115, 95, 111, 102] f_rests_of [.var 0]) (.abs) (.abs) (.neg (.int 1))) (.slc (.var 1) (.abs) (.abs) (.neg (.int 1)))) [.ife (.cmp (.bin .mod (.var 4) (.int 2)) [.eq] [.int 1]) [.asg (.tgN 2) (.bin .sub (.bin .sub (.var 3) (.int 1)) (.var 2))] [],
    .asg (.tgN 2) (.bin .add (.var 2) (.bin .mul (.var 4) (.var 3)))],
    .ret (.var 2)]
abbrev f_reflected_place : Fn := runF 5 2 b_reflected_place
/-- reflected_step: 0 sizes, 1 row, 2 place, 3 further, 4 i, 5 one, 6 other -/
def b_reflected_step : List St := [.asg (.tgN 2) (.bin .add (.call [114, 101, 102, 108, 101, 99, 116, 101, 100, 95, 112, 108, 97, 99, 101] f_reflected_place [.var 0, .var 1]) (.int 1)),
    .ife (.cmp (.var 2) [.eq] [.call [100, 105, 103, 105, 116, 95, 114, 111, 119, 115, 95, 110, 117, 109, 98, 101, 114] f_digit_rows_number [.var 0]]) [.ret (.non)] [],
    .asg (.tgN 3) (.call [114, 101, 102, 108, 101, 99, 116, 101, 100, 95, 114, 111, 119] f_reflected_row [.var 0, .var 2]),
    .ret (.idx (.comp (.tup [.var 4, .bin .sub (.var 6) (.var 5)]) (.tgT [.tgN 4, .tgT [.tgN 5, .tgN 6]]) (.enumz (.var 1) (.var 3)) (.cmp (.var 5) [.ne] [.var 6]) [4, 5, 6]) (.int 0))]
abbrev f_reflected_step : Fn := runF 7 2 b_reflected_step
/-- _law_pot: 0 script, 1 cell, 2 cells, 3 mixed -/
def b__law_pot : List St := [.asg (.tgT [.tgN 2, .tgN 3]) (.tup [.comp (.bin .add (.bin .mul (.int 2) (.blt .abs [.var 1])) (.blt .int [.cmp (.var 1) [.lt] [.int 0]])) (.tgN 1) (.wk (.slc (.var 0) (.abs) (.int 63) (.abs))) (.bl true) [1], .bin .add (.int 19593) (.bin .mul (.int 75) (.blt .len [.var 0]))]),
    .forS (.tgN 1) (.wk (.var 2)) [.asg (.tgN 3) (.bin .mod (.bin .add (.bin .add (.bin .mul (.var 3) (.int 69069)) (.var 1)) (.int 11)) (.int 4294967291))],
    .ret (.lst [.comp (.var 1) (.tgN 1) (.wk (.var 2)) (.cmp (.var 1) [.gt] [.bin .pow (.int 10) (.int 12)]) [1], .var 3, .int 0])]
abbrev f__law_pot : Fn := runF 4 1 b__law_pot
/-- _law_of: 0 pot, 1 many, 2 number, 3 cell -/
def b__law_of : List St := [.ife (.cmp (.var 1) [.lt] [.int 2]) [.ret (.int 0)] [],
    .ife (.cmp (.idx (.var 0) (.int 0)) [.ne] [.lst []]) [.asg (.tgN 3) (.meth .pop (.idx (.var 0) (.int 0)) []),
    .ife (.cmp (.var 3) [.ge] [.var 1]) [.ex (.meth .append (.idx (.var 0) (.int 0)) [.bin .fdiv (.var 3) (.var 1)])] [],
    .ret (.bin .mod (.var 3) (.var 1))] [],
    .asg (.tgS (.var 0) (.int 2)) (.bin .add (.idx (.var 0) (.int 2)) (.int 1)),
    .asg (.tgN 2) (.bin .mod (.bin .add (.idx (.var 0) (.int 1)) (.bin .mul (.idx (.var 0) (.int 2)) (.int 2654435761))) (.int 4294967279)),
    .asg (.tgN 2) (.bin .mod (.bin .add (.bin .add (.bin .mul (.var 2) (.var 2)) (.bin .mul (.idx (.var 0) (.int 2)) (.int 40503))) (.int 5)) (.int 4294967231)),
    .asg (.tgN 2) (.bin .mod (.bin .add (.bin .mul (.var 2) (.var 2)) (.idx (.var 0) (.int 1))) (.int 4294967291)),
    .ret (.bin .mod (.bin .fdiv (.var 2) (.int 256)) (.var 1))]
abbrev f__law_of : Fn := runF 4 2 b__law_of
/-- _law_one: 0 pot, 1 items -/
def b__law_one : List St := [.ret (.idx (.var 1) (.call [95, 108, 97, 119, 95, 111, 102] f__law_of [.var 0, .blt .len [.var 1]]))]
abbrev f__law_one : Fn := runF 2 2 b__law_one
/-- _law_unlike: 0 one, 1 other, 2 i -/
def b__law_unlike : List St := [.ret (.comp (.var 2) (.tgN 2) (.rng [.blt .len [.var 0]]) (.cmp (.idx (.var 0) (.var 2)) [.ne] [.idx (.var 1) (.var 2)]) [2])]
abbrev f__law_unlike : Fn := runF 3 2 b__law_unlike
/-- _law_reflected: 0 sizes, 1 place, 2 size, 3 whole, 4 found, 5 digit -/
def b__law_reflected : List St := [.asg (.tgT [.tgN 3, .tgN 4]) (.tup [.int 1, .lst []]),
    .forS (.tgN 2) (.wk (.var 0)) [.asg (.tgN 3) (.bin .mul (.var 3) (.var 2))],
    .forS (.tgN 2) (.wk (.var 0)) [.asg (.tgN 3) (.bin .fdiv (.var 3) (.var 2)),
    .asg (.tgT [.tgN 5, .tgN 1]) (.tup [.bin .fdiv (.var 1) (.var 3), .bin .mod (.blt .int [.var 1]) (.var 3)]),
    .ex (.meth .append (.var 4) [.var 5]),
    .ife (.cmp (.bin .mod (.var 5) (.int 2)) [.eq] [.int 1]) [.asg (.tgN 1) (.bin .sub (.bin .sub (.var 3) (.int 1)) (.var 1))] []],
    .ret (.blt .tuple [.var 4])]
abbrev f__law_reflected : Fn := runF 6 2 b__law_reflected
/-- focus_next: 0 sizes, 1 state, 2 j, 3 row, 4 pointers, 5 ways, 6 own -/
def b_focus_next : List St := [.asg (.tgT [.tgN 3, .tgN 4, .tgN 5]) (.comp (.blt .list [.var 6]) (.tgN 6) (.wk (.var 1)) (.bl true) [6]),
    .asg (.tgN 2) (.idx (.var 4) (.int 0)),
    .asg (.tgS (.var 4) (.int 0)) (.int 0),
    .ife (.cmp (.var 2) [.eq] [.blt .len [.var 0]]) [.never] [],
    .asg (.tgS (.var 3) (.var 2)) (.bin .add (.idx (.var 3) (.var 2)) (.idx (.var 5) (.var 2))),
    .ife (.cmp (.idx (.var 3) (.var 2)) [.inn] [.tup [.int 0, .bin .sub (.idx (.var 0) (.var 2)) (.int 1)]]) [.asg (.tgS (.var 5) (.var 2)) (.neg (.idx (.var 5) (.var 2))),
    .asg (.tgT [.tgS (.var 4) (.var 2), .tgS (.var 4) (.bin .add (.var 2) (.int 1))]) (.tup [.idx (.var 4) (.bin .add (.var 2) (.int 1)), .bin .add (.var 2) (.int 1)])] [],
    .ret (.tup [.blt .tuple [.var 3], .blt .tuple [.var 4], .blt .tuple [.var 5]])]
abbrev f_focus_next : Fn := runF 7 2 b_focus_next
/-- _law_told: 0 sizes, 1 state, 2 error -/
abbrev f__law_told : Fn := tryF 3 2 (.call [102, 111, 99, 117, 115, 95, 110, 101, 120, 116] f_focus_next [.var 0, .var 1]) [.var 0, .var 1] (raiF 7 2 b_focus_next) (.lst [.str [117, 110, 102, 105, 116], .bl true])
/-- turned_row: 0 sizes, 1 place, 2 found, 3 ahead, 4 size, 5 rest, 6 often -/
def b_turned_row : List St := [.asg (.tgT [.tgN 2, .tgN 3]) (.tup [.lst [], .int 0]),
    .forS (.tgT [.tgN 4, .tgN 5]) (.zip (.var 0) (.call [114, 101, 115, 116, 115, 95, 111, 102] f_rests_of [.var 0])) [.asg (.tgN 6) (.bin .fdiv (.var 1) (.var 5)),
    .ex (.meth .append (.var 2) [.bin .mod (.bin .sub (.var 6) (.var 3)) (.var 4)]),
    .asg (.tgN 3) (.var 6)],
    .ret (.blt .tuple [.var 2])]
abbrev f_turned_row : Fn := runF 7 2 b_turned_row
/-- turned_row_place: 0 sizes, 1 row, 2 ahead, 3 size, 4 digit -/
def b_turned_row_place : List St := [.asg (.tgN 2) (.int 0),
    .forS (.tgT [.tgN 3, .tgN 4]) (.zip (.var 0) (.var 1)) [.asg (.tgN 2) (.bin .add (.bin .mul (.var 2) (.var 3)) (.bin .mod (.bin .sub (.bin .add (.var 4) (.var 2)) (.bin .mul (.var 2) (.var 3))) (.var 3)))],
    .ret (.var 2)]
abbrev f_turned_row_place : Fn := runF 5 2 b_turned_row_place
/-- does_turned_close: 0 sizes, 1 last, 2 others, 3 digit, 4 size -/
def b_does_turned_close : List St := [.asg (.tgN 1) (.call [116, 117, 114, 110, 101, 100, 95, 114, 111, 119] f_turned_row [.var 0, .bin .sub (.call [100, 105, 103, 105, 116, 95, 114, 111, 119, 115, 95, 110, 117, 109, 98, 101, 114] f_digit_rows_number [.var 0]) (.int 1)]),
    .asg (.tgN 2) (.comp (.tup [.var 3, .var 4]) (.tgT [.tgN 3, .tgN 4]) (.zip (.var 1) (.var 0)) (.cmp (.var 3) [.gt] [.int 0]) [3, 4]),
    .ret (.and (.cmp (.blt .len [.var 2]) [.eq] [.int 1]) [.cmp (.idx (.idx (.var 2) (.int 0)) (.int 0)) [.eq] [.bin .sub (.idx (.idx (.var 2) (.int 0)) (.int 1)) (.int 1)]])]
abbrev f_does_turned_close : Fn := runF 5 1 b_does_turned_close
/-- _law_turned: 0 sizes, 1 place, 2 digits, 3 size, 4 found, 5 ahead, 6 digit -/
def b__law_turned : List St := [.asg (.tgT [.tgN 4, .tgN 5]) (.tup [.lst [], .int 0]),
    .asg (.tgN 2) (.lst []),
    .forS (.tgN 3) (.wk (.slc (.var 0) (.abs) (.abs) (.neg (.int 1)))) [.ex (.meth .append (.var 2) [.bin .mod (.blt .int [.var 1]) (.var 3)]),
    .asg (.tgN 1) (.bin .fdiv (.var 1) (.var 3))],
    .forS (.tgT [.tgN 3, .tgN 6]) (.zip (.var 0) (.slc (.var 2) (.abs) (.abs) (.neg (.int 1)))) [.ex (.meth .append (.var 4) [.bin .mod (.blt .int [.bin .sub (.var 6) (.var 5)]) (.var 3)]),
    .asg (.tgN 5) (.bin .add (.bin .mul (.var 5) (.var 3)) (.var 6))],
    .ret (.blt .tuple [.var 4])]
abbrev f__law_turned : Fn := runF 7 2 b__law_turned
/-- _law_is_turned_right: 0 sizes, 1 place, 2 whole, 3 size, 4 told, 5 named, 6 row, 7 product, 8 closes, 9 after, 10 bad -/
def b__law_is_turned_right : List St := [.asg (.tgT [.tgN 6, .tgN 7, .tgN 8]) (.tup [.call [95, 108, 97, 119, 95, 116, 117, 114, 110, 101, 100] f__law_turned [.var 0, .var 1], .idx (.var 0) (.int 0), .bl true]),
    .forS (.tgN 3) (.wk (.slc (.var 0) (.int 1) (.abs) (.abs))) [.asg (.tgT [.tgN 8, .tgN 7]) (.tup [.and (.var 8) [.cmp (.bin .mod (.var 7) (.var 3)) [.eq] [.int 0]], .bin .mul (.var 7) (.var 3)])],
    .asg (.tgN 4) (.lst [.call [116, 117, 114, 110, 101, 100, 95, 114, 111, 119] f_turned_row [.var 0, .var 1], .call [116, 117, 114, 110, 101, 100, 95, 114, 111, 119, 95, 112, 108, 97, 99, 101] f_turned_row_place [.var 0, .var 6], .call [100, 111, 101, 115, 95, 116, 117, 114, 110, 101, 100, 95, 99, 108, 111, 115, 101] f_does_turned_close [.var 0]]),
    .asg (.tgN 5) (.lst [.callk [116, 117, 114, 110, 101, 100, 95, 114, 111, 119] [[112, 108, 97, 99, 101], [115, 105, 122, 101, 115]] f_turned_row [1, 0] [.var 1, .var 0], .callk [116, 117, 114, 110, 101, 100, 95, 114, 111, 119, 95, 112, 108, 97, 99, 101] [[114, 111, 119], [115, 105, 122, 101, 115]] f_turned_row_place [1, 0] [.var 6, .var 0]]),
    .ife (.cmp (.blt .repr [.lst [.var 4, .bin .add (.var 5) (.lst [.callk [100, 111, 101, 115, 95, 116, 117, 114, 110, 101, 100, 95, 99, 108, 111, 115, 101] [[115, 105, 122, 101, 115]] f_does_turned_close [0] [.var 0]])]]) [.ne] [.blt .repr [.bin .mul (.lst [.lst [.var 6, .var 1, .var 8]]) (.int 2)]]) [.ret (.bl false)] [],
    .ife (.cmp (.bin .add (.var 1) (.int 1)) [.lt] [.var 2]) [.asg (.tgN 9) (.call [95, 108, 97, 119, 95, 116, 117, 114, 110, 101, 100] f__law_turned [.var 0, .bin .add (.var 1) (.int 1)]),
    .asg (.tgN 10) (.call [95, 108, 97, 119, 95, 117, 110, 108, 105, 107, 101] f__law_unlike [.var 6, .var 9]),
    .ife (.or (.cmp (.blt .len [.var 10]) [.ne] [.int 1]) [.cmp (.bin .mod (.blt .int [.bin .sub (.idx (.var 9) (.idx (.var 10) (.int 0))) (.idx (.var 6) (.idx (.var 10) (.int 0)))]) (.idx (.var 0) (.idx (.var 10) (.int 0)))) [.ne] [.int 1]]) [.ret (.bl false)] []] [],
    .ret (.bl true)]
abbrev f__law_is_turned_right : Fn := runF 11 3 b__law_is_turned_right
/-- law: 0 script, 1 pot, 2 turn, 3 sizes, 4 size, 5 place, 6 row, 7 told, 8 named, 9 back, 10 state, 11 m, 12 top, 13 kept, 14 whole, 15 after, 16 bad, 17 due, 18 later, 19 ways, 20 i, 21 own -/
def b_law : List St := [.asg (.tgN 1) (.call [95, 108, 97, 119, 95, 112, 111, 116] f__law_pot [.var 0]),
    .forS (.tgN 2) (.rng [.int 2]) [.asg (.tgT [.tgN 11, .tgN 12]) (.tup [.bin .add (.int 1) (.call [95, 108, 97, 119, 95, 111, 102] f__law_of [.var 1, .call [95, 108, 97, 119, 95, 111, 110, 101] f__law_one [.var 1, .lst [.int 3, .int 8, .int 40]]]), .call [95, 108, 97, 119, 95, 111, 110, 101] f__law_one [.var 1, .lst [.int 1, .int 3, .int 9]]]),
    .asg (.tgN 3) (.blt .tuple [.comp (.bin .add (.int 2) (.call [95, 108, 97, 119, 95, 111, 102] f__law_of [.var 1, .var 12])) (.tgN 20) (.rng [.var 11]) (.bl true) [20]]),
    .asg (.tgT [.tgN 13, .tgN 14]) (.tup [.blt .repr [.var 3], .int 1]),
    .forS (.tgN 4) (.wk (.var 3)) [.asg (.tgN 14) (.bin .mul (.var 14) (.var 4))],
    .asg (.tgN 5) (.call [95, 108, 97, 119, 95, 111, 110, 101] f__law_one [.var 1, .lst [.int 0, .bin .sub (.var 14) (.int 1), .call [95, 108, 97, 119, 95, 111, 102] f__law_of [.var 1, .var 14], .call [95, 108, 97, 119, 95, 111, 102] f__law_of [.var 1, .var 14], .call [95, 108, 97, 119, 95, 111, 102] f__law_of [.var 1, .var 14]]]),
    .asg (.tgN 6) (.call [95, 108, 97, 119, 95, 114, 101, 102, 108, 101, 99, 116, 101, 100] f__law_reflected [.var 3, .var 5]),
    .asg (.tgN 7) (.lst [.call [114, 101, 102, 108, 101, 99, 116, 101, 100, 95, 114, 111, 119] f_reflected_row [.var 3, .var 5], .call [114, 101, 102, 108, 101, 99, 116, 101, 100, 95, 112, 108, 97, 99, 101] f_reflected_place [.var 3, .var 6], .call [100, 105, 103, 105, 116, 95, 114, 111, 119, 115, 95, 110, 117, 109, 98, 101, 114] f_digit_rows_number [.var 3]]),
    .asg (.tgN 8) (.lst [.callk [114, 101, 102, 108, 101, 99, 116, 101, 100, 95, 114, 111, 119] [[112, 108, 97, 99, 101], [115, 105, 122, 101, 115]] f_reflected_row [1, 0] [.var 5, .var 3], .callk [114, 101, 102, 108, 101, 99, 116, 101, 100, 95, 112, 108, 97, 99, 101] [[114, 111, 119], [115, 105, 122, 101, 115]] f_reflected_place [1, 0] [.var 6, .var 3]]),
    .ife (.cmp (.blt .repr [.lst [.var 7, .bin .add (.var 8) (.lst [.callk [100, 105, 103, 105, 116, 95, 114, 111, 119, 115, 95, 110, 117, 109, 98, 101, 114] [[115, 105, 122, 101, 115]] f_digit_rows_number [0] [.var 3]])]]) [.ne] [.blt .repr [.bin .mul (.lst [.lst [.var 6, .var 5, .var 14]]) (.int 2)]]) [.ret (.bl false)] [],
    .ife (.cmp (.call [100, 105, 103, 105, 116, 95, 114, 111, 119, 95, 101, 114, 114, 111, 114] f_digit_row_error [.var 3, .var 6]) [.isnt] [.non]) [.ret (.bl false)] [],
    .asg (.tgN 9) (.slc (.var 3) (.abs) (.abs) (.neg (.int 1))),
    .asg (.tgN 10) (.call [102, 111, 99, 117, 115, 95, 97, 116] f_focus_at [.var 9, .var 5]),
    .ife (.or (.cmp (.idx (.var 10) (.int 0)) [.ne] [.slc (.var 6) (.abs) (.abs) (.neg (.int 1))]) [.cmp (.blt .repr [.callk [102, 111, 99, 117, 115, 95, 97, 116] [[112, 108, 97, 99, 101], [115, 105, 122, 101, 115]] f_focus_at [1, 0] [.var 5, .var 9]]) [.ne] [.blt .repr [.var 10]]]) [.ret (.bl false)] [],
    .ife (.or (.cmp (.call [102, 111, 99, 117, 115, 95, 101, 114, 114, 111, 114] f_focus_error [.var 9, .var 10]) [.isnt] [.non]) [.cmp (.callk [102, 111, 99, 117, 115, 95, 101, 114, 114, 111, 114] [[118, 97, 108, 117, 101], [115, 105, 122, 101, 115]] f_focus_error [1, 0] [.var 10, .var 9]) [.isnt] [.non]]) [.ret (.bl false)] [],
    .ife (.cmp (.bin .add (.var 5) (.int 1)) [.lt] [.var 14]) [.asg (.tgN 15) (.call [95, 108, 97, 119, 95, 114, 101, 102, 108, 101, 99, 116, 101, 100] f__law_reflected [.var 3, .bin .add (.var 5) (.int 1)]),
    .asg (.tgN 16) (.call [95, 108, 97, 119, 95, 117, 110, 108, 105, 107, 101] f__law_unlike [.var 6, .var 15]),
    .asg (.tgN 17) (.tup [.idx (.var 16) (.int 0), .bin .sub (.idx (.var 15) (.idx (.var 16) (.int 0))) (.idx (.var 6) (.idx (.var 16) (.int 0)))]),
    .ife (.cmp (.blt .len [.var 16]) [.ne] [.int 1]) [.ret (.bl false)] [],
    .ife (.cmp (.blt .repr [.lst [.call [114, 101, 102, 108, 101, 99, 116, 101, 100, 95, 115, 116, 101, 112] f_reflected_step [.var 3, .var 6], .callk [114, 101, 102, 108, 101, 99, 116, 101, 100, 95, 115, 116, 101, 112] [[114, 111, 119], [115, 105, 122, 101, 115]] f_reflected_step [1, 0] [.var 6, .var 3]]]) [.ne] [.blt .repr [.lst [.var 17, .var 17]]]) [.ret (.bl false)] [],
    .asg (.tgN 18) (.call [95, 108, 97, 119, 95, 116, 111, 108, 100] f__law_told [.var 9, .var 10]),
    .ife (.or (.cmp (.var 18) [.ne] [.call [102, 111, 99, 117, 115, 95, 97, 116] f_focus_at [.var 9, .bin .add (.var 5) (.int 1)]]) [.cmp (.idx (.var 18) (.int 0)) [.ne] [.slc (.var 15) (.abs) (.abs) (.neg (.int 1))]]) [.ret (.bl false)] [],
    .ife (.cmp (.call [102, 111, 99, 117, 115, 95, 101, 114, 114, 111, 114] f_focus_error [.var 9, .tup [.idx (.var 10) (.int 0), .idx (.var 18) (.int 1), .idx (.var 10) (.int 2)]]) [.ne] [.ife (.cmp (.idx (.var 18) (.int 1)) [.ne] [.idx (.var 10) (.int 1)]) (.tup [.str [115, 116, 97, 116, 101], .int 1]) (.non)]) [.ret (.bl false)] [],
    .asg (.tgN 19) (.blt .tuple [.comp (.neg (.var 21)) (.tgN 21) (.wk (.idx (.var 10) (.int 2))) (.bl true) [21]]),
    .ife (.cmp (.call [102, 111, 99, 117, 115, 95, 101, 114, 114, 111, 114] f_focus_error [.var 9, .tup [.idx (.var 10) (.int 0), .idx (.var 10) (.int 1), .var 19]]) [.ne] [.tup [.str [115, 116, 97, 116, 101], .int 2]]) [.ret (.bl false)] [],
    .ife (.cmp (.call [102, 111, 99, 117, 115, 95, 101, 114, 114, 111, 114] f_focus_error [.var 9, .blt .list [.var 10]]) [.ne] [.str [102, 111, 114, 109]]) [.ret (.bl false)] []] [.ife (.or (.cmp (.call [95, 108, 97, 119, 95, 116, 111, 108, 100] f__law_told [.var 9, .var 10]) [.ne] [.lst [.str [117, 110, 102, 105, 116], .bl true]]) [.cmp (.call [114, 101, 102, 108, 101, 99, 116, 101, 100, 95, 115, 116, 101, 112] f_reflected_step [.var 3, .var 6]) [.isnt] [.non]]) [.ret (.bl false)] []],
    .ife (.and (.cmp (.var 5) [.eq] [.int 0]) [.cmp (.call [102, 111, 99, 117, 115, 95, 98, 101, 103, 105, 110] f_focus_begin [.var 9]) [.ne] [.var 10]]) [.ret (.bl false)] [],
    .ife (.not (.call [95, 108, 97, 119, 95, 105, 115, 95, 116, 117, 114, 110, 101, 100, 95, 114, 105, 103, 104, 116] f__law_is_turned_right [.var 3, .var 5, .var 14])) [.ret (.bl false)] [],
    .ife (.cmp (.blt .repr [.var 3]) [.ne] [.var 13]) [.ret (.bl false)] []],
    .ret (.bl true)]
abbrev f_law : Fn := runF 22 1 b_law
end K93
end N
set_option autoImplicit false
set_option linter.all false
set_option maxRecDepth 100000
namespace N.Mix
/-! ### mixed digits: the sizes all 2 or more -/
theorem dv {s a y : Int} (h0 : 0 ≤ y) (h1 : y < s) : (s * a + y) / s = a := by
  rw [Int.add_comm, Int.add_mul_ediv_left _ _ (by omega), Int.ediv_eq_zero_of_lt h0 h1]; omega
theorem md {s a y : Int} (h0 : 0 ≤ y) (h1 : y < s) : (s * a + y) % s = y := by
  rw [Int.add_comm, Int.add_mul_emod_self_left, Int.emod_eq_of_lt h0 h1]
theorem dm (p s : Int) : s * (p / s) + p % s = p := Int.mul_ediv_add_emod p s
theorem m0 (p : Int) {s : Int} (h : 0 < s) : 0 ≤ p % s := Int.emod_nonneg _ (by omega)
theorem m1 (p : Int) {s : Int} (h : 0 < s) : p % s < s := Int.emod_lt_of_pos _ h
/-- the next number: the digit is not the last one -/
theorem nx_a {p s : Int} (h : 2 ≤ s) (h1 : p % s ≠ s - 1) : (p + 1) / s = p / s ∧ (p + 1) % s = p % s + 1 := by
  have e : p + 1 = s * (p / s) + (p % s + 1) := by have := dm p s; omega
  have a := m0 p (show 0 < s by omega)
  have b := m1 p (show 0 < s by omega)
  refine ⟨?_, ?_⟩
  · rw [e]; exact dv (by omega) (by omega)
  · rw [e]
    have := md (s := s) (a := p / s) (y := p % s + 1) (by omega) (by omega)
    exact this
theorem nx_b {p s : Int} (h : 2 ≤ s) (h1 : p % s = s - 1) : (p + 1) / s = p / s + 1 ∧ (p + 1) % s = 0 := by
  have e : p + 1 = s * (p / s + 1) + 0 := by have := dm p s; rw [Int.mul_add]; omega
  refine ⟨?_, ?_⟩
  · rw [e]; exact dv (by omega) (by omega)
  · rw [e]; exact md (by omega) (by omega)
def Sz (ss : List Int) : Prop := ∀ s ∈ ss, 2 ≤ s
theorem Sz.tail {s : Int} {ss : List Int} (h : Sz (s :: ss)) : Sz ss := fun x hx => h x (by simp [hx])
theorem Sz.head {s : Int} {ss : List Int} (h : Sz (s :: ss)) : 2 ≤ s := h s (by simp)
theorem Sz.rev {ss : List Int} (h : Sz ss) : Sz ss.reverse := fun x hx => h x (by simpa using hx)
def prod : List Int → Int
  | [] => 1
  | s :: ss => s * prod ss
theorem prod_pos : ∀ {ss : List Int}, Sz ss → 1 ≤ prod ss
  | [], _ => by simp [prod]
  | s :: ss, h => by
    have a := h.head
    have b := prod_pos h.tail
    have := Int.mul_le_mul a b (by omega) (by omega)
    simp only [prod]
    omega
theorem prod_snoc (s : Int) : ∀ ss : List Int, prod (ss ++ [s]) = prod ss * s
  | [] => by simp [prod]
  | x :: ss => by rw [List.cons_append]; simp only [prod]; rw [prod_snoc s ss, Int.mul_assoc]
theorem prod_rev : ∀ ss : List Int, prod ss.reverse = prod ss
  | [] => rfl
  | s :: ss => by rw [List.reverse_cons, prod_snoc, prod_rev ss, Int.mul_comm]; rfl
/-- the reflected row at a place, the greatest digit first -/
def refl : List Int → Int → List Int
  | [], _ => []
  | _ :: ss, p => p / prod ss :: refl ss (if p / prod ss % 2 = 1 then prod ss - 1 - p % prod ss else p % prod ss)
/-- the place of a reflected row -/
def back : List Int → List Int → Int
  | _ :: ss, d :: ds => (if d % 2 = 1 then prod ss - 1 - back ss ds else back ss ds) + d * prod ss
  | _, _ => 0
/-- .. the least digit first -/
def gf : List Int → Int → List Int
  | [], _ => []
  | s :: ss, p => (if p / s % 2 = 0 then p % s else s - 1 - p % s) :: gf ss (p / s)
theorem refl_len : ∀ (ss : List Int) (p : Int), (refl ss p).length = ss.length
  | [], _ => rfl
  | s :: ss, p => by simp [refl, refl_len ss]
theorem gf_len : ∀ (ss : List Int) (p : Int), (gf ss p).length = ss.length
  | [], _ => rfl
  | s :: ss, p => by simp [gf, gf_len ss]
theorem par (x : Int) : x % 2 = 0 ∨ x % 2 = 1 := by omega
theorem split {p R s : Int} (hR : 1 ≤ R) (hs : 2 ≤ s) : p / s / R = p / (R * s) ∧ p / s % R = p % (R * s) / s ∧ p % s = p % (R * s) % s ∧ p / s = R * (p / (R * s)) + p % (R * s) / s ∧ 0 ≤ p % (R * s) / s ∧ p % (R * s) / s < R := by
  have hRs : 0 < R * s := Int.mul_pos (by omega) (by omega)
  have q0 := m0 p hRs
  have q1 := m1 p hRs
  have e := dm p (R * s)
  have e2 := dm (p % (R * s)) s
  have y0 := m0 (p % (R * s)) (show 0 < s by omega)
  have y1 := m1 (p % (R * s)) (show 0 < s by omega)
  generalize hd : p / (R * s) = d at *
  generalize hq : p % (R * s) = q at *
  have x0 : 0 ≤ q / s := Int.ediv_nonneg q0 (by omega)
  have x1 : q / s < R := Int.ediv_lt_of_lt_mul (by omega) q1
  have e3 : p = s * (R * d + q / s) + q % s := by
    rw [Int.mul_add, ← Int.mul_assoc, Int.mul_comm s R]; omega
  have a1 : p / s = R * d + q / s := by rw [e3]; exact dv y0 y1
  have a2 : p % s = q % s := by
    have := md (s := s) (a := R * d + q / s) y0 y1
    rw [← e3] at this; exact this
  refine ⟨?_, ?_, a2, a1, x0, x1⟩
  · rw [a1]; exact dv x0 x1
  · rw [a1]; exact md x0 x1
theorem refl_snoc {s : Int} (hs : 2 ≤ s) : ∀ (ss : List Int) (p : Int), Sz ss → 0 ≤ p → p < prod ss * s → refl (ss ++ [s]) p = refl ss (p / s) ++ [if p / s % 2 = 0 then p % s else s - 1 - p % s]
  | [], p, _, h0, h1 => by
    have e : prod ([] : List Int) = 1 := rfl
    rw [e, Int.one_mul] at h1
    simp only [List.nil_append, refl, e, Int.ediv_one, Int.ediv_eq_zero_of_lt h0 h1, Int.emod_eq_of_lt h0 h1]
    simp
  | x :: ss, p, h, h0, h1 => by
    have hR := prod_pos h.tail
    rw [List.cons_append]
    simp only [refl]
    rw [prod_snoc]
    obtain ⟨a1, a2, a3, a4, a5, a6⟩ := split (p := p) hR hs
    rw [a1, a2, a3]
    have hRs : 0 < prod ss * s := Int.mul_pos (by omega) (by omega)
    have q0 := m0 p hRs
    have q1 := m1 p hRs
    have e2 := dm (p % (prod ss * s)) s
    have y0 := m0 (p % (prod ss * s)) (show 0 < s by omega)
    have y1 := m1 (p % (prod ss * s)) (show 0 < s by omega)
    rw [List.cons_append]
    congr 1
    generalize hd : p / (prod ss * s) = d at *
    generalize hq : p % (prod ss * s) = q at *
    generalize hx : q / s = u at *
    generalize hy : q % s = y at *
    have ih := fun v => refl_snoc hs ss v h.tail
    generalize prod ss = R at *
    by_cases c : d % 2 = 1
    · rw [if_pos c, if_pos c]
      have e4 : R * s - 1 - q = s * (R - 1 - u) + (s - 1 - y) := by
        rw [Int.mul_sub, Int.mul_sub, Int.mul_comm s R]; omega
      have b1 : (R * s - 1 - q) / s = R - 1 - u := by rw [e4]; exact dv (by omega) (by omega)
      have b2 : (R * s - 1 - q) % s = s - 1 - y := by
        have := md (s := s) (a := R - 1 - u) (y := s - 1 - y) (by omega) (by omega)
        rw [← e4] at this; exact this
      rw [ih _ (by omega) (by omega), b1, b2]
      obtain ⟨k, hk⟩ : ∃ k, d = 2 * k + 1 := ⟨d / 2, by omega⟩
      have e5 : R * d = 2 * (R * k) + R := by rw [hk, Int.mul_add, Int.mul_one, ← Int.mul_assoc, Int.mul_comm R 2, Int.mul_assoc]
      congr 2
      rw [a4, e5]
      by_cases c2 : (R - 1 - u) % 2 = 0
      · rw [if_pos c2, if_neg (by omega)]
      · rw [if_neg c2, if_pos (by omega)]; omega
    · rw [if_neg c, if_neg c]
      rw [ih _ (by omega) (by omega), hx, hy]
      obtain ⟨k, hk⟩ : ∃ k, d = 2 * k := ⟨d / 2, by omega⟩
      have e5 : R * d = 2 * (R * k) := by rw [hk, ← Int.mul_assoc, Int.mul_comm R 2, Int.mul_assoc]
      congr 2
      rw [a4, e5]
      by_cases c2 : u % 2 = 0
      · rw [if_pos c2, if_pos (by omega)]
      · rw [if_neg c2, if_neg (by omega)]
theorem pq {ss : List Int} {s p : Int} (hs : 2 ≤ s) (h0 : 0 ≤ p) (h1 : p < prod ss * s) : 0 ≤ p / s ∧ p / s < prod ss := ⟨Int.ediv_nonneg h0 (by omega), Int.ediv_lt_of_lt_mul (by omega) h1⟩
/-- the one row is the other's from its end -/
theorem refl_rev : ∀ (ss : List Int) (p : Int), Sz ss → 0 ≤ p → p < prod ss → refl ss.reverse p = (gf ss p).reverse
  | [], _, _, _, _ => rfl
  | s :: ss, p, h, h0, h1 => by
    have h1 : p < prod ss * s := by rw [Int.mul_comm]; exact h1
    obtain ⟨a, b⟩ := pq h.head h0 h1
    rw [List.reverse_cons, refl_snoc h.head ss.reverse p h.tail.rev h0 (by rw [prod_rev]; exact h1), refl_rev ss _ h.tail a b]
    simp only [gf, List.reverse_cons]
/-- there and back -/
theorem back_refl : ∀ (ss : List Int) (p : Int), Sz ss → 0 ≤ p → p < prod ss → back ss (refl ss p) = p
  | [], p, _, h0, h1 => by
    have : prod ([] : List Int) = 1 := rfl
    simp only [back]; omega
  | s :: ss, p, h, h0, h1 => by
    have hR := prod_pos h.tail
    have q0 := m0 p (show 0 < prod ss by omega)
    have q1 := m1 p (show 0 < prod ss by omega)
    have e := dm p (prod ss)
    simp only [refl, back]
    rw [Int.mul_comm (p / prod ss)]
    by_cases c : p / prod ss % 2 = 1
    · rw [if_pos c, if_pos c, back_refl ss _ h.tail (by omega) (by omega)]; omega
    · rw [if_neg c, if_neg c, back_refl ss _ h.tail (by omega) (by omega)]; omega
theorem refl_bd : ∀ (ss : List Int) (p : Int), Sz ss → 0 ≤ p → p < prod ss → ∀ i, i < ss.length → 0 ≤ (refl ss p).getD i 0 ∧ (refl ss p).getD i 0 < ss.getD i 0
  | [], p, _, _, _, i, hi => absurd hi (by simp)
  | s :: ss, p, h, h0, h1, i, hi => by
    have hR := prod_pos h.tail
    have q0 := m0 p (show 0 < prod ss by omega)
    have q1 := m1 p (show 0 < prod ss by omega)
    cases i with
    | zero =>
      simp only [refl, List.getD_cons_zero]
      exact ⟨Int.ediv_nonneg h0 (by omega), Int.ediv_lt_of_lt_mul (by omega) h1⟩
    | succ i =>
      simp only [refl, List.getD_cons_succ]
      refine refl_bd ss _ h.tail ?_ ?_ i (by simpa using hi)
      · split <;> omega
      · split <;> omega
end N.Mix
set_option autoImplicit false
set_option linter.all false
set_option maxRecDepth 100000
namespace N.Mix
/-! ### the next place; least digit first -/
def wt : List Int → Int → List Bool
  | [], _ => []
  | s :: ss, p => decide (p % s = s - 1) :: wt ss (p / s)
def wy : List Int → Int → List Int
  | [], _ => []
  | s :: ss, p => (if (p / s + (if p % s = s - 1 then 1 else 0)) % 2 = 0 then 1 else -1) :: wy ss (p / s)
/-- turned digits -/
def tf : List Int → Int → List Int
  | [], _ => []
  | s :: ss, p => (p - p / s) % s :: tf ss (p / s)
/-- how many digits are at their last -/
def run : List Bool → Nat
  | true :: w => run w + 1
  | _ => 0
theorem wt_len : ∀ (ss : List Int) (p : Int), (wt ss p).length = ss.length
  | [], _ => rfl
  | s :: ss, p => by simp [wt, wt_len ss]
theorem wy_len : ∀ (ss : List Int) (p : Int), (wy ss p).length = ss.length
  | [], _ => rfl
  | s :: ss, p => by simp [wy, wy_len ss]
theorem tf_len : ∀ (ss : List Int) (p : Int), (tf ss p).length = ss.length
  | [], _ => rfl
  | s :: ss, p => by simp [tf, tf_len ss]
theorem wy_val : ∀ (ss : List Int) (p : Int), ∀ x ∈ wy ss p, x = 1 ∨ x = -1
  | s :: ss, p, x, h => by
    simp only [wy, List.mem_cons] at h
    rcases h with rfl | h
    · by_cases c : (p / s + (if p % s = s - 1 then 1 else 0)) % 2 = 0
      · rw [if_pos c]; exact .inl rfl
      · rw [if_neg c]; exact .inr rfl
    · exact wy_val ss _ x h
theorem run_le : ∀ w : List Bool, run w ≤ w.length
  | [] => Nat.le_refl _
  | true :: w => by simp [run, run_le w]
  | false :: w => by simp [run]
/-- the next step, all of it: the digit turned, its way, the waits -/
structure Step (ss : List Int) (p : Int) (j : Nat) : Prop where
  lt : j < ss.length
  row : gf ss (p + 1) = (gf ss p).set j ((gf ss p).getD j 0 + (wy ss p).getD j 0)
  trow : tf ss (p + 1) = (tf ss p).set j (((tf ss p).getD j 0 + 1) % ss.getD j 0)
  ways : wy ss (p + 1) = if (wt ss (p + 1)).getD j false then (wy ss p).set j (-(wy ss p).getD j 0) else wy ss p
  wts : ∃ (b : Bool) (r : List Bool), wt ss p = List.replicate j true ++ false :: r ∧ wt ss (p + 1) = List.replicate j false ++ b :: r
  edge : (wt ss (p + 1)).getD j false = decide ((gf ss (p + 1)).getD j 0 = 0 ∨ (gf ss (p + 1)).getD j 0 = ss.getD j 0 - 1)
theorem step_of : ∀ (ss : List Int) (p : Int), Sz ss → 0 ≤ p → p + 1 < prod ss → Step ss p (run (wt ss p))
  | [], p, _, h0, h1 => by
    have : prod ([] : List Int) = 1 := rfl
    omega
  | s :: ss, p, h, h0, h1 => by
    have hs := h.head
    have a0 := m0 p (show 0 < s by omega)
    have a1 := m1 p (show 0 < s by omega)
    by_cases c : p % s = s - 1
    · obtain ⟨d1, d2⟩ := nx_b hs c
      have h1' : p / s + 1 < prod ss := by
        have h1 : p + 1 < prod ss * s := by rw [Int.mul_comm]; exact h1
        have e := dm p s
        have e2 : p + 1 = s * (p / s + 1) := by rw [Int.mul_add]; omega
        rw [e2, Int.mul_comm] at h1
        exact Int.lt_of_mul_lt_mul_right h1 (by omega)
      have ih := step_of ss (p / s) h.tail (Int.ediv_nonneg h0 (by omega)) h1'
      have ew : run (wt (s :: ss) p) = run (wt ss (p / s)) + 1 := by simp [wt, c, run]
      rw [ew]
      refine ⟨by simpa using ih.lt, ?_, ?_, ?_, ?_, ?_⟩
      · simp only [gf, d1, d2, c, List.set_cons_succ, List.getD_cons_succ, wy]
        rw [ih.row]
        congr 1
        rcases par (p / s) with q | q
        · rw [if_neg (by omega), if_pos q]; omega
        · rw [if_pos (by omega), if_neg (by omega)]; omega
      · simp only [tf, d1, List.set_cons_succ, List.getD_cons_succ]
        rw [ih.trow]
        congr 2
        omega
      · simp only [wy, wt, d1, d2, List.getD_cons_succ, List.set_cons_succ]
        rw [ih.ways]
        have e1 : ¬ ((0 : Int) = s - 1) := by omega
        rw [if_neg e1, if_pos c, Int.add_zero]
        by_cases c3 : (wt ss (p / s + 1)).getD (run (wt ss (p / s))) false = true
        · rw [if_pos c3, if_pos c3]
        · rw [if_neg c3, if_neg c3]
      · obtain ⟨b, r, e1, e2⟩ := ih.wts
        generalize run (wt ss (p / s)) = j at e1 e2
        refine ⟨b, r, ?_, ?_⟩
        · simp only [wt, e1, List.replicate_succ, List.cons_append]
          rw [decide_eq_true c]
        · have e3 : ¬ ((0 : Int) = s - 1) := by omega
          simp only [wt, d1, d2, e2, List.replicate_succ, List.cons_append]
          rw [decide_eq_false e3]
      · simp only [wt, gf, d1, List.getD_cons_succ]
        exact ih.edge
    · obtain ⟨d1, d2⟩ := nx_a hs c
      have ew : run (wt (s :: ss) p) = 0 := by simp [wt, c, run]
      rw [ew]
      refine ⟨by simp, ?_, ?_, ?_, ?_, ?_⟩
      · simp only [gf, d1, d2, wy, List.set_cons_zero, List.getD_cons_zero]
        rw [if_neg c]
        rcases par (p / s) with q | q
        · rw [if_pos q, if_pos q, if_pos (by omega)]
        · rw [if_neg (by omega), if_neg (by omega), if_neg (by omega)]
          congr 1
          omega
      · simp only [tf, d1, List.set_cons_zero, List.getD_cons_zero]
        congr 1
        rw [Int.emod_add_emod]
        congr 1
        omega
      · simp only [wy, wt, d1, d2, List.getD_cons_zero, List.set_cons_zero]
        rw [if_neg c]
        by_cases c2 : p % s + 1 = s - 1
        · simp only [c2, decide_true, if_true]
          congr 1
          rcases par (p / s) with q | q
          · rw [if_neg (by omega), if_pos (by omega)]
          · rw [if_pos (by omega), if_neg (by omega)]; rfl
        · simp [c2]
      · exact ⟨decide (p % s + 1 = s - 1), wt ss (p / s), by simp [wt, c], by simp [wt, d1, d2]⟩
      · simp only [wt, gf, d1, d2, List.getD_cons_zero]
        rcases par (p / s) with q | q
        · rw [if_pos q]
          by_cases c2 : p % s + 1 = s - 1
          · simp [c2]
          · simp [c2]; omega
        · rw [if_neg (by omega)]
          by_cases c2 : p % s + 1 = s - 1
          · simp [c2]
          · simp [c2]; omega
/-- behind the last place nothing is to be turned -/
theorem run_last : ∀ (ss : List Int), Sz ss → run (wt ss (prod ss - 1)) = ss.length
  | [], _ => rfl
  | s :: ss, h => by
    have hs := h.head
    have e : prod (s :: ss) - 1 = s * (prod ss - 1) + (s - 1) := by simp only [prod]; rw [Int.mul_sub]; omega
    have b1 : (prod (s :: ss) - 1) / s = prod ss - 1 := by rw [e]; exact dv (by omega) (by omega)
    have b2 : (prod (s :: ss) - 1) % s = s - 1 := by
      rw [e]
      exact md (s := s) (by omega) (by omega)
    simp only [wt, b1, b2, decide_true, run, List.length_cons]
    rw [run_last ss h.tail]
end N.Mix
set_option autoImplicit false
set_option linter.all false
set_option maxRecDepth 100000
namespace N.Mix
/-! ### the pointers -/
def ptr (w : List Bool) (i : Nat) : Nat := if w.getD i false = true ∧ (i = 0 ∨ w.getD (i - 1) false = false) then i + run (w.drop i) else i
def ptrs (w : List Bool) : List Int := (List.range (w.length + 1)).map fun i => (ptr w i : Int)
theorem ptrs_len (w : List Bool) : (ptrs w).length = w.length + 1 := by simp [ptrs]
section
variable {x b : Bool} {r : List Bool} {i j : Nat}
theorem rep_lt (h : i < j) : (List.replicate j x ++ b :: r).getD i false = x := by
  rw [List.getD_eq_getElem?_getD, List.getElem?_append_left (by simpa using h), List.getElem?_replicate, if_pos h]; rfl
theorem rep_eq : (List.replicate j x ++ b :: r).getD j false = b := by
  rw [List.getD_eq_getElem?_getD, List.getElem?_append_right (by simp)]; simp
theorem rep_gt (h : j < i) : (List.replicate j x ++ b :: r).getD i false = r.getD (i - j - 1) false := by
  rw [List.getD_eq_getElem?_getD, List.getElem?_append_right (by simp; omega), List.length_replicate]
  obtain ⟨k, hk⟩ : ∃ k, i - j = k + 1 := ⟨i - j - 1, by omega⟩
  rw [hk, List.getElem?_cons_succ, List.getD_eq_getElem?_getD]
  simp
theorem rep_drop (h : j < i) : (List.replicate j x ++ b :: r).drop i = r.drop (i - j - 1) := by
  obtain ⟨k, hk⟩ : ∃ k, i - j = k + 1 := ⟨i - j - 1, by omega⟩
  rw [List.drop_append, List.length_replicate, hk, List.drop_succ_cons, List.drop_eq_nil_of_le (by simp; omega)]
  simp
theorem run_rep : run (List.replicate j true ++ false :: r) = j := by
  induction j with
  | zero => rfl
  | succ j ih => simp [List.replicate_succ, run, ih]
theorem run_hd (h : r.getD 0 false = false) : run r = 0 := by
  cases r with
  | nil => rfl
  | cons a r => simp at h; subst h; rfl
end
theorem ptr_first (j : Nat) (r : List Bool) : ptr (List.replicate j true ++ false :: r) 0 = j := by
  unfold ptr
  by_cases h : j = 0
  · subst h; rw [if_neg]; simp
  · rw [if_pos ⟨rep_lt (by omega), .inl rfl⟩, List.drop_zero, run_rep]; omega
theorem ptr_own {w : List Bool} {i : Nat} (h : w.getD i false = false) : ptr w i = i := by
  unfold ptr
  rw [if_neg]
  intro z
  rw [h] at z
  exact absurd z.1 (by decide)
theorem ptr_in {w : List Bool} {i : Nat} (h : 0 < i) (h2 : w.getD (i - 1) false = true) : ptr w i = i := by
  unfold ptr
  rw [if_neg]
  intro z
  rcases z.2 with q | q
  · omega
  · rw [h2] at q; cases q
/-- behind a place that does not wait -/
theorem ptr_beg {x b : Bool} {j : Nat} {r : List Bool} (h : b = false) : ptr (List.replicate j x ++ b :: r) (j + 1) = j + 1 + run r := by
  subst h
  unfold ptr
  have e1 : (List.replicate j x ++ false :: r).getD (j + 1) false = r.getD 0 false := by
    rw [rep_gt (by omega)]; congr 1; omega
  have e2 : (List.replicate j x ++ false :: r).drop (j + 1) = r := by
    rw [rep_drop (by omega)]
    have : j + 1 - j - 1 = 0 := by omega
    rw [this, List.drop_zero]
  rw [e1, e2, show j + 1 - 1 = j by omega, rep_eq]
  by_cases c : r.getD 0 false = true
  · rw [if_pos ⟨c, .inr rfl⟩]
  · rw [if_neg fun z => c z.1, run_hd (by simpa using c)]
theorem ptr_far {x y b c : Bool} {i j : Nat} {r : List Bool} (h : j + 1 < i) : ptr (List.replicate j x ++ b :: r) i = ptr (List.replicate j y ++ c :: r) i := by
  unfold ptr
  rw [rep_gt (by omega), rep_gt (by omega), rep_gt (by omega), rep_gt (by omega), rep_drop (by omega), rep_drop (by omega)]
theorem ptrs_get {w : List Bool} {i : Nat} (h : i ≤ w.length) : (ptrs w)[i]? = some (ptr w i : Int) := by
  unfold ptrs
  rw [List.getElem?_map, List.getElem?_range (by omega)]; rfl
theorem ptrs_next (b : Bool) (j : Nat) (r : List Bool) : ptrs (List.replicate j false ++ b :: r) =
    if b = true then ((((ptrs (List.replicate j true ++ false :: r)).set 0 0).set j (((ptrs (List.replicate j true ++ false :: r)).set 0 0).getD (j + 1) 0)).set (j + 1) ((j : Int) + 1)) else (ptrs (List.replicate j true ++ false :: r)).set 0 0 := by
  have l1 : (List.replicate j false ++ b :: r).length = (List.replicate j true ++ false :: r).length := by simp
  have l0 : (List.replicate j true ++ false :: r).length = j + 1 + r.length := by simp [Nat.add_comm, Nat.add_left_comm]
  have key : ((ptrs (List.replicate j true ++ false :: r)).set 0 0).getD (j + 1) 0 = ((j + 1 + run r : Nat) : Int) := by
    rw [List.getD_eq_getElem?_getD, List.getElem?_set_ne (by omega), ptrs_get (by omega), ptr_beg rfl]; rfl
  rw [key]
  apply List.ext_getElem?
  intro i
  by_cases hi : i ≤ (List.replicate j true ++ false :: r).length
  · rw [ptrs_get (by omega)]
    -- the former pointers, the first one set to 0
    have old : ((ptrs (List.replicate j true ++ false :: r)).set 0 0)[i]? = some (if i ≤ j then (i : Int) else (ptr (List.replicate j true ++ false :: r) i : Int)) := by
      by_cases h0 : i = 0
      · subst h0
        rw [List.getElem?_set_self (by rw [ptrs_len]; omega), if_pos (by omega)]; rfl
      · rw [List.getElem?_set_ne (by omega), ptrs_get hi]
        by_cases h1 : i ≤ j
        · rw [if_pos h1]
          by_cases h2 : i = j
          · rw [h2, ptr_own rep_eq]
          · rw [ptr_in (by omega) (rep_lt (by omega))]
        · rw [if_neg h1]
    by_cases hb : b = true
    · rw [if_pos hb]
      subst hb
      by_cases h2 : i = j + 1
      · subst h2
        rw [List.getElem?_set_self (by simp [ptrs_len]), ptr_in (by omega) (by rw [show j + 1 - 1 = j by omega]; exact rep_eq)]
        rfl
      · rw [List.getElem?_set_ne (by omega)]
        by_cases h3 : i = j
        · subst h3
          rw [List.getElem?_set_self (by simp [ptrs_len]; omega)]
          congr 2
          unfold ptr
          have hz : i = 0 ∨ (List.replicate i false ++ true :: r).getD (i - 1) false = false := by
            by_cases h4 : i = 0
            · exact .inl h4
            · exact .inr (rep_lt (by omega))
          have hd : (List.replicate i false ++ true :: r).drop i = true :: r := by
            rw [List.drop_append, List.length_replicate, List.drop_eq_nil_of_le (by simp)]; simp
          rw [if_pos ⟨rep_eq, hz⟩, hd]
          simp only [run]
          omega
        · rw [List.getElem?_set_ne (by omega), old]
          by_cases h4 : i ≤ j
          · rw [if_pos h4, ptr_own (rep_lt (by omega))]
          · rw [if_neg h4, ptr_far (y := true) (c := false) (by omega)]
    · rw [if_neg hb, old]
      have hb : b = false := by simpa using hb
      subst hb
      by_cases h4 : i ≤ j
      · rw [if_pos h4]
        by_cases h5 : i = j
        · rw [h5, ptr_own rep_eq]
        · rw [ptr_own (rep_lt (by omega))]
      · rw [if_neg h4]
        by_cases h5 : i = j + 1
        · rw [h5, ptr_beg rfl, ptr_beg rfl]
        · rw [ptr_far (y := true) (c := false) (by omega)]
  · rw [List.getElem?_eq_none (by rw [ptrs_len]; omega)]
    symm
    apply List.getElem?_eq_none
    split
    · simp [ptrs_len]; omega
    · simp [ptrs_len]; omega
end N.Mix
set_option autoImplicit false
set_option linter.all false
set_option maxRecDepth 100000
namespace N.Mix
/-! ### a place from its row, least digit first -/
/-- the product of the first j sizes -/
def pre : List Int → Nat → Int
  | _, 0 => 1
  | [], _ + 1 => 1
  | s :: ss, j + 1 => s * pre ss j
theorem pre_pos : ∀ {ss : List Int} (j : Nat), Sz ss → 1 ≤ pre ss j
  | _, 0, _ => by simp [pre]
  | [], _ + 1, _ => by simp [pre]
  | s :: ss, j + 1, h => by
    have a := h.head
    have b := pre_pos j h.tail
    have := Int.mul_le_mul a b (by omega) (by omega)
    simp only [pre]; omega
theorem pre_all : ∀ (ss : List Int), pre ss ss.length = prod ss
  | [] => rfl
  | s :: ss => by simp only [List.length_cons, pre, prod, pre_all ss]
theorem pre_zero (ss : List Int) : pre ss 0 = 1 := by cases ss <;> rfl
theorem pre_succ : ∀ (ss : List Int) (j : Nat), j < ss.length → pre ss (j + 1) = pre ss j * ss.getD j 0
  | [], _, h => absurd h (by simp)
  | s :: ss, 0, _ => by simp [pre, pre_zero]
  | s :: ss, j + 1, h => by
    have := pre_succ ss j (by simpa using h)
    simp only [pre, List.getD_cons_succ] at this ⊢
    rw [this, Int.mul_assoc]
theorem pre_snoc (s : Int) : ∀ (ss : List Int) (j : Nat), j ≤ ss.length → pre (ss ++ [s]) j = pre ss j
  | ss, 0, _ => by rw [pre_zero, pre_zero]
  | [], j + 1, h => absurd h (by simp)
  | x :: ss, j + 1, h => by
    rw [List.cons_append]
    simp only [pre]
    rw [pre_snoc s ss j (by simpa using h)]
theorem gf_get : ∀ (ss : List Int) (p : Int) (j : Nat), Sz ss → j < ss.length → (gf ss p).getD j 0 = if p / pre ss (j + 1) % 2 = 0 then p / pre ss j % ss.getD j 0 else ss.getD j 0 - 1 - p / pre ss j % ss.getD j 0
  | [], _, _, _, h => absurd h (by simp)
  | s :: ss, p, 0, _, _ => by simp [gf, pre, pre_zero]
  | s :: ss, p, j + 1, hs, h => by
    have a := hs.head
    have := gf_get ss (p / s) j hs.tail (by simpa using h)
    simp only [gf, List.getD_cons_succ, this, pre]
    rw [Int.ediv_ediv_of_nonneg (by omega), Int.ediv_ediv_of_nonneg (by omega)]
theorem gf_bd : ∀ (ss : List Int) (p : Int), Sz ss → ∀ j, j < ss.length → 0 ≤ (gf ss p).getD j 0 ∧ (gf ss p).getD j 0 < ss.getD j 0
  | [], _, _, _, h => absurd h (by simp)
  | s :: ss, p, hs, 0, _ => by
    have a := hs.head
    have a0 := m0 p (show 0 < s by omega)
    have a1 := m1 p (show 0 < s by omega)
    simp only [gf, List.getD_cons_zero]
    split <;> omega
  | s :: ss, p, hs, j + 1, h => by
    simp only [gf, List.getD_cons_succ]
    exact gf_bd ss _ hs.tail j (by simpa using h)
/-- one turn of the walk from the greatest digit -/
theorem place_turn {ss : List Int} {p : Int} {j : Nat} (hs : Sz ss) (h : j < ss.length) :
    let f := p / pre ss (j + 1) * pre ss (j + 1)
    f + (if f / pre ss (j + 1) % 2 = 0 then (gf ss p).getD j 0 else ss.getD j 0 - 1 - (gf ss p).getD j 0) * pre ss j = p / pre ss j * pre ss j := by
  intro f
  have hp := pre_pos j hs
  have hp1 := pre_pos (j + 1) hs
  have h2 : 2 ≤ ss.getD j 0 := by
    rw [List.getD_eq_getElem?_getD, List.getElem?_eq_getElem h]
    exact hs _ (List.getElem_mem h)
  have e1 : f / pre ss (j + 1) = p / pre ss (j + 1) := by
    show p / pre ss (j + 1) * pre ss (j + 1) / pre ss (j + 1) = _
    exact Int.mul_ediv_cancel _ (by omega)
  rw [e1, gf_get ss p j hs h]
  have e2 : pre ss (j + 1) = pre ss j * ss.getD j 0 := pre_succ ss j h
  have e3 : p / pre ss (j + 1) = p / pre ss j / ss.getD j 0 := by rw [e2, Int.ediv_ediv_of_nonneg (by omega)]
  have e4 : f = p / pre ss j / ss.getD j 0 * (pre ss j * ss.getD j 0) := by show p / pre ss (j + 1) * pre ss (j + 1) = _; rw [e3, e2]
  have e5 := dm (p / pre ss j) (ss.getD j 0)
  have fin : f + p / pre ss j % ss.getD j 0 * pre ss j = p / pre ss j * pre ss j := by
    have : p / pre ss j * pre ss j = (ss.getD j 0 * (p / pre ss j / ss.getD j 0) + p / pre ss j % ss.getD j 0) * pre ss j := by rw [e5]
    rw [this, e4, Int.add_mul]
    congr 1
    rw [Int.mul_comm (pre ss j), ← Int.mul_assoc, Int.mul_comm (p / pre ss j / ss.getD j 0)]
  split
  · exact fin
  · have : ss.getD j 0 - 1 - (ss.getD j 0 - 1 - p / pre ss j % ss.getD j 0) = p / pre ss j % ss.getD j 0 := by omega
    rw [this]; exact fin
/-! ### turned rows -/
/-- the package's, greatest digit first -/
def trn : List Int → Int → Int → List Int
  | [], _, _ => []
  | s :: ss, p, a => (p / prod ss - a) % s :: trn ss p (p / prod ss)
/-- the digits, least first -/
def dgs : List Int → Int → List Int
  | [], _ => []
  | s :: ss, p => p % s :: dgs ss (p / s)
/-- the law's, greatest digit first -/
def lwt : List Int → List Int → Int → List Int
  | s :: ss, d :: ds, a => (d - a) % s :: lwt ss ds (a * s + d)
  | _, _, _ => []
def val : List Int → List Int → Int → Int
  | s :: ss, d :: ds, a => val ss ds (a * s + d)
  | _, _, a => a
/-- the place of a turned row -/
def tpl : List Int → List Int → Int → Int
  | s :: ss, d :: ds, a => tpl ss ds (a * s + (d + a - a * s) % s)
  | _, _, a => a
theorem dgs_len : ∀ (ss : List Int) (p : Int), (dgs ss p).length = ss.length
  | [], _ => rfl
  | s :: ss, p => by simp [dgs, dgs_len ss]
theorem trn_snoc {s : Int} (hs : 2 ≤ s) : ∀ (ss : List Int) (p a : Int), Sz ss → trn (ss ++ [s]) p a = trn ss (p / s) a ++ [(p - (if ss = [] then a else p / s)) % s]
  | [], p, a, _ => by
    have : prod ([] : List Int) = 1 := rfl
    simp [trn, this]
  | x :: ss, p, a, h => by
    have hR := prod_pos h.tail
    rw [List.cons_append]
    simp only [trn]
    rw [prod_snoc, Int.mul_comm (prod ss) s, ← Int.ediv_ediv_of_nonneg (x := p) (y := s) (z := prod ss) (by omega), trn_snoc hs ss p _ h.tail]
    rw [List.cons_append]
    congr 2
    by_cases c : ss = []
    · subst c
      have : prod ([] : List Int) = 1 := rfl
      simp [this]
    · simp [c]
theorem trn_rev : ∀ (ss : List Int) (p : Int), Sz ss → 0 ≤ p → p < prod ss → trn ss.reverse p 0 = (tf ss p).reverse
  | [], _, _, _, _ => rfl
  | s :: ss, p, h, h0, h1 => by
    have h1 : p < prod ss * s := by rw [Int.mul_comm]; exact h1
    obtain ⟨a, b⟩ := pq h.head h0 h1
    rw [List.reverse_cons, trn_snoc h.head ss.reverse p 0 h.tail.rev, trn_rev ss _ h.tail a b]
    simp only [tf, List.reverse_cons]
    congr 3
    by_cases c : ss = []
    · subst c
      have e : prod ([] : List Int) = 1 := rfl
      rw [e, Int.one_mul] at h1
      simp [Int.ediv_eq_zero_of_lt h0 h1]
    · rw [if_neg (by simpa using c)]
theorem val_snoc : ∀ (ss ds : List Int) (s d a : Int), ss.length = ds.length → val (ss ++ [s]) (ds ++ [d]) a = val ss ds a * s + d
  | [], [], _, _, _, _ => by simp [val]
  | x :: ss, y :: ds, s, d, a, h => by
    simp only [List.cons_append, val]
    exact val_snoc ss ds s d _ (by simpa using h)
  | [], _ :: _, _, _, _, h => by simp at h
  | _ :: _, [], _, _, _, h => by simp at h
theorem val_rev : ∀ (ss : List Int) (p : Int), Sz ss → 0 ≤ p → p < prod ss → val ss.reverse (dgs ss p).reverse 0 = p
  | [], p, _, h0, h1 => by
    have e : prod ([] : List Int) = 1 := rfl
    rw [e] at h1
    simp only [dgs, List.reverse_nil, val]; omega
  | s :: ss, p, h, h0, h1 => by
    have h1 : p < prod ss * s := by rw [Int.mul_comm]; exact h1
    obtain ⟨a, b⟩ := pq h.head h0 h1
    simp only [dgs, List.reverse_cons]
    rw [val_snoc _ _ _ _ _ (by simp [dgs_len]), val_rev ss _ h.tail a b, Int.mul_comm]
    exact dm p s
theorem lwt_snoc : ∀ (ss ds : List Int) (s d a : Int), ss.length = ds.length → lwt (ss ++ [s]) (ds ++ [d]) a = lwt ss ds a ++ [(d - val ss ds a) % s]
  | [], [], _, _, _, _ => by simp [lwt, val]
  | x :: ss, y :: ds, s, d, a, h => by
    simp only [List.cons_append, lwt, val]
    rw [lwt_snoc ss ds s d _ (by simpa using h)]
  | [], _ :: _, _, _, _, h => by simp at h
  | _ :: _, [], _, _, _, h => by simp at h
theorem lwt_rev : ∀ (ss : List Int) (p : Int), Sz ss → 0 ≤ p → p < prod ss → lwt ss.reverse (dgs ss p).reverse 0 = (tf ss p).reverse
  | [], _, _, _, _ => rfl
  | s :: ss, p, h, h0, h1 => by
    have h1 : p < prod ss * s := by rw [Int.mul_comm]; exact h1
    obtain ⟨a, b⟩ := pq h.head h0 h1
    simp only [dgs, tf, List.reverse_cons]
    rw [lwt_snoc _ _ _ _ _ (by simp [dgs_len]), lwt_rev ss _ h.tail a b, val_rev ss _ h.tail a b, Int.emod_sub_emod]
theorem tpl_snoc : ∀ (ss ds : List Int) (s d a : Int), ss.length = ds.length → tpl (ss ++ [s]) (ds ++ [d]) a = tpl ss ds a * s + (d + tpl ss ds a - tpl ss ds a * s) % s
  | [], [], _, _, _, _ => by simp [tpl]
  | x :: ss, y :: ds, s, d, a, h => by
    simp only [List.cons_append, tpl]
    exact tpl_snoc ss ds s d _ (by simpa using h)
  | [], _ :: _, _, _, _, h => by simp at h
  | _ :: _, [], _, _, _, h => by simp at h
theorem tpl_rev : ∀ (ss : List Int) (p : Int), Sz ss → 0 ≤ p → p < prod ss → tpl ss.reverse (tf ss p).reverse 0 = p
  | [], p, _, h0, h1 => by
    have e : prod ([] : List Int) = 1 := rfl
    rw [e] at h1
    simp only [tf, List.reverse_nil, tpl]; omega
  | s :: ss, p, h, h0, h1 => by
    have h1 : p < prod ss * s := by rw [Int.mul_comm]; exact h1
    obtain ⟨a, b⟩ := pq h.head h0 h1
    simp only [tf, List.reverse_cons]
    rw [tpl_snoc _ _ _ _ _ (by simp [tf_len]), tpl_rev ss _ h.tail a b]
    have e1 : (p - p / s) % s + p / s - p / s * s = (p - p / s) % s + (p / s - p / s * s) := by omega
    rw [e1, Int.emod_add_emod]
    have e2 : p - p / s + (p / s - p / s * s) = p % s := by have := dm p s; rw [Int.mul_comm] at this; omega
    rw [e2, Int.emod_emod_of_dvd _ (Int.dvd_refl s), Int.mul_comm]
    exact dm p s
/-! ### the last turned row -/
def lst : Int → List Int → List Int
  | _, [] => []
  | a, s :: ss => -a % s :: lst (a * s) ss
theorem lst_len : ∀ (ss : List Int) (a : Int), (lst a ss).length = ss.length
  | [], _ => rfl
  | s :: ss, a => by simp [lst, lst_len ss]
theorem trn_last : ∀ (ss : List Int) (a : Int), Sz ss → trn ss (a * prod ss - 1) (a - 1) = lst a ss
  | [], _, _ => rfl
  | s :: ss, a, h => by
    have hR := prod_pos h.tail
    have e : a * prod (s :: ss) - 1 = prod ss * (a * s - 1) + (prod ss - 1) := by
      simp only [prod]; rw [Int.mul_sub, ← Int.mul_assoc, Int.mul_comm (prod ss)]; omega
    have d1 : (a * prod (s :: ss) - 1) / prod ss = a * s - 1 := by rw [e]; exact dv (by omega) (by omega)
    simp only [trn, lst, d1]
    have e2 : a * prod (s :: ss) = a * s * prod ss := by simp only [prod]; rw [Int.mul_assoc]
    rw [e2, trn_last ss (a * s) h.tail]
    congr 1
    have e3 : a * s - 1 - (a - 1) = -a + a * s := by omega
    rw [e3, Int.add_mul_emod_self_right]
/-- do the products of the sizes ahead divide -/
def clo : Int → List Int → Bool
  | _, [] => true
  | a, s :: ss => decide (a % s = 0) && clo (a * s) ss
theorem neg_zero {a s : Int} (hs : 2 ≤ s) : (0 < -a % s) ↔ ¬ a % s = 0 := by
  have h0 := m0 (-a) (show 0 < s by omega)
  constructor
  · intro h q
    have : s ∣ a := Int.dvd_of_emod_eq_zero q
    have := Int.emod_eq_zero_of_dvd ((Int.dvd_neg).mpr this)
    omega
  · intro h
    have : ¬ -a % s = 0 := fun q => h (Int.emod_eq_zero_of_dvd ((Int.dvd_neg).mp (Int.dvd_of_emod_eq_zero q)))
    omega
/-- those of the last row that are above 0 -/
theorem others_nil : ∀ (ss : List Int) (a : Int), Sz ss → (((lst a ss).zip ss).filter (fun q => decide (0 < q.1)) = [] ↔ clo a ss = true)
  | [], _, _ => by simp [lst, clo]
  | s :: ss, a, h => by
    have ih := others_nil ss (a * s) h.tail
    have nz := neg_zero (a := a) h.head
    simp only [lst, clo, List.zip_cons_cons, List.filter_cons]
    by_cases c : a % s = 0
    · have : ¬ 0 < -a % s := fun q => nz.mp q c
      simp [this, c, ih]
    · have : 0 < -a % s := nz.mpr c
      simp [this, c]
end N.Mix
set_option autoImplicit false
set_option linter.all false
set_option maxRecDepth 100000
/-! what a run of the evaluator gives, told by what is wanted of it -/
namespace N
def Ret {α : Type} (r : Option (α × Sto)) (Q : α → Sto → Prop) : Prop := match r with
  | some (a, S) => Q a S
  | none => False
def Run (r : RS) (Q : Fl → Env → Sto → Prop) : Prop := match r with
  | some (f, e, S) => Q f e S
  | none => False
def RetI (r : RI) (Q : List D → List (Nat × O) → Sto → Prop) : Prop := match r with
  | some (xs, g, S) => Q xs g S
  | none => False
def Opt {α : Type} (r : Option α) (Q : α → Prop) : Prop := match r with
  | some a => Q a
  | none => False
section
variable {α β : Type} {S T : Sto} {e : Env} {d : D}
@[simp] theorem ret_some (a : α) (S : Sto) (Q : α → Sto → Prop) : Ret (some (a, S)) Q = Q a S := rfl
@[simp] theorem ret_none (Q : α → Sto → Prop) : Ret (none : Option (α × Sto)) Q = False := rfl
@[simp] theorem ret_if (c : Prop) [Decidable c] (r : Option (α × Sto)) (Q : α → Sto → Prop) : Ret (if c then r else none) Q = (c ∧ Ret r Q) := by
  by_cases h : c <;> simp [h, Ret]
@[simp] theorem run_some (f : Fl) (e : Env) (S : Sto) (Q : Fl → Env → Sto → Prop) : Run (some (f, e, S)) Q = Q f e S := rfl
@[simp] theorem run_none (Q : Fl → Env → Sto → Prop) : Run none Q = False := rfl
@[simp] theorem reti_some (xs : List D) (g : List (Nat × O)) (S : Sto) (Q : List D → List (Nat × O) → Sto → Prop) : RetI (some (xs, g, S)) Q = Q xs g S := rfl
@[simp] theorem reti_none (Q : List D → List (Nat × O) → Sto → Prop) : RetI none Q = False := rfl
@[simp] theorem opt_some (a : α) (Q : α → Prop) : Opt (some a) Q = Q a := rfl
@[simp] theorem opt_none (Q : α → Prop) : Opt (none : Option α) Q = False := rfl
@[simp] theorem opt_if (c : Prop) [Decidable c] (r : Option α) (Q : α → Prop) : Opt (if c then r else none) Q = (c ∧ Opt r Q) := by
  by_cases h : c <;> simp [h, Opt]
@[simp] theorem opt_map (f : α → β) (r : Option α) (Q : β → Prop) : Opt (r.map f) Q = Opt r fun a => Q (f a) := by cases r <;> rfl
@[simp] theorem opt_bind (f : α → Option β) (r : Option α) (Q : β → Prop) : Opt (r.bind f) Q = Opt r fun a => Opt (f a) Q := by cases r <;> rfl
theorem Ret.imp {r : Option (α × Sto)} {Q Q' : α → Sto → Prop} (h : Ret r Q) (i : ∀ a S, Q a S → Q' a S) : Ret r Q' := by
  unfold Ret at h ⊢; split
  · exact i _ _ h
  · exact h
theorem Run.imp {r : RS} {Q Q' : Fl → Env → Sto → Prop} (h : Run r Q) (i : ∀ f e S, Q f e S → Q' f e S) : Run r Q' := by
  unfold Run at h ⊢; split
  · exact i _ _ _ h
  · exact h
theorem Ret.get {r : Option (α × Sto)} {Q : α → Sto → Prop} (h : Ret r Q) : ∃ a S, r = some (a, S) ∧ Q a S := by
  unfold Ret at h; split at h
  · exact ⟨_, _, rfl, h⟩
  · exact h.elim
theorem Run.get {r : RS} {Q : Fl → Env → Sto → Prop} (h : Run r Q) : ∃ f e S, r = some (f, e, S) ∧ Q f e S := by
  unfold Run at h; split at h
  · exact ⟨_, _, _, rfl, h⟩
  · exact h.elim
/-! ### expressions -/
variable {Q : D → Sto → Prop}
@[simp] theorem w_abs : Ret (evalE .abs e S) Q = Q .non S := by simp [evalE]
@[simp] theorem w_non : Ret (evalE .non e S) Q = Q .non S := by simp [evalE]
@[simp] theorem w_bl (b : Bool) : Ret (evalE (.bl b) e S) Q = Q (.bl b) S := by simp [evalE]
@[simp] theorem w_int (i : Int) : Ret (evalE (.int i) e S) Q = Q (.int i) S := by simp [evalE]
@[simp] theorem w_str (x : List Nat) : Ret (evalE (.str x) e S) Q = Q (.str x) S := by simp [evalE]
@[simp] theorem w_glo (x : List Nat) (v : D) : Ret (evalE (.glo x v) e S) Q = Q v S := by simp [evalE]
@[simp] theorem w_var (i : Nat) : Ret (evalE (.var i) e S) Q = Opt e[i]? fun o => Opt o fun d => Q d S := by
  simp only [evalE]
  rcases e[i]? with _ | _ | d <;> rfl
@[simp] theorem w_bin (op : Op2) (a b : Ex) : Ret (evalE (.bin op a b) e S) Q = Ret (evalE a e S) fun x S1 => Ret (evalE b e S1) fun y S2 => Ret (binI S2 op x y) Q := by
  simp only [evalE]
  rcases evalE a e S with _ | ⟨x, S1⟩
  · rfl
  · simp only [ret_some]
    rcases evalE b e S1 with _ | ⟨y, S2⟩ <;> rfl
@[simp] theorem w_neg (a : Ex) : Ret (evalE (.neg a) e S) Q = Ret (evalE a e S) fun x S1 => match x with
    | .int i => Q (.int (-i)) S1
    | _ => False := by
  simp only [evalE]
  rcases evalE a e S with _ | ⟨x, S1⟩
  · rfl
  · cases x <;> rfl
@[simp] theorem w_not (a : Ex) : Ret (evalE (.not a) e S) Q = Ret (evalE a e S) fun x S1 => Opt (tru S1 x) fun b => Q (.bl (!b)) S1 := by
  simp only [evalE, thenT]
  rcases evalE a e S with _ | ⟨x, S1⟩
  · rfl
  · simp only [ret_some]
    rcases tru S1 x with _ | b <;> rfl
theorem thenT_ret (r : RE) (Q : Bool → Sto → Prop) : Ret (thenT r) Q = Ret r fun d S1 => Opt (tru S1 d) fun b => Q b S1 := by
  rcases r with _ | ⟨x, S1⟩
  · rfl
  · simp only [thenT, ret_some]
    rcases tru S1 x with _ | b <;> rfl
@[simp] theorem w_thenT (c : Ex) (Q : Bool → Sto → Prop) : Ret (thenT (evalE c e S)) Q = Ret (evalE c e S) fun d S1 => Opt (tru S1 d) fun b => Q b S1 := thenT_ret _ _
@[simp] theorem w_and (a : Ex) (es : List Ex) : Ret (evalE (.and a es) e S) Q = Ret (evalE a e S) fun d S1 => Ret (evalAnd es d e S1) Q := by
  simp only [evalE]
  rcases evalE a e S with _ | ⟨x, S1⟩ <;> rfl
@[simp] theorem w_or (a : Ex) (es : List Ex) : Ret (evalE (.or a es) e S) Q = Ret (evalE a e S) fun d S1 => Ret (evalOr es d e S1) Q := by
  simp only [evalE]
  rcases evalE a e S with _ | ⟨x, S1⟩ <;> rfl
@[simp] theorem w_and0 : Ret (evalAnd [] d e S) Q = Q d S := by simp [evalAnd]
@[simp] theorem w_and1 (x : Ex) (xs : List Ex) : Ret (evalAnd (x :: xs) d e S) Q = Opt (tru S d) fun b => if b = true then Ret (evalE x e S) fun d1 S1 => Ret (evalAnd xs d1 e S1) Q else Q d S := by
  simp only [evalAnd]
  rcases tru S d with _ | _ | _
  · rfl
  · rfl
  · simp only [opt_some, if_true]
    rcases evalE x e S with _ | ⟨x, S1⟩ <;> rfl
@[simp] theorem w_or0 : Ret (evalOr [] d e S) Q = Q d S := by simp [evalOr]
@[simp] theorem w_or1 (x : Ex) (xs : List Ex) : Ret (evalOr (x :: xs) d e S) Q = Opt (tru S d) fun b => if b = true then Q d S else Ret (evalE x e S) fun d1 S1 => Ret (evalOr xs d1 e S1) Q := by
  simp only [evalOr]
  rcases tru S d with _ | _ | _
  · rfl
  · simp only [opt_some]
    rcases evalE x e S with _ | ⟨x, S1⟩ <;> rfl
  · rfl
@[simp] theorem w_cmp (a : Ex) (os : List Cmp) (bs : List Ex) : Ret (evalE (.cmp a os bs) e S) Q = Ret (evalE a e S) fun x S1 => Ret (evalC os bs e x true S1) fun c S2 => Q (.bl c) S2 := by
  simp only [evalE]
  rcases evalE a e S with _ | ⟨x, S1⟩
  · rfl
  · simp only [ret_some]
    rcases evalC os bs e x true S1 with _ | ⟨y, S2⟩ <;> rfl
@[simp] theorem w_c0 (x : D) (c : Bool) (Q : Bool → Sto → Prop) : Ret (evalC [] [] e x c S) Q = Q c S := by simp [evalC]
@[simp] theorem w_c1 (o : Cmp) (os : List Cmp) (b : Ex) (bs : List Ex) (x : D) (Q : Bool → Sto → Prop) : Ret (evalC (o :: os) (b :: bs) e x true S) Q = Ret (evalE b e S) fun y S1 => Opt (cmpI S1 o x y) fun c => Ret (evalC os bs e y c S1) Q := by
  simp only [evalC]
  rcases evalE b e S with _ | ⟨y, S1⟩
  · rfl
  · simp only [ret_some]
    rcases cmpI S1 o x y with _ | c <;> rfl
@[simp] theorem w_c2 (o : Cmp) (os : List Cmp) (b : Ex) (bs : List Ex) (x : D) (Q : Bool → Sto → Prop) : Ret (evalC (o :: os) (b :: bs) e x false S) Q = Q false S := by simp [evalC]
@[simp] theorem w_c3 (o : Cmp) (os : List Cmp) (b : Ex) (bs : List Ex) (x : D) (c : Bool) (Q : Bool → Sto → Prop) : Ret (evalC (o :: os) (b :: bs) e x c S) Q = if c = true then Ret (evalE b e S) fun y S1 => Opt (cmpI S1 o x y) fun c => Ret (evalC os bs e y c S1) Q else Q false S := by
  cases c
  · rw [w_c2]; rfl
  · rw [w_c1]; rfl
@[simp] theorem w_ife (c a b : Ex) : Ret (evalE (.ife c a b) e S) Q = Ret (evalE c e S) fun d S1 => Opt (tru S1 d) fun t => if t = true then Ret (evalE a e S1) Q else Ret (evalE b e S1) Q := by
  simp only [evalE, thenT]
  rcases evalE c e S with _ | ⟨x, S1⟩
  · rfl
  · simp only [ret_some]
    rcases tru S1 x with _ | _ | _ <;> rfl
@[simp] theorem w_es0 (Q : List D → Sto → Prop) : Ret (evalEs [] e S) Q = Q [] S := by simp [evalEs]
@[simp] theorem w_es1 (x : Ex) (xs : List Ex) (Q : List D → Sto → Prop) : Ret (evalEs (x :: xs) e S) Q = Ret (evalE x e S) fun d S1 => Ret (evalEs xs e S1) fun ds S2 => Q (d :: ds) S2 := by
  simp only [evalEs]
  rcases evalE x e S with _ | ⟨x, S1⟩
  · rfl
  · simp only [ret_some]
    rcases evalEs xs e S1 with _ | ⟨y, S2⟩ <;> rfl
@[simp] theorem w_tup (es : List Ex) : Ret (evalE (.tup es) e S) Q = Ret (evalEs es e S) fun ds S1 => Q (.tup ds) S1 := by
  simp only [evalE]
  rcases evalEs es e S with _ | ⟨x, S1⟩ <;> rfl
@[simp] theorem w_lst (es : List Ex) : Ret (evalE (.lst es) e S) Q = Ret (evalEs es e S) fun ds S1 => Q (.ref S1.length) (S1 ++ [.lst ds]) := by
  simp only [evalE]
  rcases evalEs es e S with _ | ⟨x, S1⟩ <;> rfl
@[simp] theorem w_idx (a i : Ex) : Ret (evalE (.idx a i) e S) Q = Ret (evalE a e S) fun x S1 => Ret (evalE i e S1) fun y S2 => Opt (idxI S2 x y) fun d => Q d S2 := by
  simp only [evalE]
  rcases evalE a e S with _ | ⟨x, S1⟩
  · rfl
  · simp only [ret_some]
    rcases evalE i e S1 with _ | ⟨y, S2⟩
    · rfl
    · simp only [ret_some]
      rcases idxI S2 x y with _ | d <;> rfl
@[simp] theorem w_slc (a lo hi st : Ex) : Ret (evalE (.slc a lo hi st) e S) Q = Ret (evalE a e S) fun x S1 => Ret (evalE lo e S1) fun l S2 => Ret (evalE hi e S2) fun h S3 => Ret (evalE st e S3) fun t S4 => Ret (slcI S4 x l h t) Q := by
  simp only [evalE]
  rcases evalE a e S with _ | ⟨x, S1⟩
  · rfl
  · simp only [ret_some]
    rcases evalE lo e S1 with _ | ⟨y, S2⟩
    · rfl
    · simp only [ret_some]
      rcases evalE hi e S2 with _ | ⟨y, S3⟩
      · rfl
      · simp only [ret_some]
        rcases evalE st e S3 with _ | ⟨y, S4⟩ <;> rfl
@[simp] theorem w_call (x : List Nat) (f : Fn) (es : List Ex) : Ret (evalE (.call x f es) e S) Q = Ret (evalEs es e S) fun ds S1 => Ret (callI f ds S1) Q := by
  simp only [evalE]
  rcases evalEs es e S with _ | ⟨x, S1⟩ <;> rfl
@[simp] theorem w_callk (x : List Nat) (ks : List (List Nat)) (f : Fn) (perm : List Nat) (es : List Ex) : Ret (evalE (.callk x ks f perm es) e S) Q = Ret (evalEs es e S) fun ds S1 => Ret (callI f (pick perm ds) S1) Q := by
  simp only [evalE]
  rcases evalEs es e S with _ | ⟨x, S1⟩ <;> rfl
@[simp] theorem w_blt (b : Blt) (es : List Ex) : Ret (evalE (.blt b es) e S) Q = Ret (evalEs es e S) fun ds S1 => Ret (bltI S1 b ds) Q := by
  simp only [evalE]
  rcases evalEs es e S with _ | ⟨x, S1⟩ <;> rfl
@[simp] theorem w_setlen (a : Ex) : Ret (evalE (.setlen a) e S) Q = Ret (evalE a e S) fun x S1 => Opt (setlenI S1 x) fun n => Q (.int (n : Nat)) S1 := by
  simp only [evalE]
  rcases evalE a e S with _ | ⟨x, S1⟩
  · rfl
  · simp only [ret_some]
    rcases setlenI S1 x with _ | b <;> rfl
@[simp] theorem w_meth (m : Mth) (o : Ex) (es : List Ex) : Ret (evalE (.meth m o es) e S) Q = Ret (evalE o e S) fun x S1 => methT S1 m x = true ∧ Ret (evalEs es e S1) fun ds S2 => Ret (methI S2 m x ds) Q := by
  simp only [evalE]
  rcases evalE o e S with _ | ⟨x, S1⟩
  · rfl
  · simp only [ret_some]
    rw [ret_if]
    congr 1
    rcases evalEs es e S1 with _ | ⟨y, S2⟩ <;> rfl
@[simp] theorem w_rngT (es : List Ex) : Ret (evalE (.rngT es) e S) Q = Ret (evalEs es e S) fun ds S1 => Opt (rngI ds) fun xs => Q (.tup xs) S1 := by
  simp only [evalE]
  rcases evalEs es e S with _ | ⟨x, S1⟩
  · rfl
  · simp only [ret_some]
    rcases rngI x with _ | b <;> rfl
@[simp] theorem w_rngL (es : List Ex) : Ret (evalE (.rngL es) e S) Q = Ret (evalEs es e S) fun ds S1 => Opt (rngI ds) fun xs => Q (.ref S1.length) (S1 ++ [.lst xs]) := by
  simp only [evalE]
  rcases evalEs es e S with _ | ⟨x, S1⟩
  · rfl
  · simp only [ret_some]
    rcases rngI x with _ | b <;> rfl
@[simp] theorem w_comp (elt tg it c : Ex) (own : List Nat) : Ret (evalE (.comp elt tg it c own) e S) Q = RetI (evalIt it e S) fun xs g S1 => xs.length ≤ line ∧ Ret (compL (bindT tg) (fun e S => thenT (evalE c e S)) (evalE elt) g (wipe e own) xs S1) fun ys S2 => Q (.ref S2.length) (S2 ++ [.lst ys]) := by
  simp only [evalE]
  rcases evalIt it e S with _ | ⟨xs, g, S1⟩
  · rfl
  · simp only [reti_some]
    by_cases h : xs.length ≤ line
    · simp only [h, decide_true, if_true, true_and]
      rcases compL (bindT tg) (fun e S => thenT (evalE c e S)) (evalE elt) g (wipe e own) xs S1 with _ | ⟨y, S2⟩ <;> rfl
    · simp only [h, decide_false, false_and]; rfl
@[simp] theorem w_dcomp (k v tg it c : Ex) (own : List Nat) : Ret (evalE (.dcomp k v tg it c own) e S) Q = RetI (evalIt it e S) fun xs g S1 => xs.length ≤ line ∧ Ret (dcompL (bindT tg) (fun e S => thenT (evalE c e S)) (evalE k) (evalE v) g (wipe e own) xs [] S1) fun ys S2 => Q (.ref S2.length) (S2 ++ [.dct ys]) := by
  simp only [evalE]
  rcases evalIt it e S with _ | ⟨xs, g, S1⟩
  · rfl
  · simp only [reti_some]
    by_cases h : xs.length ≤ line
    · simp only [h, decide_true, if_true, true_and]
      rcases dcompL (bindT tg) (fun e S => thenT (evalE c e S)) (evalE k) (evalE v) g (wipe e own) xs [] S1 with _ | ⟨y, S2⟩ <;> rfl
    · simp only [h, decide_false, false_and]; rfl
@[simp] theorem w_dict (kvs : List Ex) : Ret (evalE (.dict kvs) e S) Q = Ret (evalEs kvs e S) fun ds S1 => Opt (pairsD ds) fun ps => (ps.all fun p => keyK p.1) = true ∧ Q (.ref S1.length) (S1 ++ [.dct (dputs [] ps)]) := by
  simp only [evalE]
  rcases evalEs kvs e S with _ | ⟨x, S1⟩
  · rfl
  · simp only [ret_some]
    rcases pairsD x with _ | ps
    · rfl
    · simp only [opt_some]
      rw [ret_if]; rfl
/-! ### what is walked -/
section
variable {R : List D → List (Nat × O) → Sto → Prop}
@[simp] theorem w_rng (es : List Ex) : RetI (evalIt (.rng es) e S) R = Ret (evalEs es e S) fun ds S1 => Opt (rngI ds) fun xs => R xs [] S1 := by
  simp only [evalIt]
  rcases evalEs es e S with _ | ⟨x, S1⟩
  · rfl
  · simp only [ret_some]
    rcases rngI x with _ | b <;> rfl
@[simp] theorem w_wk (a : Ex) : RetI (evalIt (.wk a) e S) R = Ret (evalE a e S) fun x S1 => Opt (walkV x S1) fun p => R p.1 p.2 S1 := by
  simp only [evalIt]
  rcases evalE a e S with _ | ⟨x, S1⟩
  · rfl
  · simp only [ret_some]
    rcases walkV x S1 with _ | ⟨a, b⟩ <;> rfl
@[simp] theorem w_enum (a : Ex) : RetI (evalIt (.enum a) e S) R = Ret (evalE a e S) fun x S1 => Opt (enumI x S1) fun p => R p.1 p.2 S1 := by
  simp only [evalIt]
  rcases evalE a e S with _ | ⟨x, S1⟩
  · rfl
  · simp only [ret_some]
    rcases enumI x S1 with _ | ⟨a, b⟩ <;> rfl
@[simp] theorem w_zip (a b : Ex) : RetI (evalIt (.zip a b) e S) R = Ret (evalE a e S) fun x S1 => Ret (evalE b e S1) fun y S2 => Opt (zipI x y S2) fun p => R p.1 p.2 S2 := by
  simp only [evalIt]
  rcases evalE a e S with _ | ⟨x, S1⟩
  · rfl
  · simp only [ret_some]
    rcases evalE b e S1 with _ | ⟨y, S2⟩
    · rfl
    · simp only [ret_some]
      rcases zipI x y S2 with _ | ⟨a, b⟩ <;> rfl
@[simp] theorem w_enumz (a b : Ex) : RetI (evalIt (.enumz a b) e S) R = Ret (evalE a e S) fun x S1 => Ret (evalE b e S1) fun y S2 => Opt (zipT x y) fun xs => R (enumV xs) [] S2 := by
  simp only [evalIt]
  rcases evalE a e S with _ | ⟨x, S1⟩
  · rfl
  · simp only [ret_some]
    rcases evalE b e S1 with _ | ⟨y, S2⟩
    · rfl
    · simp only [ret_some]
      rcases zipT x y with _ | xs <;> rfl
end
/-! ### targets -/
section
variable {R : Env → Sto → Prop}
@[simp] theorem w_tgN (i : Nat) : Ret (bindT (.tgN i) d e S) R = R (e.set i (some d)) S := by simp [bindT]
@[simp] theorem w_tgT (ts : List Ex) : Ret (bindT (.tgT ts) d e S) R = Opt (itemsI S d) fun ds => Ret (bindTs ts ds e S) R := by
  simp only [bindT]
  rcases itemsI S d with _ | ds <;> rfl
@[simp] theorem w_tgS (o i : Ex) : Ret (bindT (.tgS o i) d e S) R = Ret (evalE o e S) fun x S1 => Ret (evalE i e S1) fun y S2 => Opt (setI S2 x y d) fun S3 => R e S3 := by
  simp only [bindT]
  rcases evalE o e S with _ | ⟨x, S1⟩
  · rfl
  · simp only [ret_some]
    rcases evalE i e S1 with _ | ⟨y, S2⟩
    · rfl
    · simp only [ret_some]
      rcases setI S2 x y d with _ | xs <;> rfl
@[simp] theorem w_ts0 : Ret (bindTs [] [] e S) R = R e S := by simp [bindTs]
@[simp] theorem w_ts1 (t : Ex) (ts : List Ex) (ds : List D) : Ret (bindTs (t :: ts) (d :: ds) e S) R = Ret (bindT t d e S) fun e1 S1 => Ret (bindTs ts ds e1 S1) R := by
  simp only [bindTs]
  rcases bindT t d e S with _ | ⟨x, S1⟩ <;> rfl
end
/-! ### statements -/
section
variable {R : Fl → Env → Sto → Prop}
@[simp] theorem w_asg (t x : Ex) : Run (execS (.asg t x) e S) R = Ret (evalE x e S) fun d S1 => Ret (bindT t d e S1) fun e1 S2 => R .nx e1 S2 := by
  simp only [execS]
  rcases evalE x e S with _ | ⟨x, S1⟩
  · rfl
  · simp only [ret_some]
    rcases bindT t x e S1 with _ | ⟨y, S2⟩ <;> rfl
@[simp] theorem w_ex (x : Ex) : Run (execS (.ex x) e S) R = Ret (evalE x e S) fun _ S1 => R .nx e S1 := by
  simp only [execS]
  rcases evalE x e S with _ | ⟨x, S1⟩ <;> rfl
@[simp] theorem w_ifs (c : Ex) (a b : List St) : Run (execS (.ife c a b) e S) R = Ret (evalE c e S) fun d S1 => Opt (tru S1 d) fun t => if t = true then Run (execSs a e S1) R else Run (execSs b e S1) R := by
  simp only [execS, thenT]
  rcases evalE c e S with _ | ⟨x, S1⟩
  · rfl
  · simp only [ret_some]
    rcases tru S1 x with _ | _ | _ <;> rfl
@[simp] theorem w_forS (t it : Ex) (b : List St) : Run (execS (.forS t it b) e S) R = RetI (evalIt it e S) fun xs g S1 => Run (forL (bindT t) (execSs b) g xs e S1) R := by
  simp only [execS]
  rcases evalIt it e S with _ | ⟨x, g, S1⟩ <;> rfl
@[simp] theorem w_wh (n : Nat) (c : Ex) (b : List St) : Run (execS (.wh n c b) e S) R = Run (whL (fun e S => thenT (evalE c e S)) (execSs b) n e S) R := by simp only [execS]
@[simp] theorem w_ret (x : Ex) : Run (execS (.ret x) e S) R = Ret (evalE x e S) fun d S1 => R (.rt d) e S1 := by
  simp only [execS]
  rcases evalE x e S with _ | ⟨x, S1⟩ <;> rfl
@[simp] theorem w_retN : Run (execS .retN e S) R = R (.rt .non) e S := by simp [execS]
@[simp] theorem w_brk : Run (execS .brk e S) R = R .brk e S := by simp [execS]
@[simp] theorem w_pass : Run (execS .pass e S) R = R .nx e S := by simp [execS]
@[simp] theorem w_ss0 : Run (execSs [] e S) R = R .nx e S := by simp [execSs]
/-- what is wanted behind a statement -/
def Then (ss : List St) (R : Fl → Env → Sto → Prop) : Fl → Env → Sto → Prop
  | .nx, e, S => Run (execSs ss e S) R
  | f, e, S => R f e S
@[simp] theorem then_nx (ss : List St) : Then ss R .nx e S = Run (execSs ss e S) R := rfl
@[simp] theorem then_brk (ss : List St) : Then ss R .brk e S = R .brk e S := rfl
@[simp] theorem then_rt (ss : List St) : Then ss R (.rt d) e S = R (.rt d) e S := rfl
@[simp] theorem w_ss1 (s : St) (ss : List St) : Run (execSs (s :: ss) e S) R = Run (execS s e S) (Then ss R) := by
  simp only [execSs]
  rcases execS s e S with _ | ⟨f, e1, S1⟩
  · rfl
  · cases f <;> rfl
end
/-! ### defs -/
/-- what comes of a def's body -/
def Back (Q : D → Sto → Prop) : Fl → Env → Sto → Prop
  | .rt d, _, S => Q d S
  | .nx, _, S => Q .non S
  | .brk, _, _ => False
@[simp] theorem back_rt (Q : D → Sto → Prop) : Back Q (.rt d) e S = Q d S := rfl
@[simp] theorem back_nx (Q : D → Sto → Prop) : Back Q .nx e S = Q .non S := rfl
theorem w_runF (n k : Nat) (body : List St) (ds : List D) : Ret (runF n k body ds S) Q = (ds.length = k ∧ Run (execSs body (ds.map some ++ List.replicate (n - k) none) S) (Back Q)) := by
  unfold runF
  rw [ret_if]
  congr 1
  rcases execSs body (ds.map some ++ List.replicate (n - k) none) S with _ | ⟨f, e1, S1⟩
  · rfl
  · cases f <;> rfl
/-- a call with things that refer to nothing, that gives such a thing -/
theorem call_pure {f : Fn} {ds : List D} (h : Ret (f ds []) fun d T => D.lo 0 d = true ∧ ∀ S, Q d S) (hd : D.los 0 ds = true) : Ret (callI f ds S) Q := by
  obtain ⟨d, T, e1, h1, h2⟩ := h.get
  unfold callI
  rw [if_pos hd, e1]
  simp only
  rw [if_pos h1]
  exact h2 S
end
end N
set_option autoImplicit false
set_option linter.all false
set_option maxRecDepth 100000
namespace N
section
variable {α β : Type} {S T : Sto} {e : Env} {d : D}
/-- T is S with more behind -/
def Ext (S T : Sto) : Prop := ∃ U, T = S ++ U
theorem Ext.refl (S : Sto) : Ext S S := ⟨[], by simp⟩
theorem Ext.app (S U : Sto) : Ext S (S ++ U) := ⟨U, rfl⟩
theorem Ext.trans {S T U : Sto} (a : Ext S T) (b : Ext T U) : Ext S U := by
  obtain ⟨x, rfl⟩ := a; obtain ⟨y, rfl⟩ := b; exact ⟨x ++ y, by simp⟩
theorem Ext.at {S T : Sto} {n : Nat} {o : O} (a : Ext S T) (h : S[n]? = some o) : T[n]? = some o := by
  obtain ⟨x, rfl⟩ := a
  rw [List.getElem?_append_left (List.getElem?_eq_some_iff.mp h).1]; exact h
theorem Ext.len {S T : Sto} (a : Ext S T) : S.length ≤ T.length := by obtain ⟨x, rfl⟩ := a; simp
@[simp] theorem last_at (S : Sto) (o : O) : (S ++ [o])[S.length]? = some o := by simp
/-! ### rows -/
abbrev row (r : List Int) : D := .tup (r.map .int)
abbrev rows (rs : List (List Int)) : D := .tup (rs.map row)
mutual
/-- without references, texts told -/
def D.flat : D → Bool
  | .non => true
  | .bl _ => true
  | .int _ => true
  | .str _ => true
  | .tup xs => D.flats xs
  | _ => false
def D.flats : List D → Bool
  | [] => true
  | x :: xs => D.flat x && D.flats xs
end
mutual
def D.deep : D → Nat
  | .tup xs => D.deeps xs + 1
  | _ => 0
def D.deeps : List D → Nat
  | [] => 0
  | x :: xs => max (D.deep x) (D.deeps xs)
end
mutual
theorem flat_lo (n : Nat) : ∀ d : D, d.flat = true → D.lo n d = true
  | .non, _ => rfl
  | .bl _, _ => rfl
  | .int _, _ => rfl
  | .str _, _ => rfl
  | .tup xs, h => flats_lo n xs h
  | .lst _, h => by cases h
  | .ref _, h => by cases h
  | .rep _, h => by cases h
theorem flats_lo (n : Nat) : ∀ ds : List D, D.flats ds = true → D.los n ds = true
  | [], _ => rfl
  | x :: xs, h => by
    have h := Bool.and_eq_true_iff.mp (show (D.flat x && D.flats xs) = true from h)
    show (D.lo n x && D.los n xs) = true
    rw [flat_lo n x h.1, flats_lo n xs h.2]; rfl
end
mutual
theorem flat_rd (S : Sto) : ∀ (d : D) (n : Nat), d.flat = true → d.deep ≤ n → rd n S d = some d
  | .non, n, _, _ => by cases n <;> rfl
  | .bl _, n, _, _ => by cases n <;> rfl
  | .int _, n, _, _ => by cases n <;> rfl
  | .str _, n, _, _ => by cases n <;> rfl
  | .tup xs, 0, h, hn => by simp [D.deep] at hn
  | .tup xs, n + 1, h, hn => by
    simp only [rd]
    rw [flats_rd S xs n h (by simp only [D.deep] at hn; omega)]; rfl
  | .lst _, _, h, _ => by cases h
  | .ref _, _, h, _ => by cases h
  | .rep _, _, h, _ => by cases h
theorem flats_rd (S : Sto) : ∀ (ds : List D) (n : Nat), D.flats ds = true → D.deeps ds ≤ n → mapO (rd n S) ds = some ds
  | [], _, _, _ => rfl
  | x :: xs, n, h, hn => by
    have h := Bool.and_eq_true_iff.mp (show (D.flat x && D.flats xs) = true from h)
    simp only [D.deeps] at hn
    simp only [mapO]
    rw [flat_rd S x n h.1 (by omega), flats_rd S xs n h.2 (by omega)]
end
theorem flats_all : ∀ {ds : List D}, (∀ d ∈ ds, d.flat = true) → D.flats ds = true
  | [], _ => rfl
  | x :: xs, h => by
    show (D.flat x && D.flats xs) = true
    rw [h x (by simp), flats_all fun d hd => h d (by simp [hd])]; rfl
theorem flats_map (f : α → D) (xs : List α) (h : ∀ x, (f x).flat = true) : D.flats (xs.map f) = true := flats_all fun d hd => by
  obtain ⟨x, _, rfl⟩ := List.mem_map.mp hd; exact h x
theorem deeps_le {n : Nat} : ∀ {ds : List D}, (∀ d ∈ ds, d.deep ≤ n) → D.deeps ds ≤ n
  | [], _ => Nat.zero_le _
  | x :: xs, h => by
    simp only [D.deeps]
    have := h x (by simp)
    have := deeps_le (n := n) (ds := xs) fun d hd => h d (by simp [hd])
    omega
theorem deeps_map {n : Nat} (f : α → D) (xs : List α) (h : ∀ x, (f x).deep ≤ n) : D.deeps (xs.map f) ≤ n := deeps_le fun d hd => by
  obtain ⟨x, _, rfl⟩ := List.mem_map.mp hd; exact h x
@[simp] theorem flat_row (r : List Int) : (row r).flat = true := flats_map _ _ fun _ => rfl
@[simp] theorem flats_ints (r : List Int) : D.flats (r.map .int) = true := flats_map _ _ fun _ => rfl
@[simp] theorem flats_rowsL (r : List (List Int)) : D.flats (r.map row) = true := flats_map _ _ fun r => flat_row r
theorem deep_row (r : List Int) : (row r).deep ≤ 1 := by
  simp only [D.deep]
  have : D.deeps (r.map .int) ≤ 0 := deeps_map _ _ fun _ => Nat.le_refl 0
  omega
@[simp] theorem flat_rows (rs : List (List Int)) : (rows rs).flat = true := flats_map _ _ fun r => flat_row r
theorem deep_rows (rs : List (List Int)) : (rows rs).deep ≤ 2 := by
  simp only [D.deep]
  have : D.deeps (rs.map row) ≤ 1 := deeps_map _ _ deep_row
  omega
mutual
theorem flat_okS : ∀ d : D, d.flat = true → (∀ s, d ≠ .str s) → (∀ xs, d = .tup xs → D.okSs xs = true) → D.okS d = true
  | .non, _, _, _ => rfl
  | .bl _, _, _, _ => rfl
  | .int _, _, _, _ => rfl
  | .str s, _, h, _ => absurd rfl (h s)
  | .tup xs, _, _, h => h xs rfl
  | .lst _, h, _, _ => by cases h
  | .ref _, h, _, _ => by cases h
  | .rep _, h, _, _ => by cases h
end
theorem okSs_all : ∀ {ds : List D}, (∀ d ∈ ds, D.okS d = true) → D.okSs ds = true
  | [], _ => rfl
  | x :: xs, h => by
    show (D.okS x && D.okSs xs) = true
    rw [h x (by simp), okSs_all fun d hd => h d (by simp [hd])]; rfl
@[simp] theorem okS_row (r : List Int) : D.okS (row r) = true := okSs_all fun d hd => by
  obtain ⟨x, _, rfl⟩ := List.mem_map.mp hd; rfl
@[simp] theorem okS_rows (rs : List (List Int)) : D.okS (rows rs) = true := okSs_all fun d hd => by
  obtain ⟨x, _, rfl⟩ := List.mem_map.mp hd; exact okS_row x
/-- the text of a tree: signs told, ints short, not too long -/
def D.rpOk (d : D) : Bool := D.okS d && (D.shw d && decide (D.bulk d ≤ 50000))
/-! ### loops -/
/-- a list comprehension whose parts leave the store as it is -/
theorem comp_map {bind : D → Env → Sto → Option (Env × Sto)} {c : Env → Sto → Option (Bool × Sto)} {elt : Env → Sto → RE} {g : List (Nat × O)} {S : Sto} {e : Env} (inj : β → D) (p : β → Bool) (f : β → D) (hg : guardOk S g = true) :
    ∀ ys : List β, (∀ y ∈ ys, Ret (bind (inj y) e S) fun e1 S1 => S1 = S ∧ Ret (c e1 S) fun b S2 => b = p y ∧ S2 = S ∧ (p y = true → Ret (elt e1 S) fun z S3 => z = f y ∧ S3 = S)) → compL bind c elt g e (ys.map inj) S = some ((ys.filter p).map f, S)
  | [], _ => by simp [compL, hg]
  | y :: ys, h => by
    have ih := comp_map inj p f hg ys fun z hz => h z (by simp [hz])
    obtain ⟨e1, S1, q1, rfl, q2⟩ := (h y (by simp)).get
    obtain ⟨b, S2, q3, rfl, rfl, q4⟩ := q2.get
    rw [List.map_cons]
    simp only [compL, hg, if_true, q1, q3]
    cases hb : p y with
    | false =>
      simp only
      rw [ih, List.filter_cons_of_neg (by simp [hb])]
    | true =>
      obtain ⟨z, S3, q5, rfl, rfl⟩ := (q4 hb).get
      simp only [q5]
      rw [ih, List.filter_cons_of_pos hb]
      rfl
/-- without a test -/
theorem comp_all {bind : D → Env → Sto → Option (Env × Sto)} {elt : Env → Sto → RE} {g : List (Nat × O)} {S : Sto} {e : Env} (inj : β → D) (f : β → D) (hg : guardOk S g = true) (ys : List β)
    (h : ∀ y ∈ ys, Ret (bind (inj y) e S) fun e1 S1 => S1 = S ∧ Ret (elt e1 S) fun z S3 => z = f y ∧ S3 = S) : compL bind (fun e S => thenT (evalE (.bl true) e S)) elt g e (ys.map inj) S = some (ys.map f, S) := by
  have q := comp_map (c := fun e S => thenT (evalE (.bl true) e S)) (elt := elt) inj (fun _ => true) f hg ys fun y hy => (h y hy).imp fun e1 S1 ⟨h1, h2⟩ => ⟨h1, by simpa [tru] using h2⟩
  rw [show ys.filter (fun _ => true) = ys from by simp] at q
  exact q
/-- a comprehension: what is left, what has been told, the store -/
theorem comp_inv {bind : D → Env → Sto → Option (Env × Sto)} {c : Env → Sto → Option (Bool × Sto)} {elt : Env → Sto → RE} {g : List (Nat × O)} {e : Env} (P : List D → List D → Sto → Prop)
    (hs : ∀ x xs acc S, P (x :: xs) acc S → guardOk S g = true ∧ Ret (bind x e S) fun e1 S1 => Ret (c e1 S1) fun b S2 => if b = true then Ret (elt e1 S2) fun z S3 => P xs (acc ++ [z]) S3 else P xs acc S2) (hg : ∀ acc S, P [] acc S → guardOk S g = true) :
    ∀ (xs acc : List D) (S : Sto) (Q : List D → Sto → Prop), P xs acc S → (∀ ys T, P [] (acc ++ ys) T → Q ys T) → Ret (compL bind c elt g e xs S) Q
  | [], acc, S, Q, h, k => by
    simp only [compL, hg acc S h, if_true]
    exact k [] S (by simpa using h)
  | x :: xs, acc, S, Q, h, k => by
    obtain ⟨h1, h2⟩ := hs x xs acc S h
    obtain ⟨e1, S1, q1, h3⟩ := h2.get
    obtain ⟨b, S2, q2, h4⟩ := h3.get
    simp only [compL, h1, if_true, q1, q2]
    cases b with
    | false =>
      simp only [Bool.false_eq_true, if_false] at h4
      exact comp_inv P hs hg xs acc S2 Q h4 k
    | true =>
      simp only [if_true] at h4
      obtain ⟨z, S3, q3, h5⟩ := h4.get
      simp only [q3]
      have ih := comp_inv P hs hg xs (acc ++ [z]) S3 (fun ys T => Q (z :: ys) T) h5 fun ys T h => k (z :: ys) T (by simpa using h)
      obtain ⟨ys, T, q4, h6⟩ := ih.get
      rw [q4]
      exact h6
/-- a loop: what is left, the names, the store -/
theorem for_inv {bind : D → Env → Sto → Option (Env × Sto)} {body : Env → Sto → RS} {g : List (Nat × O)} {R : Fl → Env → Sto → Prop} (P : List D → Env → Sto → Prop)
    (hs : ∀ x xs e S, P (x :: xs) e S → guardOk S g = true ∧ Ret (bind x e S) fun e1 S1 => Run (body e1 S1) fun f e2 S2 => match f with
      | .nx => P xs e2 S2
      | .brk => R .nx e2 S2
      | .rt d => R (.rt d) e2 S2) (hd : ∀ e S, P [] e S → guardOk S g = true ∧ R .nx e S) :
    ∀ (xs : List D) (e : Env) (S : Sto), P xs e S → Run (forL bind body g xs e S) R
  | [], e, S, h => by
    obtain ⟨h1, h2⟩ := hd e S h
    simp only [forL, h1, if_true]
    exact h2
  | x :: xs, e, S, h => by
    obtain ⟨h1, h2⟩ := hs x xs e S h
    obtain ⟨e1, S1, q1, h3⟩ := h2.get
    obtain ⟨f, e2, S2, q2, h4⟩ := h3.get
    simp only [forL, h1, if_true, q1, q2]
    cases f with
    | nx => exact for_inv P hs hd xs e2 S2 h4
    | brk => exact h4
    | rt d => exact h4
/-- a loop that looks for the first of its kind -/
theorem for_find {bind : D → Env → Sto → Option (Env × Sto)} {body : Env → Sto → RS} {g : List (Nat × O)} {S : Sto} (P : Env → Prop) (inj : β → D) (p : β → Bool) (r : β → D) (hg : guardOk S g = true) :
    ∀ (ys : List β), (∀ y ∈ ys, ∀ e, P e → Ret (bind (inj y) e S) fun e1 S1 => S1 = S ∧ Run (body e1 S) fun f e2 S2 => S2 = S ∧ P e2 ∧ f = if p y = true then .rt (r y) else .nx) →
    ∀ e, P e → Run (forL bind body g (ys.map inj) e S) fun f e2 S2 => S2 = S ∧ P e2 ∧ f = match ys.find? p with
      | some y => .rt (r y)
      | none => .nx
  | [], _, e, h => by simp [forL, hg, h]
  | y :: ys, hs, e, h => by
    obtain ⟨e1, S1, q1, rfl, h1⟩ := (hs y (by simp) e h).get
    obtain ⟨f, e2, S2, q2, rfl, h2, h3⟩ := h1.get
    rw [List.map_cons]
    simp only [forL, hg, if_true, q1, q2]
    cases hp : p y with
    | true =>
      rw [if_pos hp] at h3
      subst h3
      simp [List.find?_cons_of_pos hp, h2]
    | false =>
      rw [if_neg (by simp [hp])] at h3
      subst h3
      simp only
      rw [List.find?_cons_of_neg (by simp [hp])]
      exact for_find P inj p r hg ys (fun z hz => hs z (by simp [hz])) e2 h2
/-- a while: a measure, the names, the store -/
theorem wh_inv {c : Env → Sto → Option (Bool × Sto)} {body : Env → Sto → RS} {R : Fl → Env → Sto → Prop} (P : Nat → Env → Sto → Prop)
    (hs : ∀ m e S, P m e S → Ret (c e S) fun b S1 => if b = true then Run (body e S1) fun f e2 S2 => match f with
      | .nx => ∃ m', m' < m ∧ P m' e2 S2
      | .brk => R .nx e2 S2
      | .rt d => R (.rt d) e2 S2 else R .nx e S1) :
    ∀ (n m : Nat) (e : Env) (S : Sto), m < n → P m e S → Run (whL c body n e S) R
  | 0, m, e, S, hm, h => by omega
  | n + 1, m, e, S, hm, h => by
    obtain ⟨b, S1, q1, h1⟩ := (hs m e S h).get
    simp only [whL, q1]
    cases b with
    | false => simpa using h1
    | true =>
      simp only [if_true] at h1
      obtain ⟨f, e2, S2, q2, h2⟩ := h1.get
      simp only [q2]
      cases f with
      | nx =>
        obtain ⟨m', hm', h3⟩ := h2
        exact wh_inv P hs n m' e2 S2 (by omega) h3
      | brk => exact h2
      | rt d => exact h2
/-! ### what is walked -/
theorem enumV_map (f : α → D) (xs : List α) : enumV (xs.map f) = xs.zipIdx.map fun p => .tup [.int (p.2 : Nat), f p.1] := by
  unfold enumV
  rw [List.zipIdx_map, List.map_map]; rfl
theorem zipV_map (f : α → D) (g : β → D) (xs : List α) (ys : List β) : zipV (xs.map f) (ys.map g) = (xs.zip ys).map fun p => .tup [f p.1, g p.2] := by
  unfold zipV
  rw [List.zip_map, List.map_map]; rfl
@[simp] theorem guard_nil (S : Sto) : guardOk S [] = true := rfl
theorem rng_ok {n : Nat} (h : n ≤ 16777216) : rngI [.int n] = some ((List.range n).map fun k : Nat => .int k) := by
  have hl : (line : Nat) = 16777216 := rfl
  have e1 : decide ((-1000000000 : Int) ≤ n) = true := decide_eq_true (by omega)
  have e2 : decide ((n : Int) ≤ (line : Nat)) = true := decide_eq_true (by omega)
  simp only [rngI]
  rw [e1, e2]
  simp only [Bool.and_self, if_true, rngV]
  simp
theorem rng_neg {n : Int} (h : n ≤ 0) (h2 : -1000000000 ≤ n) : rngI [.int n] = some [] := by
  have hl : (line : Nat) = 16777216 := rfl
  have e1 : decide ((-1000000000 : Int) ≤ n) = true := decide_eq_true h2
  have e2 : decide ((n : Int) ≤ (line : Nat)) = true := decide_eq_true (by omega)
  simp only [rngI]
  rw [e1, e2]
  simp only [Bool.and_self, if_true, rngV]
  simp
  omega
theorem ixN_ok {n i : Nat} (h : i < n) : ixN n (i : Int) = some i := by
  unfold ixN
  rw [if_pos (by omega), if_pos (by omega)]; simp
theorem ixN_last {n : Nat} (h : 0 < n) : ixN n (-1) = some (n - 1) := by
  unfold ixN
  rw [if_neg (by omega), if_pos (by omega)]; congr 1; omega
mutual
theorem flat_shift (n : Nat) : ∀ d : D, d.flat = true → D.shift n d = d
  | .non, _ => rfl
  | .bl _, _ => rfl
  | .int _, _ => rfl
  | .str _, _ => rfl
  | .tup xs, h => by simp only [D.shift]; rw [flats_shift n xs h]
  | .lst _, h => by cases h
  | .ref _, h => by cases h
  | .rep _, h => by cases h
theorem flats_shift (n : Nat) : ∀ ds : List D, D.flats ds = true → D.shifts n ds = ds
  | [], _ => rfl
  | x :: xs, h => by
    have h := Bool.and_eq_true_iff.mp (show (D.flat x && D.flats xs) = true from h)
    simp only [D.shifts]
    rw [flat_shift n x h.1, flats_shift n xs h.2]
end
/-- a call with things that refer to nothing -/
theorem call_free {f : Fn} {ds : List D} {Q : D → Sto → Prop} (hd : D.los 0 ds = true) (h : Ret (f ds []) fun d T => (D.lo 0 d = true → Q d S) ∧ (D.lo 0 d = false → Q (D.shift S.length d) (S ++ T.map (O.shift S.length)))) : Ret (callI f ds S) Q := by
  obtain ⟨d, T, e1, h1, h2⟩ := h.get
  unfold callI
  rw [if_pos hd, e1]
  simp only
  cases hl : D.lo 0 d with
  | true => simp only [if_true]; exact h1 hl
  | false => simp only [Bool.false_eq_true, if_false]; exact h2 hl
theorem shift_at {S T : Sto} {k : Nat} {xs : List D} (h : T[k]? = some (.lst xs)) (hf : D.flats xs = true) : (S ++ T.map (O.shift S.length))[k + S.length]? = some (.lst xs) := by
  rw [List.getElem?_append_right (by omega), show k + S.length - S.length = k by omega, List.getElem?_map, h]
  show some (O.lst (D.shifts S.length xs)) = _
  rw [flats_shift _ _ hf]
/-- a call that gives a flat thing, whatever the store -/
theorem call_flat {f : Fn} {ds : List D} {d : D} {Q : D → Sto → Prop} (hd : D.flats ds = true) (hf : d.flat = true) (h : Ret (f ds []) fun z _ => z = d) (k : Q d S) : Ret (callI f ds S) Q :=
  call_free (flats_lo 0 _ hd) (h.imp fun z T e => by
    subst e
    exact ⟨fun _ => k, fun q => by rw [flat_lo 0 _ hf] at q; cases q⟩)
theorem ret_of {α : Type} {r : Option (α × Sto)} {a : α} (h : Ret r fun z _ => z = a) : ∃ T, r = some (a, T) := by
  obtain ⟨z, T, e, rfl⟩ := h.get
  exact ⟨T, e⟩
@[simp] theorem rd_int (S : Sto) (n : Nat) (i : Int) : rd n S (.int i) = some (.int i) := by cases n <;> rfl
theorem rd_row (S : Sto) (r : List Int) : rd RD S (row r) = some (row r) := flat_rd S _ _ (flat_row r) (Nat.le_trans (deep_row r) (by decide))
theorem rd_rows (S : Sto) (rs : List (List Int)) : rd RD S (rows rs) = some (rows rs) := flat_rd S _ _ (flat_rows rs) (Nat.le_trans (deep_rows rs) (by decide))
theorem intsD_map : ∀ r : List Int, intsD (r.map .int) = some r
  | [] => rfl
  | x :: xs => by simp only [List.map_cons, intsD]; rw [intsD_map xs]; rfl
theorem boolsD_map : ∀ r : List Bool, boolsD (r.map .bl) = some r
  | [] => rfl
  | x :: xs => by simp only [List.map_cons, boolsD]; rw [boolsD_map xs]; rfl
theorem any_int (x : Int) : ∀ r : List Int, ((r.map D.int).any fun y => D.pyeq y (.int x)) = decide (x ∈ r)
  | [] => by simp
  | y :: ys => by
    rw [List.map_cons, List.any_cons, any_int x ys]
    simp only [D.pyeq, List.mem_cons]
    by_cases h : y = x
    · simp [h]
    · have : x ≠ y := fun e => h e.symm
      simp [h, this]
theorem in_row (S : Sto) (x : Int) (r : List Int) : inI S (.int x) (row r) = some (decide (x ∈ r)) := by
  show (match rd RD S (row r), rd RD S (.int x) with
    | some (.tup ts), some t => if D.okSs ts && D.okS t then some (ts.any fun y => D.pyeq y t) else none
    | _, _ => none) = _
  rw [rd_row, rd_int]
  have h : D.okSs (r.map .int) = true := okS_row r
  simp only [h, D.okS, Bool.and_self, if_true, any_int]
mutual
theorem pyeq_self : ∀ d : D, d.flat = true → D.pyeq d d = true
  | .non, _ => rfl
  | .bl _, _ => by simp [D.pyeq]
  | .int _, _ => by simp [D.pyeq]
  | .str _, _ => by simp [D.pyeq]
  | .tup xs, h => pyeqs_self xs h
  | .lst _, h => by cases h
  | .ref _, h => by cases h
  | .rep _, h => by cases h
theorem pyeqs_self : ∀ ds : List D, D.flats ds = true → D.pyeqs ds ds = true
  | [], _ => rfl
  | x :: xs, h => by
    have h := Bool.and_eq_true_iff.mp (show (D.flat x && D.flats xs) = true from h)
    show (D.pyeq x x && D.pyeqs xs xs) = true
    rw [pyeq_self x h.1, pyeqs_self xs h.2]; rfl
end
theorem pyeqs_ints : ∀ a b : List Int, D.pyeqs (a.map .int) (b.map .int) = decide (a = b)
  | [], [] => by simp [D.pyeqs]
  | [], _ :: _ => by simp [D.pyeqs]
  | _ :: _, [] => by simp [D.pyeqs]
  | x :: xs, y :: ys => by
    simp only [List.map_cons, D.pyeqs, D.pyeq]
    rw [pyeqs_ints xs ys]
    by_cases h : x = y <;> by_cases h2 : xs = ys <;> simp [h, h2]
theorem eq_row (S : Sto) (a b : List Int) : eqV S (row a) (row b) = some (decide (a = b)) := by
  show (match rd RD S (row a), rd RD S (row b) with
    | some x, some y => if D.okS x && D.okS y then some (D.pyeq x y) else none
    | _, _ => none) = _
  rw [rd_row, rd_row]
  have h1 : D.okS (row a) = true := okS_row a
  have h2 : D.okS (row b) = true := okS_row b
  simp only [h1, h2, Bool.and_self, if_true]
  show some (D.pyeqs (a.map .int) (b.map .int)) = _
  rw [pyeqs_ints]
end
end N
set_option autoImplicit false
set_option linter.all false
set_option maxRecDepth 100000
namespace N
section
variable {α β : Type} {S T : Sto} {e : Env} {d : D}
theorem okS_strs : ∀ {ws : List (List Nat)}, ws.all okStr = true → D.okSs (ws.map .str) = true
  | [], _ => rfl
  | w :: ws, h => by
    have h := Bool.and_eq_true_iff.mp (show (okStr w && ws.all okStr) = true from h)
    show (okStr w && D.okSs (ws.map .str)) = true
    rw [h.1, okS_strs h.2]; rfl
theorem any_str (x : List Nat) : ∀ ws : List (List Nat), ((ws.map D.str).any fun y => D.pyeq y (.str x)) = decide (x ∈ ws)
  | [] => by simp
  | y :: ys => by
    rw [List.map_cons, List.any_cons, any_str x ys]
    simp only [D.pyeq, List.mem_cons]
    by_cases h : y = x
    · simp [h]
    · have : x ≠ y := fun e => h e.symm
      simp [h, this]
theorem in_strs (S : Sto) (x : List Nat) (ws : List (List Nat)) (h : okStr x = true) (hs : ws.all okStr = true) : inI S (.str x) (.tup (ws.map .str)) = some (decide (x ∈ ws)) := by
  have hf : D.flats (ws.map D.str) = true := flats_map _ _ fun _ => rfl
  have hd : (D.tup (ws.map D.str)).deep ≤ RD := by
    simp only [D.deep]
    have : D.deeps (ws.map D.str) ≤ 0 := deeps_map _ _ fun _ => Nat.le_refl 0
    have hr : RD = 60 := rfl
    omega
  have e1 : rd RD S (.tup (ws.map D.str)) = some (.tup (ws.map D.str)) := flat_rd S _ _ hf hd
  have e2 : rd RD S (.str x) = some (.str x) := rfl
  show (match rd RD S (.tup (ws.map D.str)), rd RD S (.str x) with
    | some (.tup ts), some t => if D.okSs ts && D.okS t then some (ts.any fun y => D.pyeq y t) else none
    | _, _ => none) = _
  rw [e1, e2]
  have h2 : D.okS (.str x) = true := h
  simp only [okS_strs hs, h2, Bool.and_self, if_true, any_str]
/-- a row, a place in it -/
theorem idx_row (S : Sto) {r : List Int} {i : Nat} (h : i < r.length) : idxI S (row r) (.int (i : Nat)) = some (.int (r.getD i 0)) := by
  show (ixN (r.map D.int).length (i : Int)).bind (fun j => (r.map D.int)[j]?) = _
  rw [ixN_ok (by simpa using h)]
  simp [List.getD_eq_getElem?_getD, List.getElem?_eq_getElem h]
theorem idx_tup (S : Sto) {f : α → D} {r : List α} {i : Nat} {x : α} (h : r[i]? = some x) : idxI S (.tup (r.map f)) (.int (i : Nat)) = some (f x) := by
  have hi := (List.getElem?_eq_some_iff.mp h).1
  show (ixN (r.map f).length (i : Int)).bind (fun j => (r.map f)[j]?) = _
  rw [ixN_ok (by simpa using hi)]
  simp [h]
theorem idx_last (S : Sto) {f : α → D} {r : List α} {x : α} (h : r.getLast? = some x) : idxI S (.tup (r.map f)) (.int (-1)) = some (f x) := by
  have hp : 0 < r.length := by
    cases r with
    | nil => cases h
    | cons a as => simp
  show (ixN (r.map f).length (-1)).bind (fun j => (r.map f)[j]?) = _
  rw [ixN_last (by simpa using hp)]
  simp only [List.length_map, Option.bind_some, List.getElem?_map]
  rw [List.getLast?_eq_getElem?] at h
  rw [h]; rfl
theorem idx_lst (S : Sto) {n : Nat} {xs : List D} {i : Nat} {x : D} (h : S[n]? = some (.lst xs)) (hx : xs[i]? = some x) : idxI S (.ref n) (.int (i : Nat)) = some x := by
  have hi := (List.getElem?_eq_some_iff.mp hx).1
  simp only [idxI, h]
  rw [ixN_ok hi]
  exact hx
/-! ### what things are -/
@[simp] theorem tru_bl (b : Bool) : tru S (.bl b) = some b := rfl
@[simp] theorem tru_int (i : Int) : tru S (.int i) = some (decide (i ≠ 0)) := rfl
@[simp] theorem tru_non : tru S .non = some false := rfl
@[simp] theorem eq_int (i j : Int) : eqV S (.int i) (.int j) = some (decide (i = j)) := rfl
@[simp] theorem eq_str (i j : List Nat) : eqV S (.str i) (.str j) = some (decide (i = j)) := rfl
@[simp] theorem eq_bl (i j : Bool) : eqV S (.bl i) (.bl j) = some (decide (i = j)) := rfl
@[simp] theorem cmp_eq (x y : D) : cmpI S .eq x y = eqV S x y := rfl
@[simp] theorem cmp_ne (x y : D) : cmpI S .ne x y = (eqV S x y).map (!·) := rfl
@[simp] theorem cmp_in (x y : D) : cmpI S .inn x y = inI S x y := rfl
@[simp] theorem cmp_nin (x y : D) : cmpI S .nin x y = (inI S x y).map (!·) := rfl
@[simp] theorem cmp_lt (i j : Int) : cmpI S .lt (.int i) (.int j) = some (decide (i < j)) := rfl
@[simp] theorem cmp_le (i j : Int) : cmpI S .le (.int i) (.int j) = some (decide (i ≤ j)) := rfl
@[simp] theorem cmp_gt (i j : Int) : cmpI S .gt (.int i) (.int j) = some (decide (j < i)) := rfl
@[simp] theorem cmp_ge (i j : Int) : cmpI S .ge (.int i) (.int j) = some (decide (j ≤ i)) := rfl
theorem cmp_is (x : D) : cmpI S .is x .non = some (decide (x = .non)) := by cases x <;> rfl
theorem cmp_isnt (x : D) : cmpI S .isnt x .non = some (!decide (x = .non)) := by cases x <;> rfl
@[simp] theorem cmp_isb (x y : Bool) : cmpI S .is (.bl x) (.bl y) = some (decide (x = y)) := by simp [cmpI]
@[simp] theorem cmp_isntb (x y : Bool) : cmpI S .isnt (.bl x) (.bl y) = some (!decide (x = y)) := by simp [cmpI]
@[simp] theorem b_add (i j : Int) : binI S .add (.int i) (.int j) = some (.int (i + j), S) := rfl
@[simp] theorem b_sub (i j : Int) : binI S .sub (.int i) (.int j) = some (.int (i - j), S) := rfl
@[simp] theorem b_mul (i j : Int) : binI S .mul (.int i) (.int j) = if mulOk i j then some (.int (i * j), S) else none := rfl
@[simp] theorem b_fdiv (i j : Int) : binI S .fdiv (.int i) (.int j) = if divOk j then some (.int (i / j), S) else none := rfl
@[simp] theorem b_mod (i j : Int) : binI S .mod (.int i) (.int j) = if decide (0 < j) then some (.int (i % j), S) else none := rfl
@[simp] theorem b_tadd (x y : List D) : binI S .add (.tup x) (.tup y) = if x.length + y.length ≤ line then some (.tup (x ++ y), S) else none := rfl
@[simp] theorem bl_len (ds : List D) : bltI S .len ds = lenI S ds := rfl
@[simp] theorem bl_abs (ds : List D) : bltI S .abs ds = absI S ds := rfl
@[simp] theorem bl_all (ds : List D) : bltI S .all ds = allB S ds := rfl
@[simp] theorem bl_int (ds : List D) : bltI S .int ds = intB S ds := rfl
@[simp] theorem bl_tuple (ds : List D) : bltI S .tuple ds = tupB S ds := rfl
@[simp] theorem bl_list (ds : List D) : bltI S .list ds = lstB S ds := rfl
@[simp] theorem bl_sorted (ds : List D) : bltI S .sorted ds = srtB S ds := rfl
@[simp] theorem bl_repr (ds : List D) : bltI S .repr ds = repB S ds := rfl
@[simp] theorem bl_sum (ds : List D) : bltI S .sum ds = sumB S ds := rfl
@[simp] theorem bl_isi (t : Ty) (ds : List D) : bltI S (.isi t) ds = isiB S t ds := rfl
@[simp] theorem bl_ftuple (ds : List D) : bltI S .ftuple ds = ftpB S ds := rfl
@[simp] theorem len_tup (xs : List D) : lenI S [.tup xs] = some (.int xs.length, S) := rfl
theorem len_lst {n : Nat} {xs : List D} (h : S[n]? = some (.lst xs)) : lenI S [.ref n] = some (.int xs.length, S) := by simp only [lenI, h]
@[simp] theorem abs_int (i : Int) : absI S [.int i] = some (.int (if i < 0 then -i else i), S) := rfl
@[simp] theorem intB_int (i : Int) : intB S [.int i] = some (.int i, S) := rfl
@[simp] theorem intB_bl (b : Bool) : intB S [.bl b] = some (.int (if b then 1 else 0), S) := rfl
@[simp] theorem walk_tup (xs : List D) : walkV (.tup xs) S = some (xs, []) := rfl
@[simp] theorem enum_tup (xs : List D) : enumI (.tup xs) S = some (enumV xs, []) := rfl
@[simp] theorem zip_tup (xs ys : List D) : zipI (.tup xs) (.tup ys) S = some (zipV xs ys, []) := rfl
@[simp] theorem items_tup (xs : List D) : itemsI S (.tup xs) = some xs := rfl
theorem items_lst {n : Nat} {xs : List D} (h : S[n]? = some (.lst xs)) : itemsI S (.ref n) = some xs := by simp only [itemsI, h]
theorem walk_lst {n : Nat} {xs : List D} (h : S[n]? = some (.lst xs)) : walkV (.ref n) S = some (xs, [(n, .lst xs)]) := by simp only [walkV, rowV, h]
theorem guard_one' {n : Nat} {o : O} (h : S[n]? = some o) : guardOk S [(n, o)] = true := by simp [guardOk, h]
theorem set_row (S : Sto) (r : List Int) (h : r.length ≤ 4000) : setlenI S (row r) = some (nub r).length := by
  simp only [setlenI, items_tup, intsD_map, h, decide_true, if_true]
theorem nub_le {α : Type} [DecidableEq α] : ∀ xs : List α, (nub xs).length ≤ xs.length
  | [] => Nat.le_refl _
  | x :: xs => by
    have := nub_le xs
    unfold nub
    split
    · simp only [List.length_cons]; omega
    · simp only [List.length_cons]; omega
theorem rd_lst {n m : Nat} {xs : List D} (h : S[n]? = some (.lst xs)) (hf : D.flats xs = true) (hd : D.deeps xs ≤ m) : rd (m + 1) S (.ref n) = some (.lst xs) := by
  simp only [rd, h]
  rw [flats_rd S xs m hf hd]; rfl
theorem eq_lst {n m : Nat} {xs ys : List D} (h : S[n]? = some (.lst xs)) (h2 : S[m]? = some (.lst ys)) (hf : D.flats xs = true) (hf2 : D.flats ys = true) (hd : D.deeps xs ≤ 59) (hd2 : D.deeps ys ≤ 59) (o : D.okSs xs = true) (o2 : D.okSs ys = true) :
    eqV S (.ref n) (.ref m) = some (D.pyeqs xs ys) := by
  show (match rd RD S (.ref n), rd RD S (.ref m) with
    | some x, some y => if D.okS x && D.okS y then some (D.pyeq x y) else none
    | _, _ => none) = _
  rw [rd_lst h hf hd, rd_lst h2 hf2 hd2]
  have a1 : D.okS (.lst xs) = true := o
  have a2 : D.okS (.lst ys) = true := o2
  simp only [a1, a2, Bool.and_self, if_true]
  rfl
theorem okSs_ints (r : List Int) : D.okSs (r.map .int) = true := okS_row r
/-- xs == [], ints -/
theorem eq_nil {n m : Nat} {r : List Int} (h : S[n]? = some (.lst (r.map .int))) (h2 : S[m]? = some (.lst [])) : eqV S (.ref n) (.ref m) = some r.isEmpty := by
  rw [eq_lst h h2 (flats_map _ _ fun _ => rfl) rfl (Nat.le_trans (deeps_map (n := 0) _ _ fun _ => Nat.le_refl 0) (by decide)) (by decide) (okSs_ints r) rfl]
  cases r <;> rfl
theorem pyeqs_rows : ∀ a b : List (List Int), D.pyeqs (a.map row) (b.map row) = decide (a = b)
  | [], [] => by simp [D.pyeqs]
  | [], _ :: _ => by simp [D.pyeqs]
  | _ :: _, [] => by simp [D.pyeqs]
  | x :: xs, y :: ys => by
    simp only [List.map_cons, D.pyeqs]
    rw [pyeqs_rows xs ys]
    show (D.pyeqs (x.map .int) (y.map .int) && _) = _
    rw [pyeqs_ints]
    by_cases h : x = y <;> by_cases h2 : xs = ys <;> simp [h, h2]
theorem eq_rows (S : Sto) (a b : List (List Int)) : eqV S (rows a) (rows b) = some (decide (a = b)) := by
  show (match rd RD S (rows a), rd RD S (rows b) with
    | some x, some y => if D.okS x && D.okS y then some (D.pyeq x y) else none
    | _, _ => none) = _
  rw [rd_rows, rd_rows]
  have h1 : D.okS (rows a) = true := okS_rows a
  have h2 : D.okS (rows b) = true := okS_rows b
  simp only [h1, h2, Bool.and_self, if_true]
  show some (D.pyeqs (a.map row) (b.map row)) = _
  rw [pyeqs_rows]
theorem in_two (S : Sto) {x y z : List Nat} (h : (okStr x && (okStr y && okStr z)) = true) : inI S (.str x) (.tup [.str y, .str z]) = some (decide (x = y ∨ x = z)) := by
  obtain ⟨h1, h2⟩ := Bool.and_eq_true_iff.mp h
  obtain ⟨h2, h3⟩ := Bool.and_eq_true_iff.mp h2
  have := in_strs S x [y, z] h1 (by simp [h2, h3])
  simpa using this
theorem zipIdx_eq {a : List Int} : a.zipIdx = (List.range a.length).map fun k => (a.getD k 0, k) := by
  apply List.ext_getElem
  · simp
  · intro i h1 h2
    have hi : i < a.length := by simpa using h1
    simp [List.getD_eq_getElem?_getD, List.getElem?_eq_getElem hi]
/-- a loop that leads a state on; the first number says how many turns are done, of m -/
theorem for_fold {γ : Type} {bind : D → Env → Sto → Option (Env × Sto)} {body : Env → Sto → RS} {g : List (Nat × O)} (m : Nat) (st : Nat → γ → Env → Sto → Prop) (inj : β → D) (f : γ → β → γ) (hg : ∀ i s e S, st i s e S → guardOk S g = true) :
    ∀ (ys : List β) (i : Nat), i + ys.length = m → (∀ y ∈ ys, ∀ i s e S, i < m → st i s e S → Ret (bind (inj y) e S) fun e1 S1 => Run (body e1 S1) fun fl e2 S2 => fl = .nx ∧ st (i + 1) (f s y) e2 S2) →
    ∀ s e S, st i s e S → Run (forL bind body g (ys.map inj) e S) fun fl e2 S2 => fl = .nx ∧ st m (ys.foldl f s) e2 S2
  | [], i, hm, _, s, e, S, h => by
    have : i = m := by simpa using hm
    subst this
    simp [forL, hg i s e S h, h]
  | y :: ys, i, hm, hs, s, e, S, h => by
    have hm : i + (ys.length + 1) = m := hm
    obtain ⟨e1, S1, q1, h1⟩ := (hs y (by simp) i s e S (by omega) h).get
    obtain ⟨fl, e2, S2, q2, rfl, h2⟩ := h1.get
    rw [List.map_cons]
    simp only [forL, hg i s e S h, if_true, q1, q2]
    exact for_fold m st inj f hg ys (i + 1) (by omega) (fun z hz => hs z (by simp [hz])) (f s y) e2 S2 h2
/-- a call that gives a new list of flat things -/
theorem call_list {f : Fn} {ds xs : List D} {Q : D → Sto → Prop} (hd : D.los 0 ds = true) (hx : D.flats xs = true) (h : Ret (f ds []) fun d T => ∃ k, d = .ref k ∧ T[k]? = some (.lst xs)) (k : ∀ T k, Ext S T → T[k]? = some (.lst xs) → Q (.ref k) T) : Ret (callI f ds S) Q :=
  call_free hd (h.imp fun d T ⟨n, e, ht⟩ => by
    subst e
    refine ⟨fun q => by simp [D.lo] at q, fun _ => ?_⟩
    exact k _ _ (Ext.app _ _) (shift_at ht hx))
/-- S' is S but for what stands at ws -/
def Keep (ws : List Nat) (S S' : Sto) : Prop := S.length ≤ S'.length ∧ ∀ n, n ∉ ws → n < S.length → S'[n]? = S[n]?
theorem Keep.refl (ws : List Nat) (S : Sto) : Keep ws S S := ⟨Nat.le_refl _, fun _ _ _ => rfl⟩
theorem Keep.trans {ws : List Nat} {S T U : Sto} (a : Keep ws S T) (b : Keep ws T U) : Keep ws S U := ⟨Nat.le_trans a.1 b.1, fun n h hl => (b.2 n h (Nat.lt_of_lt_of_le hl a.1)).trans (a.2 n h hl)⟩
theorem Keep.at {ws : List Nat} {S T : Sto} {n : Nat} {o : O} (a : Keep ws S T) (h : S[n]? = some o) (hn : n ∉ ws) : T[n]? = some o := by
  rw [a.2 n hn (List.getElem?_eq_some_iff.mp h).1]; exact h
theorem Keep.ext {ws : List Nat} {S T : Sto} (a : Ext S T) : Keep ws S T := by
  obtain ⟨U, rfl⟩ := a
  exact ⟨by simp, fun n _ hl => List.getElem?_append_left hl⟩
theorem Keep.set {ws : List Nat} {S : Sto} {n : Nat} {o : O} (h : n ∈ ws) : Keep ws S (S.set n o) := ⟨by simp, fun m hm _ => List.getElem?_set_ne (fun e => hm (by rw [← e]; exact h))⟩
theorem Keep.take {ws : List Nat} {S T : Sto} (a : Keep ws S T) : Keep ws S (T.take S.length) := ⟨by rw [List.length_take]; have := a.1; omega, fun n h hl => by rw [List.getElem?_take_of_lt hl]; exact a.2 n h hl⟩
/-- a call that is handed references -/
theorem call_ref {f : Fn} {ds : List D} {Q : D → Sto → Prop} (hd : D.los 0 ds = false) (h : Ret (f ds S) fun d T => Q d T ∧ (D.lo S.length d = true → Q d (T.take S.length))) : Ret (callI f ds S) Q := by
  obtain ⟨d, T, e1, h1, h2⟩ := h.get
  unfold callI
  rw [if_neg (by simp [hd]), e1]
  simp only
  split
  · rename_i c
    exact h2 (Bool.and_eq_true_iff.mp c).1
  · exact h1
theorem app_lst {n : Nat} {xs : List D} {x : D} (h : S[n]? = some (.lst xs)) (hl : xs.length < 16777216) : methI S .append (.ref n) [x] = some (.non, S.set n (.lst (xs ++ [x]))) := by
  have hz : (line : Nat) = 16777216 := rfl
  simp only [methI, appM, h]
  rw [if_pos (by rw [decide_eq_true_eq]; omega)]
theorem methT_lst {n : Nat} {xs : List D} {m : Mth} (h : S[n]? = some (.lst xs)) (hm : m ≠ .get ∧ m ≠ .tcount ∧ m ≠ .tindex) : methT S m (.ref n) = true := by
  simp only [methT, h]
  exact decide_eq_true hm
theorem set_at {S : Sto} {n : Nat} {o u : O} (h : S[n]? = some o) : (S.set n u)[n]? = some u := List.getElem?_set_self (List.getElem?_eq_some_iff.mp h).1
theorem sl_rev (xs : List D) : slcI S (.tup xs) .non .non (.int (-1)) = some (.tup xs.reverse, S) := by simp [slcI, optI, slc]
theorem sl_from (xs : List D) {i : Int} (h : 0 ≤ i) : slcI S (.tup xs) (.int i) .non .non = some (.tup (xs.drop (min i.toNat xs.length)), S) := by
  simp only [slcI, optI, slc, cut, sIx]
  rw [if_neg (by omega)]
  congr 3
  rw [List.take_of_length_le (by simp)]
theorem sl_to (xs : List D) {i : Int} (h : 0 ≤ i) : slcI S (.tup xs) .non (.int i) .non = some (.tup (xs.take (min i.toNat xs.length)), S) := by
  simp only [slcI, optI, slc, cut, sIx]
  rw [if_neg (by omega)]
  simp
theorem sl_lrev {n : Nat} {xs : List D} (h : S[n]? = some (.lst xs)) : slcI S (.ref n) .non .non (.int (-1)) = some (.ref S.length, S ++ [.lst xs.reverse]) := by simp [slcI, optI, slc, h, new]
theorem divOk_nat {n : Nat} (h : 0 < n) (h2 : n < 18446744073709551616) : divOk (n : Int) = true := by
  unfold divOk
  have : (n : Int).natAbs = n := by simp
  rw [this]
  have h3 : n.log2 < 64 := (Nat.log2_lt (by omega)).mpr h2
  have h3 : n.log2 < 9000 := by omega
  simp [h3]
  omega
theorem mulOk_l {i j : Int} (h : i.natAbs < 18446744073709551616) : mulOk i j = true := by simp [mulOk, h]
theorem mulOk_r {i j : Int} (h : j.natAbs < 18446744073709551616) : mulOk i j = true := by simp [mulOk, h]
theorem zipL {m n : Nat} {xs ys : List D} (h : S[m]? = some (.lst xs)) (h2 : S[n]? = some (.lst ys)) : zipI (.ref m) (.ref n) S = some (zipV xs ys, [(m, .lst xs)] ++ [(n, .lst ys)]) := by simp only [zipI, rowV, h, h2]
theorem guard_two {m n : Nat} {o u : O} (h : S[m]? = some o) (h2 : S[n]? = some u) : guardOk S ([(m, o)] ++ [(n, u)]) = true := by simp [guardOk, h, h2]
theorem add_lst {m n : Nat} {xs ys : List D} (h : S[m]? = some (.lst xs)) (h2 : S[n]? = some (.lst ys)) (hl : xs.length + ys.length ≤ 16777216) : binI S .add (.ref m) (.ref n) = some (.ref S.length, S ++ [.lst (xs ++ ys)]) := by
  have hz : (line : Nat) = 16777216 := rfl
  simp only [binI, h, h2, new]
  rw [if_pos (by omega)]
theorem tup_lst {n : Nat} {xs : List D} (h : S[n]? = some (.lst xs)) : tupB S [.ref n] = some (.tup xs, S) := by simp [tupB, items_lst h]
theorem pop_last {n : Nat} {xs : List D} {x : D} (h : S[n]? = some (.lst (xs ++ [x]))) : methI S .pop (.ref n) [] = some (x, S.set n (.lst xs)) := by
  simp [methI, popM, h]
theorem pop_ix {n j : Nat} {xs : List D} {x : D} (h : S[n]? = some (.lst xs)) (hx : xs[j]? = some x) : methI S .pop (.ref n) [.int (j : Nat)] = some (x, S.set n (.lst (xs.eraseIdx j))) := by
  have hj := (List.getElem?_eq_some_iff.mp hx).1
  simp only [methI, popM, h]
  rw [ixN_ok hj]
  simp only [hx]
theorem set_lst {n j : Nat} {xs : List D} {v : D} (h : S[n]? = some (.lst xs)) (hj : j < xs.length) : setI S (.ref n) (.int (j : Nat)) v = some (S.set n (.lst (xs.set j v))) := by
  simp only [setI, h]
  rw [ixN_ok hj]; rfl
@[simp] theorem b_pow (i j : Int) : binI S .pow (.int i) (.int j) = if powOk i j then some (.int (i ^ j.toNat), S) else none := rfl
theorem snoc {α : Type} (xs : List α) : xs = [] ∨ ∃ ys y, xs = ys ++ [y] := by
  rcases List.eq_nil_or_concat xs with h | ⟨ys, y, h⟩
  · exact .inl h
  · exact .inr ⟨ys, y, by simpa using h⟩
theorem at_ne {S : Sto} {n m : Nat} {o u : O} (h : S[n]? = some o) (hn : m ≠ n) : (S.set m u)[n]? = some o := by rw [List.getElem?_set_ne hn]; exact h
theorem ints_inj : ∀ {xs ys : List Int}, xs.map D.int = ys.map D.int → xs = ys
  | [], [], _ => rfl
  | [], _ :: _, h => by simp at h
  | _ :: _, [], h => by simp at h
  | x :: xs, y :: ys, h => by
    simp only [List.map_cons, List.cons.injEq, D.int.injEq] at h
    rw [h.1, ints_inj h.2]
theorem eraseIdx_map' (f : α → β) : ∀ (xs : List α) (j : Nat), (xs.map f).eraseIdx j = (xs.eraseIdx j).map f
  | [], _ => by simp
  | x :: xs, 0 => by simp
  | x :: xs, j + 1 => by simp [eraseIdx_map' f xs j]
/-! ### dicts whose keys are rows -/
theorem eqvs_ints : ∀ a b : List Int, D.eqvs (a.map .int) (b.map .int) = decide (a = b)
  | [], [] => by simp [D.eqvs]
  | [], _ :: _ => by simp [D.eqvs]
  | _ :: _, [] => by simp [D.eqvs]
  | x :: xs, y :: ys => by
    simp only [List.map_cons, D.eqvs, D.eqv]
    rw [eqvs_ints xs ys]
    by_cases h : x = y <;> by_cases h2 : xs = ys <;> simp [h, h2]
theorem eqv_row (a b : List Int) : D.eqv (row a) (row b) = decide (a = b) := eqvs_ints a b
theorem row_inj {a b : List Int} (h : row a = row b) : a = b := ints_inj (D.tup.inj h)
theorem keyT_row (r : List Int) : keyT (row r) = true := by
  show (r.map D.int).all keyK = true
  rw [List.all_map]
  simp [keyK]
theorem keysOk_rows (ps : List (List Int × D)) (x : List Int) : keysOk (ps.map fun p => (row p.1, p.2)) (row x) = true := by
  cases ps with
  | nil =>
    show (keyK (row x) || keyT (row x)) = true
    rw [keyT_row]; simp
  | cons p ps =>
    show ((keyK (row p.1) && keyK (row x)) || (keyT (row p.1) && keyT (row x))) = true
    rw [keyT_row, keyT_row]; simp
theorem dget_rows (x : List Int) : ∀ ps : List (List Int × D), dget (ps.map fun p => (row p.1, p.2)) (row x) = (ps.find? fun p => decide (p.1 = x)).map (·.2)
  | [] => rfl
  | p :: ps => by
    have ih := dget_rows x ps
    unfold dget at ih ⊢
    rw [List.map_cons, List.find?_cons, List.find?_cons, eqv_row]
    cases hd : decide (p.1 = x) with
    | true => rfl
    | false => exact ih
theorem dput_rows (x : List Int) (v : D) (ps : List (List Int × D)) (h : ∀ p ∈ ps, p.1 ≠ x) : dput (ps.map fun p => (row p.1, p.2)) (row x) v = (ps ++ [(x, v)]).map fun p => (row p.1, p.2) := by
  unfold dput
  have : ((ps.map fun p => (row p.1, p.2)).any fun p => D.eqv p.1 (row x)) = false := by
    rw [List.any_map, List.any_eq_false]
    intro p hp
    simp only [Function.comp_apply, eqv_row, decide_eq_true_eq]
    exact h p hp
  rw [this]
  simp
theorem in_dct {n : Nat} {ps : List (List Int × D)} (h : S[n]? = some (.dct (ps.map fun p => (row p.1, p.2)))) (x : List Int) : inI S (row x) (.ref n) = some (ps.any fun p => decide (p.1 = x)) := by
  simp only [inI, h]
  rw [if_pos (keysOk_rows ps x), dget_rows]
  congr 1
  rw [Option.isSome_map, Bool.eq_iff_iff, List.find?_isSome, List.any_eq_true]
theorem get_dct {n : Nat} {ps : List (List Int × D)} (h : S[n]? = some (.dct (ps.map fun p => (row p.1, p.2)))) (x : List Int) : methI S .get (.ref n) [row x] = some ((((ps.find? fun p => decide (p.1 = x)).map (·.2)).getD .non), S) := by
  simp only [methI, getM, h]
  rw [if_pos (keysOk_rows ps x), dget_rows]
theorem set_dct {n : Nat} {ps : List (List Int × D)} (h : S[n]? = some (.dct (ps.map fun p => (row p.1, p.2)))) (x : List Int) (v : D) (hl : ps.length < 16777216) (hx : ∀ p ∈ ps, p.1 ≠ x) :
    setI S (.ref n) (row x) v = some (S.set n (.dct ((ps ++ [(x, v)]).map fun p => (row p.1, p.2)))) := by
  have hz : (line : Nat) = 16777216 := rfl
  simp only [setI, h]
  rw [keysOk_rows ps x, dput_rows x v ps hx]
  simp [hz, hl]
theorem methT_dct {n : Nat} {kvs : List (D × D)} (h : S[n]? = some (.dct kvs)) : methT S .get (.ref n) = true := by
  simp only [methT, h]; rfl
/-! ### texts of trees -/
theorem rep_ok {d t : D} (h : rd RD S d = some t) (h1 : D.okS t = true) (h2 : D.shw t = true) (h3 : D.bulk t ≤ 50000) : repB S [d] = some (.rep t, S) := by
  simp only [repB, h]
  rw [if_pos (by rw [h1, h2]; simpa using h3)]
@[simp] theorem eq_rep (t : D) : eqV S (.rep t) (.rep t) = some true := by
  have : D.eqv t t = true := (D.eqv_iff t t).mpr rfl
  simp only [eqV, this, if_true]
theorem shws_all : ∀ {ds : List D}, (∀ d ∈ ds, D.shw d = true) → D.shws ds = true
  | [], _ => rfl
  | x :: xs, h => by
    show (D.shw x && D.shws xs) = true
    rw [h x (by simp), shws_all fun d hd => h d (by simp [hd])]; rfl
theorem bulks_le {m : Nat} : ∀ {ds : List D}, (∀ d ∈ ds, D.bulk d ≤ m) → D.bulks ds ≤ ds.length * (m + 1)
  | [], _ => by simp [D.bulks]
  | x :: xs, h => by
    simp only [D.bulks, List.length_cons, Nat.succ_mul]
    have := h x (by simp)
    have := bulks_le (m := m) (ds := xs) fun d hd => h d (by simp [hd])
    omega
/-- ints that are short -/
def small (i : Int) : Prop := i.natAbs < 18446744073709551616
theorem shw_int {i : Int} (h : small i) : D.shw (.int i) = true := by
  show decide (i.natAbs.log2 < 320) = true
  by_cases z : i.natAbs = 0
  · rw [z]; decide
  · have := (Nat.log2_lt z).mpr (show i.natAbs < 2 ^ 64 from h)
    rw [decide_eq_true_eq]; omega
theorem shw_row {r : List Int} (h : ∀ x ∈ r, small x) : D.shw (row r) = true := shws_all fun d hd => by
  obtain ⟨x, hx, rfl⟩ := List.mem_map.mp hd
  exact shw_int (h x hx)
theorem shw_rows {rs : List (List Int)} (h : ∀ r ∈ rs, ∀ x ∈ r, small x) : D.shw (rows rs) = true := shws_all fun d hd => by
  obtain ⟨r, hr, rfl⟩ := List.mem_map.mp hd
  exact shw_row (h r hr)
theorem bulk_row (r : List Int) : D.bulk (row r) ≤ r.length := by
  show D.bulks (r.map .int) ≤ r.length
  have := bulks_le (m := 0) (ds := r.map D.int) fun d hd => by
    obtain ⟨x, hx, rfl⟩ := List.mem_map.mp hd
    exact Nat.le_refl 0
  simpa using this
theorem bulk_rows {rs : List (List Int)} {m : Nat} (h : ∀ r ∈ rs, r.length ≤ m) : D.bulk (rows rs) ≤ rs.length * (m + 1) := by
  show D.bulks (rs.map row) ≤ _
  have := bulks_le (m := m) (ds := rs.map row) fun d hd => by
    obtain ⟨r, hr, rfl⟩ := List.mem_map.mp hd
    exact Nat.le_trans (bulk_row r) (h r hr)
  simpa using this
/-- statement by statement -/
theorem step {s : St} {ss : List St} {e : Env} {R : Fl → Env → Sto → Prop} (P : Env → Sto → Prop) (h : Run (execS s e S) fun f e' S' => f = .nx ∧ P e' S') (k : ∀ e' S', P e' S' → Run (execSs ss e' S') R) : Run (execSs (s :: ss) e S) R := by
  rw [w_ss1]
  exact h.imp fun f e' S' ⟨h1, h2⟩ => by subst h1; exact k e' S' h2
/-- a loop over 0, 1, .. -/
theorem for_range {bind : D → Env → Sto → Option (Env × Sto)} {body : Env → Sto → RS} {g : List (Nat × O)} {R : Fl → Env → Sto → Prop} (m : Nat) (inj : Nat → D) (st : Nat → Env → Sto → Prop)
    (hs : ∀ i e S, i < m → st i e S → guardOk S g = true ∧ Ret (bind (inj i) e S) fun e1 S1 => Run (body e1 S1) fun f e2 S2 => f = .nx ∧ st (i + 1) e2 S2) (hd : ∀ e S, st m e S → guardOk S g = true ∧ R .nx e S) {e : Env} (h : st 0 e S) :
    Run (forL bind body g ((List.range m).map inj) e S) R := by
  refine for_inv (R := R) (fun xs e S => ∃ i, i ≤ m ∧ xs = ((List.range m).drop i).map inj ∧ st i e S) (fun x xs e S h => ?_) (fun e S h => ?_) _ _ _ ⟨0, Nat.zero_le _, rfl, h⟩
  · obtain ⟨i, hi, hx, h⟩ := h
    have hlt : i < m := by
      rcases Nat.lt_or_ge i m with q | q
      · exact q
      · rw [List.drop_eq_nil_of_le (by simpa using q)] at hx
        cases hx
    have hd : (List.range m).drop i = i :: (List.range m).drop (i + 1) := by
      rw [List.drop_eq_getElem_cons (by simpa using hlt)]
      simp
    rw [hd] at hx
    simp only [List.map_cons, List.cons.injEq] at hx
    obtain ⟨rfl, rfl⟩ := hx
    obtain ⟨h1, h2⟩ := hs i e S hlt h
    exact ⟨h1, h2.imp fun e1 S1 q => q.imp fun f e2 S2 ⟨z1, z2⟩ => by subst z1; exact ⟨i + 1, hlt, rfl, z2⟩⟩
  · obtain ⟨i, hi, hx, h⟩ := h
    have : i = m := by
      rcases Nat.lt_or_ge i m with q | q
      · rw [List.drop_eq_getElem_cons (by simpa using q)] at hx
        cases hx
      · omega
    subst this
    exact hd e S h
theorem enumV_range (m : Nat) (f : Nat → D) : enumV ((List.range m).map f) = (List.range m).map fun k => .tup [.int (k : Nat), f k] := by
  rw [enumV_map]
  apply List.ext_getElem
  · simp
  · intro i h1 h2
    simp
/-- the text of a list of flat things -/
theorem rep_lst {n : Nat} {xs : List D} (h : S[n]? = some (.lst xs)) (hf : D.flats xs = true) (hd : D.deeps xs ≤ 59) (o : D.okSs xs = true) (w : D.shws xs = true) (b : D.bulks xs ≤ 50000) : repB S [.ref n] = some (.rep (.lst xs), S) :=
  rep_ok (rd_lst (m := 59) h hf hd) o w b
theorem rep_flat {xs : List D} (hf : D.flats xs = true) (hd : D.deeps xs ≤ 59) (o : D.okSs xs = true) (w : D.shws xs = true) (b : D.bulks xs ≤ 50000) : repB S [.tup xs] = some (.rep (.tup xs), S) :=
  rep_ok (flat_rd S (.tup xs) RD hf (by simp only [D.deep]; have : RD = 60 := rfl; omega)) o w b
theorem okSs_rowsL (rs : List (List Int)) : D.okSs (rs.map row) = true := okS_rows rs
/-- a call that gives a new tuple known as an object -/
theorem call_ftp {f : Fn} {ds xs : List D} {Q : D → Sto → Prop} (hd : D.los 0 ds = true) (hx : D.flats xs = true) (h : Ret (f ds []) fun d T => ∃ k, d = .ref k ∧ T[k]? = some (.ftp xs)) (k : ∀ T k, Ext S T → T[k]? = some (.ftp xs) → Q (.ref k) T) : Ret (callI f ds S) Q :=
  call_free hd (h.imp fun d T ⟨n, e, ht⟩ => by
    subst e
    refine ⟨fun q => by simp [D.lo] at q, fun _ => ?_⟩
    refine k _ _ (Ext.app _ _) ?_
    rw [List.getElem?_append_right (by omega), show n + S.length - S.length = n by omega, List.getElem?_map, ht]
    show some (O.ftp (D.shifts S.length xs)) = _
    rw [flats_shift _ _ hx])
theorem sum_row (S : Sto) (r : List Int) : sumB S [row r] = some (.int r.sum, S) := by
  simp only [sumB, items_tup, Option.bind_some, intsD_map]
theorem rd_list {k m : Nat} {xs ts : List D} (h : S[k]? = some (.lst xs)) (h2 : mapO (rd m S) xs = some ts) : rd (m + 1) S (.ref k) = some (.lst ts) := by
  simp only [rd, h]
  rw [h2]; rfl
theorem mapO_two {f : D → Option D} {a b x y : D} (h : f a = some x) (h2 : f b = some y) : mapO f [a, b] = some [x, y] := by simp only [mapO, h, h2]
theorem rd_ftp {n : Nat} {r : List Int} (h : S[n]? = some (.ftp (r.map .int))) : rd 59 S (.ref n) = some (row r) := by
  simp only [rd, h]
  rw [flats_rd S (r.map .int) 58 (by simp) (Nat.le_trans (deeps_map (n := 0) _ _ fun _ => Nat.le_refl 0) (by decide))]
  rfl
/-- the text of [a tuple known as an object, a row] -/
theorem rep_ftp {k n : Nat} {r s : List Int} (h : S[k]? = some (.lst [.ref n, row s])) (h2 : S[n]? = some (.ftp (r.map .int))) (h3 : ∀ x ∈ r, small x) (h4 : ∀ x ∈ s, small x) (h5 : r.length ≤ 1000) (h6 : s.length ≤ 1000) : repB S [.ref k] = some (.rep (.lst [row r, row s]), S) := by
  refine rep_ok (t := .lst [row r, row s]) ?_ ?_ ?_ ?_
  · show rd (59 + 1) S (.ref k) = _
    exact rd_list h (mapO_two (rd_ftp h2) (flat_rd S _ _ (flat_row s) (Nat.le_trans (deep_row s) (by decide))))
  · show (D.okS (row r) && (D.okS (row s) && true)) = true
    rw [okS_row, okS_row]; rfl
  · show (D.shw (row r) && (D.shw (row s) && true)) = true
    rw [shw_row h3, shw_row h4]; rfl
  · show D.bulk (row r) + 1 + (D.bulk (row s) + 1 + 0) ≤ 50000
    have := bulk_row r
    have := bulk_row s
    omega
/-- the text of a list of two lists of flat things -/
theorem rep_lst2 {k m n : Nat} {xs ys : List D} (h : S[k]? = some (.lst [.ref m, .ref n])) (h1 : S[m]? = some (.lst xs)) (h2 : S[n]? = some (.lst ys)) (f1 : D.flats xs = true) (f2 : D.flats ys = true) (d1 : D.deeps xs ≤ 58) (d2 : D.deeps ys ≤ 58) (o1 : D.okSs xs = true) (o2 : D.okSs ys = true) (w1 : D.shws xs = true) (w2 : D.shws ys = true) (b1 : D.bulks xs ≤ 20000) (b2 : D.bulks ys ≤ 20000) :
    repB S [.ref k] = some (.rep (.lst [.lst xs, .lst ys]), S) := by
  refine rep_ok (t := .lst [.lst xs, .lst ys]) ?_ ?_ ?_ ?_
  · show rd (59 + 1) S (.ref k) = _
    exact rd_list h (mapO_two (rd_lst h1 f1 d1) (rd_lst h2 f2 d2))
  · show (D.okSs xs && (D.okSs ys && true)) = true
    rw [o1, o2]; rfl
  · show (D.shws xs && (D.shws ys && true)) = true
    rw [w1, w2]; rfl
  · show D.bulks xs + 1 + (D.bulks ys + 1 + 0) ≤ 50000
    omega
theorem mul_two {m : Nat} {x : D} (h : S[m]? = some (.lst [x])) : binI S .mul (.ref m) (.int 2) = some (.ref S.length, S ++ [.lst [x, x]]) := by
  have hz : (line : Nat) = 16777216 := rfl
  simp only [binI, h, new]
  rw [if_pos (by rw [hz]; rfl)]
  rfl
end
end N
set_option autoImplicit false
set_option linter.all false
set_option maxRecDepth 100000
set_option maxHeartbeats 1000000
namespace N
/-! ### more rules for runs -/
section
variable {β : Type} {S : Sto}
/-- a loop by the place of what it walks -/
theorem for_idx {bind : D → Env → Sto → Option (Env × Sto)} {body : Env → Sto → RS} {g : List (Nat × O)} {R : Fl → Env → Sto → Prop} (ys : List β) (inj : β → D) (st : Nat → Env → Sto → Prop)
    (hs : ∀ i y e S, ys[i]? = some y → st i e S → guardOk S g = true ∧ Ret (bind (inj y) e S) fun e1 S1 => Run (body e1 S1) fun f e2 S2 => f = .nx ∧ st (i + 1) e2 S2) (hd : ∀ e S, st ys.length e S → guardOk S g = true ∧ R .nx e S) {e : Env} (h : st 0 e S) :
    Run (forL bind body g (ys.map inj) e S) R := by
  refine for_inv (R := R) (fun xs e S => ∃ i, i ≤ ys.length ∧ xs = (ys.drop i).map inj ∧ st i e S) (fun x xs e S h => ?_) (fun e S h => ?_) _ _ _ ⟨0, Nat.zero_le _, rfl, h⟩
  · obtain ⟨i, hi, hx, h⟩ := h
    have hlt : i < ys.length := by
      rcases Nat.lt_or_ge i ys.length with q | q
      · exact q
      · rw [List.drop_eq_nil_of_le q] at hx
        cases hx
    rw [List.drop_eq_getElem_cons hlt] at hx
    simp only [List.map_cons, List.cons.injEq] at hx
    obtain ⟨rfl, rfl⟩ := hx
    obtain ⟨h1, h2⟩ := hs i ys[i] e S (List.getElem?_eq_getElem hlt) h
    exact ⟨h1, h2.imp fun e1 S1 q => q.imp fun f e2 S2 ⟨z1, z2⟩ => by subst z1; exact ⟨i + 1, hlt, rfl, z2⟩⟩
  · obtain ⟨i, hi, hx, h⟩ := h
    have : i = ys.length := by
      rcases Nat.lt_or_ge i ys.length with q | q
      · rw [List.drop_eq_getElem_cons q] at hx
        cases hx
      · omega
    subst this
    exact hd e S h
theorem idx_end {n : Nat} {xs : List D} {x : D} (h : S[n]? = some (.lst (xs ++ [x]))) : idxI S (.ref n) (.int (-1)) = some x := by
  simp only [idxI, h]
  have : ixN (xs ++ [x]).length (-1) = some xs.length := by
    rw [ixN_last (by simp)]; simp
  rw [this]
  simp
/-- the items of a list at a place of an Int list -/
theorem idx_ints {n i : Nat} {r : List Int} (h : S[n]? = some (.lst (r.map .int))) (hi : i < r.length) : idxI S (.ref n) (.int (i : Nat)) = some (.int (r.getD i 0)) :=
  idx_lst S h (by rw [List.getElem?_map, List.getElem?_eq_getElem hi, List.getD_eq_getElem?_getD, List.getElem?_eq_getElem hi]; rfl)
theorem divOk_of {x : Int} {k : Nat} (h0 : 0 < x) (h : x < 2 ^ k) (hk : k ≤ 9000) : divOk x = true := by
  unfold divOk
  have e : x.natAbs < 2 ^ k := by
    obtain ⟨n, rfl⟩ := Int.eq_ofNat_of_zero_le (Int.le_of_lt h0)
    have : (n : Int) < ((2 ^ k : Nat) : Int) := by simpa using h
    have := Int.ofNat_lt.mp this
    simpa using this
  have hne : x.natAbs ≠ 0 := by omega
  have := (Nat.log2_lt hne).mpr e
  simp only [Bool.and_eq_true, decide_eq_true_eq]
  exact ⟨h0, by omega⟩
theorem mulOk_s {i j : Int} (h : i.natAbs < 18446744073709551616 ∨ j.natAbs < 18446744073709551616) : mulOk i j = true := by
  rcases h with h | h
  · exact mulOk_l h
  · exact mulOk_r h
theorem shw_big {i : Int} (h : i.natAbs < 2 ^ 320) : D.shw (.int i) = true := by
  unfold D.shw
  rw [decide_eq_true_eq]
  by_cases hne : i.natAbs = 0
  · rw [hne]; decide
  · exact (Nat.log2_lt hne).mpr h
theorem zip_tl {n : Nat} {xs ys : List D} (h : S[n]? = some (.lst ys)) : zipI (.tup xs) (.ref n) S = some (zipV xs ys, [(n, .lst ys)]) := by simp only [zipI, rowV, h]
theorem zip_lt {n : Nat} {xs ys : List D} (h : S[n]? = some (.lst xs)) : zipI (.ref n) (.tup ys) S = some (zipV xs ys, [(n, .lst xs)]) := by simp only [zipI, rowV, h]
end
end N
set_option autoImplicit false
set_option linter.all false
set_option maxRecDepth 100000
set_option maxHeartbeats 1000000
namespace N.K93
open N N.Mix
/-! ### what is drawn from -/
/-- the pot b, its cells at c -/
def Pot (b c : Nat) (S : Sto) : Prop := b ≠ c ∧ ∃ (cells : List Int) (mx tn : Int), S[b]? = some (.lst [.ref c, .int mx, .int tn]) ∧ S[c]? = some (.lst (cells.map .int)) ∧ cells.length ≤ 63
theorem Pot.keep {b c : Nat} {S T : Sto} (h : Pot b c S) (k : Keep [] S T) : Pot b c T := by
  obtain ⟨hn, cells, mx, tn, h1, h2, r⟩ := h
  exact ⟨hn, cells, mx, tn, k.at h1 (by simp), k.at h2 (by simp), r⟩
theorem Pot.ext {b c : Nat} {S T : Sto} (h : Pot b c S) (x : Ext S T) : Pot b c T := h.keep (Keep.ext x)
theorem Pot.take {b c n : Nat} {S : Sto} (h : Pot b c S) (hb : b < n) (hc : c < n) : Pot b c (S.take n) := by
  obtain ⟨hn, cells, mx, tn, h1, h2, r⟩ := h
  exact ⟨hn, cells, mx, tn, by rw [List.getElem?_take_of_lt hb]; exact h1, by rw [List.getElem?_take_of_lt hc]; exact h2, r⟩
theorem Pot.lt {b c : Nat} {S : Sto} (h : Pot b c S) : b < S.length ∧ c < S.length := by
  obtain ⟨hn, cells, mx, tn, h1, h2, r⟩ := h
  exact ⟨(List.getElem?_eq_some_iff.mp h1).1, (List.getElem?_eq_some_iff.mp h2).1⟩
/-- a number drawn below m -/
def Drawn (m v : Int) : Prop := 0 ≤ v ∧ (v < m ∨ v = 0)
theorem of_call {S : Sto} {Q : D → Sto → Prop} {b c : Nat} {m : Int} (hB : Pot b c S) (hd : 2 ≤ m → divOk m = true) (k : ∀ v T, Drawn m v → Pot b c T → Keep [b, c] S T → Q (.int v) T) : Ret (callI f__law_of [.ref b, .int m] S) Q := by
  have lt := hB.lt
  suffices run : Ret (f__law_of [.ref b, .int m] S) fun d T => ∃ v, d = .int v ∧ Drawn m v ∧ Pot b c T ∧ Keep [b, c] S T by
    refine call_ref (by simp [D.los, D.lo]) (run.imp fun d T ⟨v, e, h1, h3, h4⟩ => ?_)
    subst e
    exact ⟨k v T h1 h3 h4, fun _ => k v _ h1 (h3.take lt.1 lt.2) h4.take⟩
  rw [w_runF]
  refine ⟨rfl, ?_⟩
  simp only [b__law_of, List.map_cons, List.map_nil, List.replicate, List.cons_append, List.nil_append]
  by_cases hm : m < 2
  · simp [hm]
    exact ⟨⟨by omega, .inr rfl⟩, hB, Keep.refl _ _⟩
  have hd := hd (by omega)
  have hm0 : 0 < m := by omega
  have dr : ∀ y : Int, Drawn m (y % m) := fun y => ⟨Int.emod_nonneg _ (by omega), .inl (Int.emod_lt_of_pos _ hm0)⟩
  obtain ⟨hne, cells, mx, tn, h1, h2, hl⟩ := id hB
  have i0 : ∀ (U : Sto) (x y : D), U[b]? = some (.lst [.ref c, x, y]) → idxI U (.ref b) (.int 0) = some (.ref c) := fun U x y h => idx_lst U (i := 0) h rfl
  have h2' : (S ++ [O.lst []])[c]? = some (.lst (cells.map .int)) := (Ext.app S _).at h2
  have h1' : (S ++ [O.lst []])[b]? = some (.lst [.ref c, .int mx, .int tn]) := (Ext.app S _).at h1
  have hK' : Keep [b, c] S (S ++ [O.lst []]) := Keep.ext (Ext.app S _)
  have hN : (S ++ [O.lst []])[S.length]? = some (.lst []) := by simp
  simp [hm, i0 S _ _ h1, eq_nil h2' hN]
  rcases snoc cells with rfl | ⟨init, y, rfl⟩
  · -- the cells are at their end
    simp
    generalize hS2 : S ++ [O.lst []] = S2 at *
    have i1 : ∀ (U : Sto) (x y : D), U[b]? = some (.lst [.ref c, x, y]) → idxI U (.ref b) (.int 1) = some x := fun U x y h => idx_lst U (i := 1) h rfl
    have i2 : ∀ (U : Sto) (x y : D), U[b]? = some (.lst [.ref c, x, y]) → idxI U (.ref b) (.int 2) = some y := fun U x y h => idx_lst U (i := 2) h rfl
    have s2 : ∀ v : D, setI S2 (.ref b) (.int 2) v = some (S2.set b (.lst [.ref c, .int mx, v])) := fun v => set_lst (j := 2) (v := v) h1' (by simp)
    simp [i2 _ _ _ h1', s2]
    have g1 : (S2.set b (.lst [.ref c, .int mx, .int (tn + 1)]))[b]? = some (.lst [.ref c, .int mx, .int (tn + 1)]) := set_at h1'
    have g2 : (S2.set b (.lst [.ref c, .int mx, .int (tn + 1)]))[c]? = some (.lst (([] : List Int).map .int)) := at_ne h2' hne
    have mo1 : mulOk (tn + 1) 2654435761 = true := mulOk_r (by decide)
    simp [i1 _ _ _ g1, i2 _ _ _ g1, mo1]
    have b1 := Int.emod_nonneg (mx + (tn + 1) * 2654435761) (show (4294967279 : Int) ≠ 0 by decide)
    have b2 := Int.emod_lt_of_pos (mx + (tn + 1) * 2654435761) (show (0 : Int) < 4294967279 by decide)
    generalize (mx + (tn + 1) * 2654435761) % 4294967279 = x at b1 b2 ⊢
    have mo2 : mulOk x x = true := mulOk_l (by omega)
    have mo3 : mulOk (tn + 1) 40503 = true := mulOk_r (by decide)
    simp [i2 _ _ _ g1, mo2, mo3]
    have b3 := Int.emod_nonneg (x * x + (tn + 1) * 40503 + 5) (show (4294967231 : Int) ≠ 0 by decide)
    have b4 := Int.emod_lt_of_pos (x * x + (tn + 1) * 40503 + 5) (show (0 : Int) < 4294967231 by decide)
    generalize (x * x + (tn + 1) * 40503 + 5) % 4294967231 = z at b3 b4 ⊢
    have mo4 : mulOk z z = true := mulOk_l (by omega)
    have d256 : divOk 256 = true := by decide
    simp [i1 _ _ _ g1, mo4, d256, hm0]
    exact ⟨dr _, ⟨hne, [], mx, tn + 1, g1, g2, by simp⟩, hK'.trans (Keep.set (by simp))⟩
  · have h2'' : (S ++ [O.lst []])[c]? = some (.lst (init.map .int ++ [.int y])) := by simpa using h2'
    have cb : c ≠ b := fun q => hne q.symm
    simp [i0 _ _ _ h1', methT_lst (m := .pop) h2'' (by decide), pop_last h2'']
    generalize hS2 : S ++ [O.lst []] = S2 at *
    have g1 : (S2.set c (.lst (init.map .int)))[b]? = some (.lst [.ref c, .int mx, .int tn]) := at_ne h1' cb
    have g2 : (S2.set c (.lst (init.map .int)))[c]? = some (.lst (init.map .int)) := set_at h2'
    have hl' : init.length + 1 ≤ 63 := by simpa using hl
    by_cases hy : m ≤ y
    · simp [hy, i0 _ _ _ g1, methT_lst (m := .append) g2 (by decide), hd, app_lst (x := .int (y / m)) g2 (by simp; omega), hm0]
      refine ⟨dr _, ⟨hne, init ++ [y / m], mx, tn, ?_, ?_, by simp; omega⟩, (hK'.trans (Keep.set (by simp)))⟩
      · exact at_ne h1' cb
      · rw [set_at h2']; simp
    · simp [hy, hm0]
      exact ⟨dr _, ⟨hne, init, mx, tn, g1, g2, by omega⟩, hK'.trans (Keep.set (by simp))⟩
theorem one_call {S : Sto} {Q : D → Sto → Prop} {b c n : Nat} {xs : List D} (hB : Pot b c S) (hn : n ≠ b ∧ n ≠ c) (hx : S[n]? = some (.lst xs)) (hl : 0 < xs.length) (hl2 : xs.length ≤ 1000) (k : ∀ x T, x ∈ xs → Pot b c T → Keep [b, c] S T → Q x T) (hlo : ∀ x ∈ xs, x.flat = true) : Ret (callI f__law_one [.ref b, .ref n] S) Q := by
  have lt := hB.lt
  suffices run : Ret (f__law_one [.ref b, .ref n] S) fun d T => d ∈ xs ∧ Pot b c T ∧ Keep [b, c] S T by
    refine call_ref (by simp [D.los, D.lo]) (run.imp fun d T ⟨e, h3, h4⟩ => ?_)
    exact ⟨k d T e h3 h4, fun _ => k d _ e (h3.take lt.1 lt.2) h4.take⟩
  rw [w_runF]
  refine ⟨rfl, ?_⟩
  simp [b__law_one, len_lst hx]
  refine of_call hB (fun _ => divOk_nat hl (by omega)) fun v T hv hB2 hK => ?_
  obtain ⟨j, rfl⟩ := Int.eq_ofNat_of_zero_le hv.1
  have hj : j < xs.length := by
    rcases hv.2 with q | q <;> omega
  rw [idx_lst T (hK.at hx (by simp [hn.1, hn.2])) (List.getElem?_eq_getElem hj)]
  simp
  exact ⟨hB2, hK⟩
theorem pot_call {S : Sto} {ns : List Int} {Q : D → Sto → Prop} (h0 : S = [.scr ns]) (hn : ns.length ≤ 63) (k : ∀ b c T, Pot b c T → Q (.ref b) T) : Ret (callI f__law_pot [.ref 0] S) Q := by
  subst h0
  suffices run : Ret (f__law_pot [.ref 0] [.scr ns]) fun d T => ∃ b c, d = .ref b ∧ 1 ≤ b ∧ Pot b c T by
    refine call_ref (by simp [D.los, D.lo]) (run.imp fun d T ⟨b, c, e, h1, h2⟩ => ?_)
    subst e
    exact ⟨k b c T h2, fun q => by
      simp [D.lo] at q
      omega⟩
  rw [w_runF]
  refine ⟨rfl, ?_⟩
  have hz : (line : Nat) = 16777216 := rfl
  have cutA : slc ns none (some 63) none = some ns := by
    have e : min (Int.toNat 63) ns.length = ns.length := Nat.min_eq_right (by simpa using hn)
    simp only [slc, cut, sIx]
    rw [if_neg (by decide), e]
    simp
  have sl : slcI [.scr ns] (.ref 0) .non (.int 63) .non = some (.ref 1, [.scr ns, .lst (ns.map .int)]) := by
    simp only [slcI, optI]
    simp [cutA, new]
  simp [b__law_pot, sl]
  have w1 : walkV (.ref 1) [.scr ns, .lst (ns.map .int)] = some (ns.map .int, [(1, .lst (ns.map .int))]) := walk_lst rfl
  simp [w1]
  refine ⟨by omega, ?_⟩
  let ab : Int → Int := fun x => 2 * (if x < 0 then -x else x) + (if x < 0 then 1 else 0)
  have mo : ∀ z : Int, mulOk 2 z = true := fun z => mulOk_l (by decide)
  rw [comp_all (fun x : Int => .int x) (fun x => .int (ab x)) (guard_one' rfl) ns fun y hy => ?_]
  · have e2 : (ns.map fun x => D.int (ab x)) = (ns.map ab).map .int := by simp
    rw [e2]
    generalize hcs : ns.map ab = cs
    have hcl : cs.length = ns.length := by rw [← hcs]; simp
    have a2 : ([O.scr ns, O.lst (ns.map .int)] ++ [O.lst (cs.map .int)])[2]? = some (.lst (cs.map .int)) := by simp
    have l0 : lenI ([O.scr ns, O.lst (ns.map .int)] ++ [O.lst (cs.map .int)]) [.ref 0] = some (.int ns.length, [O.scr ns, O.lst (ns.map .int)] ++ [O.lst (cs.map .int)]) := by simp [lenI]
    have w2 := walk_lst a2
    have mo75 : mulOk 75 (ns.length : Int) = true := mulOk_l (by decide)
    simp at l0 w2 a2
    simp [l0, w2, mo75]
    refine Run.imp (Q := fun f e T => f = .nx ∧ (∃ x m, e = [some (.ref 0), x, some (.ref 2), some (.int m)]) ∧ T = [.scr ns, .lst (ns.map .int), .lst (cs.map .int)]) ?_ ?_
    · refine Run.imp (for_fold cs.length (fun i (s : Unit) e T => (∃ x m, e = [some (.ref 0), x, some (.ref 2), some (.int m)]) ∧ T = [.scr ns, .lst (ns.map .int), .lst (cs.map .int)]) (fun x : Int => .int x) (fun _ _ => ()) (fun _ _ _ _ h => by obtain ⟨_, rfl⟩ := h; exact guard_one' rfl) cs 0 (by simp) (fun y hy i s e T hi h => ?_) () _ _ ⟨⟨none, _, rfl⟩, rfl⟩) fun f e T h => ⟨h.1, h.2.1, h.2.2⟩
      obtain ⟨⟨x, m, rfl⟩, rfl⟩ := h
      have mo : mulOk m 69069 = true := mulOk_r (by decide)
      simp [mo]
    · rintro f e T ⟨rfl, ⟨x, m, rfl⟩, rfl⟩
      have hp : powOk 10 12 = true := by decide
      simp [w2]
      refine ⟨by omega, ?_⟩
      have cm := comp_map (bind := bindT (.tgN 1)) (c := fun e S => thenT (evalE (.cmp (.var 1) [.gt] [.bin .pow (.int 10) (.int 12)]) e S)) (elt := evalE (.var 1)) (g := [(2, O.lst (cs.map .int))]) (S := [O.scr ns, .lst (ns.map .int), .lst (cs.map .int)]) (e := N.wipe [some (.ref 0), x, some (.ref 2), some (.int m)] [1])
        (fun x : Int => .int x) (fun y => decide (10 ^ 12 < y)) (fun y => .int y) (guard_one' rfl) cs (fun y hy => by
          simp [N.wipe, hp])
      rw [cm]
      simp
      refine ⟨3, by decide, cs.filter fun y => decide (10 ^ 12 < y), m, 0, rfl, rfl, ?_⟩
      have := List.length_filter_le (fun y => decide ((10 : Int) ^ 12 < y)) cs
      omega
  · simp [N.wipe, ab, mo]
end N.K93
set_option autoImplicit false
set_option linter.all false
set_option maxRecDepth 100000
set_option maxHeartbeats 1000000
namespace N.K93
open N N.Mix
/-! ### sizes, products -/
structure Ok (ss : List Int) : Prop where
  sz : Sz ss
  le : ∀ s ∈ ss, s ≤ 10
  len : ss.length ≤ 40
theorem Ok.tail {s : Int} {ss : List Int} (h : Ok (s :: ss)) : Ok ss := ⟨h.sz.tail, fun x hx => h.le x (by simp [hx]), by have := h.len; simp at this; omega⟩
theorem Ok.rev {ss : List Int} (h : Ok ss) : Ok ss.reverse := ⟨h.sz.rev, fun x hx => h.le x (by simpa using hx), by simpa using h.len⟩
theorem Ok.at {ss : List Int} (h : Ok ss) {i : Nat} {s : Int} (hi : ss[i]? = some s) : 2 ≤ s ∧ s ≤ 10 := ⟨h.sz s (List.mem_of_getElem? hi), h.le s (List.mem_of_getElem? hi)⟩
theorem prod_le : ∀ {ss : List Int}, Sz ss → (∀ s ∈ ss, s ≤ 10) → prod ss ≤ 10 ^ ss.length
  | [], _, _ => by simp [prod]
  | s :: ss, h, h2 => by
    have a := h2 s (by simp)
    have b := prod_le h.tail fun x hx => h2 x (by simp [hx])
    have c := prod_pos h.tail
    have := h.head
    have q := Int.mul_le_mul a b (by omega) (by omega)
    simp only [prod, List.length_cons, Int.pow_succ]
    rw [Int.mul_comm (10 ^ ss.length)]
    exact q
theorem ten_le {n : Nat} (h : n ≤ 40) : (10 : Int) ^ n ≤ 10 ^ 40 := by
  have : 10 ^ n ≤ 10 ^ 40 := Nat.pow_le_pow_right (by decide) h
  have := Int.ofNat_le.mpr this
  simpa using this
theorem Ok.prod {ss : List Int} (h : Ok ss) : 1 ≤ prod ss ∧ prod ss ≤ 10 ^ 40 := ⟨prod_pos h.sz, Int.le_trans (prod_le h.sz h.le) (ten_le h.len)⟩
theorem pre_le {ss : List Int} (h : Ok ss) : ∀ j, pre ss j ≤ 10 ^ 40 := by
  have key : ∀ (ss : List Int) (j : Nat), Sz ss → pre ss j ≤ prod ss := by
    intro ss
    induction ss with
    | nil => intro j _; cases j <;> simp [pre, N.Mix.prod]
    | cons s ss ih =>
      intro j hs
      cases j with
      | zero => rw [pre_zero]; exact prod_pos hs
      | succ j =>
        simp only [pre, N.Mix.prod]
        have := hs.head
        exact Int.mul_le_mul_of_nonneg_left (ih j hs.tail) (by omega)
  intro j
  exact Int.le_trans (key ss j h.sz) h.prod.2
theorem big_div {x : Int} (h0 : 1 ≤ x) (h : x ≤ 10 ^ 40) : divOk x = true := divOk_of (k := 200) (by omega) (Int.lt_of_le_of_lt h (by decide)) (by decide)
theorem foldl_prod : ∀ (ss : List Int) (a : Int), ss.foldl (fun f s => f * s) a = a * prod ss
  | [], a => by simp [prod]
  | s :: ss, a => by
    rw [List.foldl_cons, foldl_prod ss]
    simp only [prod]
    rw [Int.mul_assoc]
theorem sm {s : Int} (h : 2 ≤ s) (h2 : s ≤ 10) : s.natAbs < 18446744073709551616 := by omega
theorem number_call {S : Sto} {Q : D → Sto → Prop} {ss : List Int} (h : Ok ss) (k : Q (.int (prod ss)) S) : Ret (callI f_digit_rows_number [row ss] S) Q := by
  refine call_flat (d := .int (prod ss)) (by simp [D.flats]) rfl ?_ k
  rw [w_runF]
  refine ⟨rfl, ?_⟩
  simp [b_digit_rows_number]
  refine Run.imp (for_fold ss.length (fun i (s : Int) e S => (∃ x, e = [some (row ss), some (.int s), x]) ∧ S = []) (fun s : Int => .int s) (fun f s => f * s) (fun _ _ _ _ _ => rfl) _ 0 (by simp) (fun y hy i s e S hi hh => ?_) 1 _ _ ⟨⟨none, rfl⟩, rfl⟩) fun f e T hh => ?_
  · obtain ⟨⟨x, rfl⟩, rfl⟩ := hh
    have := sm (h.sz y hy) (h.le y hy)
    simp [mulOk_r (i := s) this]
  · obtain ⟨rfl, ⟨x, rfl⟩, rfl⟩ := hh
    rw [foldl_prod]
    simp
/-- the products, from 1 on -/
def pros (ss : List Int) : List Int := (List.range (ss.length + 1)).map (pre ss)
theorem pros_len (ss : List Int) : (pros ss).length = ss.length + 1 := by simp [pros]
theorem pros_get {ss : List Int} {j : Nat} (h : j ≤ ss.length) : (pros ss).getD j 0 = pre ss j := by
  unfold pros
  rw [List.getD_eq_getElem?_getD, List.getElem?_map, List.getElem?_range (by omega)]
  rfl
theorem range_succ_map {α : Type} (f : Nat → α) (n : Nat) : (List.range (n + 1)).map f = (List.range n).map f ++ [f n] := by
  rw [List.range_succ, List.map_append]; rfl
theorem products_call {S : Sto} {Q : D → Sto → Prop} {ss : List Int} (h : Ok ss) (k : ∀ T k, Ext S T → T[k]? = some (.lst ((pros ss).map .int)) → Q (.ref k) T) : Ret (callI f_products_of [row ss] S) Q := by
  refine call_list (flats_lo 0 _ (by simp [D.flats])) (by simp) ?_ k
  rw [w_runF]
  refine ⟨rfl, ?_⟩
  simp [b_products_of]
  have hz : (line : Nat) = 16777216 := rfl
  have hl := h.len
  refine for_idx ss (fun s : Int => .int s) (fun i e S => (∃ x, e = [some (row ss), some (.ref 0), x]) ∧ S = [.lst (((List.range (i + 1)).map (pre ss)).map .int)]) (fun i y e S hy hh => ?_) (fun e S hh => ?_) ⟨⟨none, rfl⟩, by simp [pre_zero]⟩
  · obtain ⟨⟨x, rfl⟩, rfl⟩ := hh
    have hi := (List.getElem?_eq_some_iff.mp hy).1
    obtain ⟨y1, y2⟩ := h.at hy
    have yd : ss.getD i 0 = y := by rw [List.getD_eq_getElem?_getD, hy]; rfl
    have at0 : ([O.lst (((List.range (i + 1)).map (pre ss)).map D.int)] : Sto)[0]? = some (.lst (((List.range (i + 1)).map (pre ss)).map D.int)) := rfl
    have ie : idxI [O.lst (((List.range (i + 1)).map (pre ss)).map D.int)] (.ref 0) (.int (-1)) = some (.int (pre ss i)) := by
      refine idx_end (xs := ((List.range i).map (pre ss)).map .int) ?_
      rw [at0, range_succ_map, List.map_append]; rfl
    have e3 : ((List.range (i + 1 + 1)).map (pre ss)).map D.int = ((List.range (i + 1)).map (pre ss)).map D.int ++ [.int (pre ss i * y)] := by
      rw [range_succ_map _ (i + 1), List.map_append, pre_succ ss i hi, yd]; rfl
    refine ⟨rfl, ?_⟩
    rw [e3]
    have ap := app_lst (x := .int (pre ss i * y)) at0 (by simp; omega)
    simp only [w_tgN, List.set_cons_succ, List.set_cons_zero, w_ss1, w_ss0, w_ex, w_meth, w_var, List.getElem?_cons_succ, List.getElem?_cons_zero, opt_some, methT_lst (m := .append) at0 (by decide), w_es1, w_es0, w_bin, w_idx, w_neg, w_int, ie, b_mul, mulOk_r (i := pre ss i) (sm y1 y2), if_true, ret_some, ap]
    simp
  · obtain ⟨⟨x, rfl⟩, rfl⟩ := hh
    simp [pros]
/-- what lies behind each size -/
def rests : List Int → List Int
  | [] => []
  | _ :: ss => prod ss :: rests ss
theorem rests_len : ∀ ss : List Int, (rests ss).length = ss.length
  | [] => rfl
  | s :: ss => by simp [rests, rests_len ss]
theorem rests_snoc : ∀ (ss : List Int) (s : Int), rests (ss ++ [s]) = (rests ss).map (· * s) ++ [1]
  | [], s => rfl
  | x :: ss, s => by
    rw [List.cons_append]
    simp only [rests, List.map_cons, List.cons_append, rests_snoc ss s, prod_snoc]
end N.K93
set_option autoImplicit false
set_option linter.all false
set_option maxRecDepth 100000
set_option maxHeartbeats 1000000
namespace N.K93
open N N.Mix
/-! ### what lies behind the sizes -/
theorem rests_pre : ∀ (t : List Int) (s : Int), ((List.range (t.length + 1)).map (pre t.reverse)).reverse = rests (s :: t)
  | [], s => by simp [rests, pre_zero, prod]
  | x :: t, s => by
    have ih := rests_pre t x
    rw [range_succ_map]
    have e1 : pre (x :: t).reverse (x :: t).length = prod (x :: t) := by
      have := pre_all (x :: t).reverse
      rw [List.length_reverse] at this
      rw [this, prod_rev]
    have e2 : (List.range (x :: t).length).map (pre (x :: t).reverse) = (List.range (t.length + 1)).map (pre t.reverse) := by
      rw [List.length_cons]
      apply List.map_congr_left
      intro j hj
      rw [List.reverse_cons]
      exact pre_snoc x t.reverse j (by simp at hj; simp; omega)
    rw [e1, e2, List.reverse_append, ih]
    rfl
theorem slc_tail (xs : List D) (x : D) : slc (x :: xs) none (some 0) (some (-1)) = some xs.reverse := by
  simp [slc]
theorem rests_call {S : Sto} {Q : D → Sto → Prop} {ss : List Int} (h : Ok ss) (hn : ss ≠ []) (k : ∀ T k, Ext S T → T[k]? = some (.lst ((rests ss).map .int)) → Q (.ref k) T) : Ret (callI f_rests_of [row ss] S) Q := by
  refine call_list (flats_lo 0 _ (by simp [D.flats])) (by simp) ?_ k
  rw [w_runF]
  refine ⟨rfl, ?_⟩
  obtain ⟨s, t, rfl⟩ : ∃ s t, ss = s :: t := by
    cases ss with
    | nil => exact absurd rfl hn
    | cons s t => exact ⟨s, t, rfl⟩
  have hl := h.len
  simp at hl
  have ht : Ok t.reverse := h.tail.rev
  have hz : (line : Nat) = 16777216 := rfl
  have sl : ∀ S : Sto, slcI S (.tup ((s :: t).map D.int)) .non (.int 0) (.int (-1)) = some (.tup (t.reverse.map .int), S) := by
    intro S
    have := slc_tail (t.map D.int) (.int s)
    simp only [slcI, optI, List.map_cons, this, ← List.map_reverse]
  simp only [b_rests_of, List.map_cons, List.map_nil, List.replicate, List.cons_append, List.nil_append]
  refine step (P := fun e S => e = [some (row (s :: t)), some (.ref 0), none] ∧ S = [.lst [.int 1]]) (by simp) ?_
  rintro e S ⟨rfl, rfl⟩
  rw [w_ss1, w_forS]
  simp only [w_wk, w_slc, w_var, List.getElem?_cons_zero, opt_some, w_abs, w_int, w_neg, ret_some, row, sl, walk_tup]
  refine for_idx t.reverse (fun s : Int => .int s) (fun i e S => (∃ x, e = [some (row (s :: t)), some (.ref 0), x]) ∧ S = [.lst (((List.range (i + 1)).map (pre t.reverse)).map .int)]) (fun i y e S hy hh => ?_) (fun e S hh => ?_) ⟨⟨none, rfl⟩, by simp [pre_zero]⟩
  · obtain ⟨⟨x, rfl⟩, rfl⟩ := hh
    have hi := (List.getElem?_eq_some_iff.mp hy).1
    have hi' : i < t.length := by simpa using hi
    obtain ⟨y1, y2⟩ := ht.at hy
    have yd : t.reverse.getD i 0 = y := by rw [List.getD_eq_getElem?_getD, hy]; rfl
    have at0 : ([O.lst (((List.range (i + 1)).map (pre t.reverse)).map D.int)] : Sto)[0]? = some (.lst (((List.range (i + 1)).map (pre t.reverse)).map D.int)) := rfl
    have ie : idxI [O.lst (((List.range (i + 1)).map (pre t.reverse)).map D.int)] (.ref 0) (.int (-1)) = some (.int (pre t.reverse i)) := by
      refine idx_end (xs := ((List.range i).map (pre t.reverse)).map .int) ?_
      rw [at0, range_succ_map, List.map_append]; rfl
    have e3 : ((List.range (i + 1 + 1)).map (pre t.reverse)).map D.int = ((List.range (i + 1)).map (pre t.reverse)).map D.int ++ [.int (pre t.reverse i * y)] := by
      rw [range_succ_map _ (i + 1), List.map_append, pre_succ t.reverse i hi, yd]; rfl
    refine ⟨rfl, ?_⟩
    rw [e3]
    have ap := app_lst (x := .int (pre t.reverse i * y)) at0 (by simp; omega)
    simp only [w_tgN, List.set_cons_succ, List.set_cons_zero, w_ss1, w_ss0, w_ex, w_meth, w_var, List.getElem?_cons_succ, List.getElem?_cons_zero, opt_some, methT_lst (m := .append) at0 (by decide), w_es1, w_es0, w_bin, w_idx, w_neg, w_int, ie, b_mul, mulOk_r (i := pre t.reverse i) (sm y1 y2), if_true, ret_some, ap]
    simp
  · obtain ⟨⟨x, rfl⟩, rfl⟩ := hh
    refine ⟨rfl, ?_⟩
    have at0 : ([O.lst (((List.range (t.reverse.length + 1)).map (pre t.reverse)).map D.int)] : Sto)[0]? = some (.lst (((List.range (t.reverse.length + 1)).map (pre t.reverse)).map D.int)) := rfl
    have e : (((List.range (t.reverse.length + 1)).map (pre t.reverse)).map D.int).reverse = (rests (s :: t)).map .int := by
      rw [← List.map_reverse, List.length_reverse, rests_pre t s]
    have sr := sl_lrev at0
    rw [e] at sr
    simp only [Then, w_ss1, w_ret, w_slc, w_var, List.getElem?_cons_succ, List.getElem?_cons_zero, opt_some, w_abs, w_neg, w_int, ret_some, sr, Back]
    exact ⟨_, rfl, last_at _ _⟩
end N.K93
set_option autoImplicit false
set_option linter.all false
set_option maxRecDepth 100000
set_option maxHeartbeats 1000000
namespace N.K93
open N N.Mix
/-! ### reflected rows -/
/-- the place that is left for the digits from i on -/
def rem : List Int → Int → Nat → Int
  | _, p, 0 => p
  | [], p, _ + 1 => p
  | _ :: ss, p, i + 1 => rem ss (if p / prod ss % 2 = 1 then prod ss - 1 - p % prod ss else p % prod ss) i
theorem rem_zero (ss : List Int) (p : Int) : rem ss p 0 = p := by cases ss <;> rfl
theorem rest_at : ∀ (ss : List Int) (i : Nat), i < ss.length → (rests ss)[i]? = some (prod (ss.drop (i + 1)))
  | [], _, h => absurd h (by simp)
  | s :: ss, 0, _ => by simp [rests]
  | s :: ss, i + 1, h => by
    simp only [rests, List.getElem?_cons_succ, List.drop_succ_cons]
    exact rest_at ss i (by simpa using h)
theorem refl_at : ∀ (ss : List Int) (p : Int) (i : Nat), i < ss.length → (refl ss p)[i]? = some (rem ss p i / prod (ss.drop (i + 1))) ∧
    rem ss p (i + 1) = if rem ss p i / prod (ss.drop (i + 1)) % 2 = 1 then prod (ss.drop (i + 1)) - 1 - rem ss p i % prod (ss.drop (i + 1)) else rem ss p i % prod (ss.drop (i + 1))
  | [], _, _, h => absurd h (by simp)
  | s :: ss, p, 0, _ => by simp [refl, rem, rem_zero]
  | s :: ss, p, i + 1, h => by
    have := refl_at ss (if p / prod ss % 2 = 1 then prod ss - 1 - p % prod ss else p % prod ss) i (by simpa using h)
    simp only [refl, rem, List.getElem?_cons_succ, List.drop_succ_cons]
    exact this
theorem Ok.drop {ss : List Int} (h : Ok ss) (n : Nat) : Ok (ss.drop n) := ⟨fun s hs => h.sz s (List.mem_of_mem_drop hs), fun s hs => h.le s (List.mem_of_mem_drop hs), by have := h.len; simp; omega⟩
theorem take_succ' {xs : List Int} {i : Nat} {x : Int} (h : xs[i]? = some x) : xs.take (i + 1) = xs.take i ++ [x] := by
  rw [List.take_succ, h]; rfl
theorem two_div : divOk 2 = true := by decide
theorem take_all {α : Type} (xs : List α) {n : Nat} (h : xs.length = n) : xs.take n = xs := by subst h; exact List.take_length
/-- the body's digits, one more -/
theorem app_digit {S : Sto} {n i : Nat} {xs : List Int} {x : Int} (h : S[n]? = some (.lst ((xs.take i).map .int))) (hx : xs[i]? = some x) (hl : xs.length ≤ 1000) : methI S .append (.ref n) [.int x] = some (.non, S.set n (.lst ((xs.take (i + 1)).map .int))) := by
  rw [app_lst h (by simp; omega), take_succ' hx, List.map_append]; rfl
theorem refl_call {S : Sto} {Q : D → Sto → Prop} {ss : List Int} {p : Int} (h : Ok ss) (hn : ss ≠ []) (k : Q (row (refl ss p)) S) : Ret (callI f_reflected_row [row ss, .int p] S) Q := by
  refine call_flat (d := row (refl ss p)) (by simp [D.flats]; rfl) (flat_row _) ?_ k
  rw [w_runF]
  refine ⟨rfl, ?_⟩
  have hlen := refl_len ss p
  have h40 := h.len
  have hpos : 0 < ss.length := List.length_pos_iff.mpr hn
  simp only [b_reflected_row, List.map_cons, List.map_nil, List.replicate, List.cons_append, List.nil_append]
  refine step (P := fun e S => e = [some (row ss), some (.int p), some (.ref 0), none, none] ∧ S = [.lst []]) (by simp) ?_
  rintro e S ⟨rfl, rfl⟩
  rw [w_ss1, w_forS]
  simp only [w_wk, w_call, w_es1, w_es0, w_var, List.getElem?_cons_zero, opt_some]
  refine rests_call h hn fun T k ex hk => ?_
  have h0 : T[0]? = some (.lst []) := ex.at rfl
  have k0 : k ≠ 0 := by
    intro q
    rw [q, h0] at hk
    have := O.lst.inj (Option.some.inj hk)
    have := congrArg List.length this
    simp [rests_len] at this
    omega
  simp only [walk_lst hk, opt_some]
  refine for_idx (rests ss) (fun s : Int => .int s) (fun i e S => (∃ x y, e = [some (row ss), some (.int (rem ss p i)), some (.ref 0), x, y]) ∧ S[k]? = some (.lst ((rests ss).map .int)) ∧ S[0]? = some (.lst (((refl ss p).take i).map .int))) (fun i y e S hy hh => ?_) (fun e S hh => ?_) ⟨⟨none, none, by rw [rem_zero]⟩, hk, h0⟩
  · obtain ⟨⟨x, z, rfl⟩, g1, g2⟩ := hh
    refine ⟨guard_one' g1, ?_⟩
    have hi : i < ss.length := by rw [← rests_len]; exact (List.getElem?_eq_some_iff.mp hy).1
    rw [rest_at ss i hi] at hy
    cases hy
    obtain ⟨r1, r2⟩ := refl_at ss p i hi
    have pr := (h.drop (i + 1)).prod
    have dv := big_div pr.1 pr.2
    have ap := app_digit g2 r1 (by omega)
    simp only [w_tgN, List.set_cons_succ, List.set_cons_zero, w_ss1, w_asg, w_tup, w_es1, w_es0, w_bin, w_var, List.getElem?_cons_succ, List.getElem?_cons_zero, opt_some, b_fdiv, b_mod, dv, if_true, ret_some, show decide (0 < prod (ss.drop (i + 1))) = true by simp; omega,
      w_tgT, items_tup, w_ts1, w_ts0, then_nx, w_ifs, w_cmp, w_int, show decide ((0 : Int) < 2) = true by decide, w_c1, w_c0, cmp_eq, eq_int, tru_bl]
    by_cases c : rem ss p i / prod (ss.drop (i + 1)) % 2 = 1
    · rw [if_pos c] at r2
      simp [c, methT_lst (m := .append) g2 (by decide), ap, r2]
      exact ⟨at_ne g1 k0.symm, set_at g2⟩
    · rw [if_neg c] at r2
      simp [c, methT_lst (m := .append) g2 (by decide), ap, r2]
      exact ⟨at_ne g1 k0.symm, set_at g2⟩
  · obtain ⟨⟨x, z, rfl⟩, g1, g2⟩ := hh
    refine ⟨guard_one' g1, ?_⟩
    rw [rests_len, take_all _ hlen] at g2
    simp [tup_lst g2]
end N.K93
set_option autoImplicit false
set_option linter.all false
set_option maxRecDepth 100000
set_option maxHeartbeats 1000000
namespace N.K93
open N N.Mix
theorem drop_at {ss : List Int} {i : Nat} {s : Int} (h : ss[i]? = some s) : ss.drop i = s :: ss.drop (i + 1) := by
  obtain ⟨hi, e⟩ := List.getElem?_eq_some_iff.mp h
  rw [List.drop_eq_getElem_cons hi, e]
/-- the law's own reflected row -/
theorem lrefl_call {S : Sto} {Q : D → Sto → Prop} {ss : List Int} {p : Int} (h : Ok ss) (k : Q (row (refl ss p)) S) : Ret (callI f__law_reflected [row ss, .int p] S) Q := by
  refine call_flat (d := row (refl ss p)) (by simp [D.flats]; rfl) (flat_row _) ?_ k
  rw [w_runF]
  refine ⟨rfl, ?_⟩
  have hlen := refl_len ss p
  have h40 := h.len
  simp only [b__law_reflected, List.map_cons, List.map_nil, List.replicate, List.cons_append, List.nil_append]
  refine step (P := fun e S => e = [some (row ss), some (.int p), none, some (.int 1), some (.ref 0), none] ∧ S = [.lst []]) (by simp) ?_
  rintro e S ⟨rfl, rfl⟩
  refine step (P := fun e S => (∃ x, e = [some (row ss), some (.int p), x, some (.int (prod ss)), some (.ref 0), none]) ∧ S = [.lst []]) ?_ ?_
  · simp
    refine Run.imp (for_fold ss.length (fun i (s : Int) e S => (∃ x, e = [some (row ss), some (.int p), x, some (.int s), some (.ref 0), none]) ∧ S = [.lst []]) (fun s : Int => .int s) (fun f s => f * s) (fun _ _ _ _ _ => rfl) _ 0 (by simp) (fun y hy i s e S hi hh => ?_) 1 _ _ ⟨⟨none, rfl⟩, rfl⟩) fun f e T hh => ?_
    · obtain ⟨⟨x, rfl⟩, rfl⟩ := hh
      have := sm (h.sz y hy) (h.le y hy)
      simp [mulOk_r (i := s) this]
    · obtain ⟨rfl, hh⟩ := hh
      rw [foldl_prod, Int.one_mul] at hh
      exact ⟨rfl, hh⟩
  rintro e S ⟨⟨x, rfl⟩, rfl⟩
  rw [w_ss1, w_forS]
  simp only [w_wk, w_var, List.getElem?_cons_zero, opt_some, row, walk_tup]
  refine for_idx ss (fun s : Int => .int s) (fun i e S => (∃ x y, e = [some (row ss), some (.int (rem ss p i)), x, some (.int (prod (ss.drop i))), some (.ref 0), y]) ∧ S[0]? = some (.lst (((refl ss p).take i).map .int))) (fun i y e S hy hh => ?_) (fun e S hh => ?_) ⟨⟨x, none, by rw [rem_zero]; rfl⟩, rfl⟩
  · obtain ⟨⟨x, z, rfl⟩, g2⟩ := hh
    refine ⟨rfl, ?_⟩
    have hi : i < ss.length := (List.getElem?_eq_some_iff.mp hy).1
    obtain ⟨r1, r2⟩ := refl_at ss p i hi
    have pr := (h.drop (i + 1)).prod
    obtain ⟨y1, y2⟩ := h.at hy
    have dv := big_div pr.1 pr.2
    have dy : divOk y = true := divOk_of (k := 10) (by omega) (by omega) (by decide)
    have ap := app_digit g2 r1 (by omega)
    have wh : prod (ss.drop i) / y = prod (ss.drop (i + 1)) := by
      rw [drop_at hy]
      simp only [prod]
      exact Int.mul_ediv_cancel_left _ (by omega)
    simp only [w_tgN, List.set_cons_succ, List.set_cons_zero, w_ss1, w_asg, w_tup, w_es1, w_es0, w_bin, w_var, List.getElem?_cons_succ, List.getElem?_cons_zero, opt_some, b_fdiv, b_mod, dv, dy, wh, if_true, ret_some, show decide (0 < prod (ss.drop (i + 1))) = true by simp; omega,
      w_tgT, items_tup, w_ts1, w_ts0, then_nx, w_ifs, w_cmp, w_int, show decide ((0 : Int) < 2) = true by decide, w_c1, w_c0, cmp_eq, eq_int, tru_bl, w_blt, bl_int, intB_int, w_ex, w_meth, methT_lst (m := .append) g2 (by decide), ap]
    by_cases c : rem ss p i / prod (ss.drop (i + 1)) % 2 = 1
    · rw [if_pos c] at r2
      simp [c, r2]
      exact set_at g2
    · rw [if_neg c] at r2
      simp [c, r2]
      exact set_at g2
  · obtain ⟨⟨x, z, rfl⟩, g2⟩ := hh
    refine ⟨rfl, ?_⟩
    rw [take_all _ hlen] at g2
    simp [tup_lst g2]
/-! ### the place of a reflected row -/
theorem back_at {ss ds : List Int} {j : Nat} {s d : Int} (hs : ss[j]? = some s) (hd : ds[j]? = some d) : back (ss.drop j) (ds.drop j) = (if d % 2 = 1 then prod (ss.drop (j + 1)) - 1 - back (ss.drop (j + 1)) (ds.drop (j + 1)) else back (ss.drop (j + 1)) (ds.drop (j + 1))) + d * prod (ss.drop (j + 1)) := by
  rw [drop_at hs, drop_at hd]
  rfl
theorem back_call {S : Sto} {Q : D → Sto → Prop} {ss ds : List Int} (h : Ok ss) (hn : ss ≠ []) (hl : ds.length = ss.length) (hd : ∀ d ∈ ds, d.natAbs < 1000) (k : Q (.int (back ss ds)) S) : Ret (callI f_reflected_place [row ss, row ds] S) Q := by
  refine call_flat (d := .int (back ss ds)) (by simp [D.flats]) rfl ?_ k
  rw [w_runF]
  refine ⟨rfl, ?_⟩
  have h40 := h.len
  have hz : (line : Nat) = 16777216 := rfl
  simp only [b_reflected_place, List.map_cons, List.map_nil, List.replicate, List.cons_append, List.nil_append]
  refine step (P := fun e S => e = [some (row ss), some (row ds), some (.int 0), none, none] ∧ S = []) (by simp) ?_
  rintro e S ⟨rfl, rfl⟩
  rw [w_ss1, w_forS]
  simp only [w_zip, w_slc, w_call, w_es1, w_es0, w_var, List.getElem?_cons_zero, opt_some]
  refine rests_call h hn fun T n ex hk => ?_
  have sr := sl_lrev hk
  rw [← List.map_reverse] at sr
  have hk2 : (T ++ [O.lst ((rests ss).reverse.map .int)])[T.length]? = some (.lst ((rests ss).reverse.map .int)) := last_at _ _
  simp only [w_abs, w_neg, w_int, ret_some, sr, w_var, List.getElem?_cons_succ, List.getElem?_cons_zero, opt_some, row, sl_rev, ← List.map_reverse, zip_lt hk2, zipV_map]
  generalize hT : T ++ [O.lst ((rests ss).reverse.map .int)] = U at hk2 ⊢
  have hrl : (rests ss).reverse.length = ss.length := by simp [rests_len]
  have hzl : ((rests ss).reverse.zip ds.reverse).length = ss.length := by simp [rests_len, hl]
  refine for_idx ((rests ss).reverse.zip ds.reverse) (fun q : Int × Int => .tup [.int q.1, .int q.2]) (fun i e S => (∃ x y, e = [some (row ss), some (row ds), some (.int (back (ss.drop (ss.length - i)) (ds.drop (ss.length - i)))), x, y]) ∧ S = U) (fun i y e S hy hh => ?_) (fun e S hh => ?_) ⟨⟨none, none, by simp [back]⟩, rfl⟩
  · obtain ⟨⟨x, z, rfl⟩, rfl⟩ := hh
    refine ⟨guard_one' hk2, ?_⟩
    have hi : i < ss.length := by rw [← hzl]; exact (List.getElem?_eq_some_iff.mp hy).1
    obtain ⟨q1, q2⟩ := List.getElem?_zip_eq_some.mp hy
    obtain ⟨r, d⟩ := y
    have e0 : ss.length - 1 - i < ss.length := by omega
    rw [List.getElem?_reverse (by rw [rests_len]; omega), rests_len, rest_at ss _ e0] at q1
    rw [List.getElem?_reverse (by omega), hl] at q2
    have hs : ss[ss.length - 1 - i]? = some (ss[ss.length - 1 - i]) := List.getElem?_eq_getElem e0
    have bk := back_at hs q2
    have e1 : ss.length - 1 - i + 1 = ss.length - i := by omega
    have e2 : ss.length - 1 - i = ss.length - (i + 1) := by omega
    rw [e1] at q1 bk
    rw [e2] at bk
    have q1 : prod (ss.drop (ss.length - i)) = r := Option.some.inj q1
    rw [q1] at bk
    have hdd : d.natAbs < 1000 := hd d (List.mem_of_getElem? q2)
    have mo : mulOk d r = true := mulOk_l (by omega)
    rw [bk]
    generalize back (ss.drop (ss.length - i)) (ds.drop (ss.length - i)) = v
    by_cases c : d % 2 = 1
    · simp [c, mo]
    · simp [c, mo]
  · obtain ⟨⟨x, z, rfl⟩, rfl⟩ := hh
    refine ⟨guard_one' hk2, ?_⟩
    have e : ss.length - ((rests ss).reverse.zip ds.reverse).length = 0 := by rw [hzl]; omega
    rw [e]
    simp
/-! ### where two rows are unlike -/
def unl (a b : List Int) : List Int := List.map (fun (n : Nat) => Int.ofNat n) ((List.range a.length).filter fun (n : Nat) => decide (a.getD n 0 ≠ b.getD n 0))
theorem unlike_call {S : Sto} {Q : D → Sto → Prop} {a b : List Int} (h : a.length = b.length) (hl : a.length ≤ 1000) (k : ∀ T k, Ext S T → T[k]? = some (.lst ((unl a b).map .int)) → Q (.ref k) T) : Ret (callI f__law_unlike [row a, row b] S) Q := by
  refine call_list (flats_lo 0 _ (by simp [D.flats])) (by simp) ?_ k
  rw [w_runF]
  refine ⟨rfl, ?_⟩
  have hz : (line : Nat) = 16777216 := rfl
  simp only [b__law_unlike, List.map_cons, List.map_nil, List.replicate, List.cons_append, List.nil_append, w_ss1, w_ret, w_comp, w_rng, w_es1, w_es0, w_blt, w_var, List.getElem?_cons_zero, opt_some, bl_len, row, len_tup, ret_some, List.length_map, rng_ok (show a.length ≤ 16777216 by omega)]
  refine ⟨by simp; omega, ?_⟩
  rw [comp_map (fun i : Nat => .int i) (fun i => decide (a.getD i 0 ≠ b.getD i 0)) (fun i => .int i) rfl (List.range a.length) fun i hi => ?_]
  · simp [unl]
  · have hi : i < a.length := by simpa using hi
    have i1 : ∀ S : Sto, idxI S (.tup (a.map .int)) (.int i) = some (.int (a.getD i 0)) := fun S => idx_row S hi
    have i2 : ∀ S : Sto, idxI S (.tup (b.map .int)) (.int i) = some (.int (b.getD i 0)) := fun S => idx_row S (h ▸ hi)
    simp [N.wipe, i1, i2]
/-! ### a row's fault -/
theorem isint_call {S : Sto} {Q : D → Sto → Prop} {x : Int} (k : Q (.bl true) S) : Ret (callI f_is_integer [.int x] S) Q := by
  refine call_flat (d := .bl true) (by simp [D.flats]; rfl) rfl ?_ k
  rw [w_runF]
  refine ⟨rfl, ?_⟩
  simp [b_is_integer, isiB, isiI]
end N.K93
set_option autoImplicit false
set_option linter.all false
set_option maxRecDepth 100000
set_option maxHeartbeats 1000000
namespace N.K93
open N N.Mix
/-! ### one digit is unlike -/
theorem only_one {t : Nat} : ∀ m : Nat, t < m → (List.range m).filter (fun i => decide (i = t)) = [t]
  | 0, h => absurd h (by simp)
  | m + 1, h => by
    rw [List.range_succ, List.filter_append]
    by_cases c : t = m
    · subst c
      have : (List.range t).filter (fun i => decide (i = t)) = [] := by
        rw [List.filter_eq_nil_iff]
        intro i hi
        simp at hi ⊢
        omega
      rw [this]; simp
    · rw [only_one m (by omega)]
      simp
      omega
theorem rev_get {G : List Int} {i : Nat} (h : i < G.length) : G.reverse.getD i 0 = G.getD (G.length - 1 - i) 0 := by
  rw [List.getD_eq_getElem?_getD, List.getElem?_reverse h, List.getD_eq_getElem?_getD]
theorem set_get {G : List Int} {j i : Nat} {x : Int} (h : j < G.length) : (G.set j x).getD i 0 = if i = j then x else G.getD i 0 := by
  rw [List.getD_eq_getElem?_getD, List.getD_eq_getElem?_getD]
  by_cases c : i = j
  · subst c
    rw [List.getElem?_set_self h, if_pos rfl]; rfl
  · rw [List.getElem?_set_ne (by omega), if_neg c]
theorem unl_set {G : List Int} {j : Nat} {x : Int} (h : j < G.length) (hx : x ≠ G.getD j 0) : unl G.reverse (G.set j x).reverse = [((G.length - 1 - j : Nat) : Int)] := by
  unfold unl
  have e : (List.range G.reverse.length).filter (fun (n : Nat) => decide (G.reverse.getD n 0 ≠ (G.set j x).reverse.getD n 0)) = (List.range G.length).filter (fun i => decide (i = G.length - 1 - j)) := by
    rw [List.length_reverse]
    apply List.filter_congr
    intro i hi
    have hi : i < G.length := by simpa using hi
    rw [rev_get hi, rev_get (by simpa using hi), List.length_set, set_get h]
    by_cases c : G.length - 1 - i = j
    · rw [if_pos c, c]
      have : i = G.length - 1 - j := by omega
      have h3 : ¬ G.getD j 0 = x := fun q => hx q.symm
      rw [decide_eq_true this, decide_eq_true h3]
    · rw [if_neg c]
      have : ¬ i = G.length - 1 - j := by omega
      simp [this]
  rw [e, only_one _ (by omega)]
  rfl
/-- the pairs that are unlike, with their places -/
theorem pairs_unl (a b : List Int) (h : a.length = b.length) : (a.zip b).zipIdx.filter (fun q => decide (q.1.1 ≠ q.1.2)) = ((List.range a.length).filter fun (n : Nat) => decide (a.getD n 0 ≠ b.getD n 0)).map fun n => ((a.getD n 0, b.getD n 0), n) := by
  have e : (a.zip b).zipIdx = (List.range a.length).map fun n => ((a.getD n 0, b.getD n 0), n) := by
    apply List.ext_getElem
    · simp [h]
    · intro i h1 h2
      have h3 : i < a.length := by simpa using h2
      have h4 : i < b.length := h ▸ h3
      simp [List.getD_eq_getElem?_getD, List.getElem?_eq_getElem h3, List.getElem?_eq_getElem h4]
  rw [e, List.filter_map]
  rfl
/-- the row's step -/
structure Nx (ss : List Int) (p : Int) (j : Nat) (w : Int) : Prop where
  lt : j < ss.length
  way : w = 1 ∨ w = -1
  get : w = (wy ss.reverse p).getD j 0
  row : refl ss (p + 1) = ((gf ss.reverse p).set j ((gf ss.reverse p).getD j 0 + w)).reverse
  un : unl (refl ss p) (refl ss (p + 1)) = [((ss.length - 1 - j : Nat) : Int)]
  old : (refl ss p).getD (ss.length - 1 - j) 0 = (gf ss.reverse p).getD j 0
  new : (refl ss (p + 1)).getD (ss.length - 1 - j) 0 = (gf ss.reverse p).getD j 0 + w
theorem refl_gf {ss : List Int} {p : Int} (h : Sz ss) (h0 : 0 ≤ p) (h1 : p < prod ss) : refl ss p = (gf ss.reverse p).reverse := by
  have := refl_rev ss.reverse p h.rev h0 (by rw [prod_rev]; exact h1)
  rw [List.reverse_reverse] at this
  exact this
theorem nx_of {ss : List Int} {p : Int} (h : Sz ss) (h0 : 0 ≤ p) (h1 : p + 1 < prod ss) : Nx ss p (run (wt ss.reverse p)) ((wy ss.reverse p).getD (run (wt ss.reverse p)) 0) := by
  have st := step_of ss.reverse p h.rev h0 (by rw [prod_rev]; exact h1)
  have hl : run (wt ss.reverse p) < ss.length := by simpa using st.lt
  have gl : (gf ss.reverse p).length = ss.length := by rw [gf_len]; simp
  have wl : (wy ss.reverse p).length = ss.length := by rw [wy_len]; simp
  generalize hj : run (wt ss.reverse p) = j at *
  have hw : (wy ss.reverse p).getD j 0 = 1 ∨ (wy ss.reverse p).getD j 0 = -1 := by
    rw [List.getD_eq_getElem?_getD, List.getElem?_eq_getElem (by omega)]
    exact wy_val _ _ _ (List.getElem_mem _)
  have r1 : refl ss (p + 1) = ((gf ss.reverse p).set j ((gf ss.reverse p).getD j 0 + (wy ss.reverse p).getD j 0)).reverse := by
    rw [refl_gf h (by omega) h1, st.row]
  have r0 : refl ss p = (gf ss.reverse p).reverse := refl_gf h h0 (by omega)
  refine ⟨hl, hw, rfl, r1, ?_, ?_, ?_⟩
  · rw [r1, r0, unl_set (by omega) (by omega), gl]
  · rw [r0, rev_get (by omega), gl]
    congr 1
    omega
  · rw [r1, rev_get (by simp; omega), List.length_set, gl, set_get (by omega)]
    have : ss.length - 1 - (ss.length - 1 - j) = j := by omega
    rw [this, if_pos rfl]
/-! ### the functions -/
theorem fault_call {S : Sto} {Q : D → Sto → Prop} {ss ds : List Int} (hl : ds.length = ss.length) (h40 : ss.length ≤ 1000) (hb : ∀ i, i < ss.length → 0 ≤ ds.getD i 0 ∧ ds.getD i 0 < ss.getD i 0) (k : Q .non S) : Ret (callI f_digit_row_error [row ss, row ds] S) Q := by
  refine call_flat (d := .non) (by simp [D.flats]) rfl ?_ k
  rw [w_runF]
  refine ⟨rfl, ?_⟩
  have hz : (line : Nat) = 16777216 := rfl
  simp only [b_digit_row_error, List.map_cons, List.map_nil, List.replicate, List.cons_append, List.nil_append]
  refine step (P := fun e S => e = [some (row ss), some (row ds), none, none] ∧ S = []) (by simp [isiB, isiI, hl]) ?_
  rintro e S ⟨rfl, rfl⟩
  rw [w_ss1, w_forS]
  simp only [w_enum, w_var, List.getElem?_cons_succ, List.getElem?_cons_zero, opt_some, row, enum_tup, enumV_map]
  refine Run.imp (for_find (S := []) (fun e => ∃ x y, e = [some (row ss), some (row ds), x, y]) (fun q : Int × Nat => .tup [.int q.2, .int q.1]) (fun _ => false) (fun _ => .non) rfl ds.zipIdx (fun q hq e he => ?_) _ ⟨none, none, rfl⟩) fun f e T hh => ?_
  · obtain ⟨x, y, rfl⟩ := he
    obtain ⟨v, i⟩ := q
    have hq2 := List.mem_zipIdx_iff_getElem?.mp hq
    have hi : i < ds.length := (List.getElem?_eq_some_iff.mp hq2).1
    have hb := hb i (by omega)
    have e1 : ds.getD i 0 = v := by rw [List.getD_eq_getElem?_getD, hq2]; rfl
    rw [e1] at hb
    have ix : ∀ S : Sto, idxI S (.tup (ss.map .int)) (.int i) = some (.int (ss.getD i 0)) := fun S => idx_row S (by omega)
    simp
    refine isint_call ?_
    simp [ix, hb]
    rw [List.getD_eq_getElem?_getD] at hb
    exact hb.2
  · obtain ⟨rfl, ⟨x, y, rfl⟩, rfl⟩ := hh
    have : ds.zipIdx.find? (fun _ => false) = none := by simp
    rw [this]
    simp
end N.K93
set_option autoImplicit false
set_option linter.all false
set_option maxRecDepth 100000
set_option maxHeartbeats 1000000
namespace N.K93
open N N.Mix
/-! ### the first step -/
theorem step_call {S : Sto} {Q : D → Sto → Prop} {ss : List Int} {p : Int} {j : Nat} {w : Int} (h : Ok ss) (hn : ss ≠ []) (h0 : 0 ≤ p) (h1 : p < prod ss) (hx : p + 1 < prod ss → Nx ss p j w)
    (k : Q (if p + 1 < prod ss then .tup [.int (ss.length - 1 - j : Nat), .int w] else .non) S) : Ret (callI f_reflected_step [row ss, row (refl ss p)] S) Q := by
  refine call_flat (d := if p + 1 < prod ss then .tup [.int (ss.length - 1 - j : Nat), .int w] else .non) (by simp [D.flats]) (by split <;> rfl) ?_ k
  rw [w_runF]
  refine ⟨rfl, ?_⟩
  have hl := refl_len ss p
  have h40 := h.len
  have hz : (line : Nat) = 16777216 := rfl
  have hd : ∀ d ∈ refl ss p, d.natAbs < 1000 := by
    intro d hd
    obtain ⟨i, hi, e⟩ := List.mem_iff_getElem.mp hd
    have b := refl_bd ss p h.sz h0 h1 i (by omega)
    have e1 : (refl ss p).getD i 0 = d := by rw [List.getD_eq_getElem?_getD, List.getElem?_eq_getElem hi]; exact e
    rw [e1] at b
    have e2 : ss.getD i 0 ≤ 10 := by
      rw [List.getD_eq_getElem?_getD, List.getElem?_eq_getElem (by omega)]
      exact h.le _ (List.getElem_mem _)
    omega
  simp only [b_reflected_step, List.map_cons, List.map_nil, List.replicate, List.cons_append, List.nil_append]
  refine step (P := fun e S => e = [some (row ss), some (row (refl ss p)), some (.int (p + 1)), none, none, none, none] ∧ S = []) ?_ ?_
  · simp only [w_asg, w_bin, w_call, w_es1, w_es0, w_var, List.getElem?_cons_succ, List.getElem?_cons_zero, opt_some]
    refine back_call h hn hl hd ?_
    rw [back_refl ss p h.sz h0 h1]
    simp
  rintro e S ⟨rfl, rfl⟩
  by_cases c : p + 1 < prod ss
  · have Nn := hx c
    refine step (P := fun e S => e = [some (row ss), some (row (refl ss p)), some (.int (p + 1)), none, none, none, none] ∧ S = []) ?_ ?_
    · simp only [w_ifs, w_cmp, w_call, w_es1, w_es0, w_var, List.getElem?_cons_succ, List.getElem?_cons_zero, opt_some, w_c1]
      refine number_call h ?_
      have : ¬ p + 1 = prod ss := by omega
      simp [this]
    rintro e S ⟨rfl, rfl⟩
    refine step (P := fun e S => e = [some (row ss), some (row (refl ss p)), some (.int (p + 1)), some (row (refl ss (p + 1))), none, none, none] ∧ S = []) ?_ ?_
    · simp only [w_asg, w_call, w_es1, w_es0, w_var, List.getElem?_cons_succ, List.getElem?_cons_zero, opt_some]
      refine refl_call h hn ?_
      simp
    rintro e S ⟨rfl, rfl⟩
    have hl2 := refl_len ss (p + 1)
    have eq : (refl ss p).length = (refl ss (p + 1)).length := by omega
    rw [w_ss1, w_ret]
    simp only [w_idx, w_comp, w_enumz, w_var, List.getElem?_cons_succ, List.getElem?_cons_zero, opt_some, row, zipT, zipV_map, enumV_map]
    refine ⟨by simp; omega, ?_⟩
    rw [comp_map (fun q : (Int × Int) × Nat => .tup [.int q.2, .tup [.int q.1.1, .int q.1.2]]) (fun q => decide (q.1.1 ≠ q.1.2)) (fun q => .tup [.int q.2, .int (q.1.2 - q.1.1)]) rfl _ fun q hq => ?_]
    · rw [pairs_unl _ _ eq]
      have un := Nn.un
      unfold unl at un
      obtain ⟨n, hn2⟩ : ∃ n, (List.range (refl ss p).length).filter (fun (n : Nat) => decide ((refl ss p).getD n 0 ≠ (refl ss (p + 1)).getD n 0)) = [n] := by
        generalize (List.range (refl ss p).length).filter (fun (n : Nat) => decide ((refl ss p).getD n 0 ≠ (refl ss (p + 1)).getD n 0)) = L at un
        cases L with
        | nil => simp at un
        | cons n L =>
          cases L with
          | nil => exact ⟨n, rfl⟩
          | cons _ _ => simp at un
      rw [hn2] at un ⊢
      have e1 : n = ss.length - 1 - j := by
        simp at un
        omega
      subst e1
      have o := Nn.old
      have nw := Nn.new
      simp only [List.map_cons, List.map_nil, o, nw, ret_some, w_int, opt_some]
      have ix : idxI [O.lst [D.tup [.int ((ss.length - 1 - j : Nat) : Int), .int ((gf ss.reverse p).getD j 0 + w - (gf ss.reverse p).getD j 0)]]] (.ref 0) (.int 0) = some (.tup [.int ((ss.length - 1 - j : Nat) : Int), .int ((gf ss.reverse p).getD j 0 + w - (gf ss.reverse p).getD j 0)]) := idx_lst _ (i := 0) rfl rfl
      have e3 : (gf ss.reverse p).getD j 0 + w - (gf ss.reverse p).getD j 0 = w := by omega
      rw [e3] at ix ⊢
      simp only [List.length_nil, List.nil_append, ix, opt_some, then_rt, back_rt, if_pos c]
    · simp [N.wipe]
  · rw [if_neg c]
    have c2 : p + 1 = prod ss := by omega
    simp only [w_ss1, w_ifs, w_cmp, w_call, w_es1, w_es0, w_var, List.getElem?_cons_succ, List.getElem?_cons_zero, opt_some, w_c1]
    refine number_call h ?_
    simp [c2]
end N.K93
set_option autoImplicit false
set_option linter.all false
set_option maxRecDepth 100000
set_option maxHeartbeats 2000000
namespace N.K93
open N N.Mix
/-! ### the pointers of waits -/
theorem rng_down {m : Nat} (h : m ≤ 1000) : rngI [.int ((m : Int) - 1), .int (-1), .int (-1)] = some ((List.range m).map fun k : Nat => .int ((m : Int) - 1 - (k : Nat))) := by
  have hl : (line : Nat) = 16777216 := rfl
  have e1 : decide ((-1000000000 : Int) ≤ (m : Int) - 1) = true := decide_eq_true (by omega)
  have e2 : decide ((m : Int) - 1 ≤ 1000000000) = true := decide_eq_true (by omega)
  have e3 : decide ((m : Int) - 1 - (-1) ≤ (line : Nat)) = true := decide_eq_true (by omega)
  simp only [rngI]
  rw [e1, e2, e3]
  have e4 : ((m : Int) - 1 - (-1)).toNat = m := by omega
  simp only [rngV, e4]
  simp
theorem run_step {w : List Bool} {j t : Nat} (h : t ≤ run (w.drop j)) : (t < run (w.drop j) → j + t < w.length ∧ w[j + t]? = some true) ∧ (t = run (w.drop j) → w.length ≤ j + t ∨ w[j + t]? = some false) := by
  have key : ∀ (u : List Bool) (t : Nat), (t < run u → u[t]? = some true) ∧ (t = run u → u.length ≤ t ∨ u[t]? = some false) := by
    intro u
    induction u with
    | nil => intro t; simp [run]
    | cons a u ih =>
      intro t
      cases a with
      | false => simp [run]; intro q; subst q; exact .inr rfl
      | true =>
        cases t with
        | zero => simp [run]
        | succ t =>
          have := ih t
          simp only [run, List.getElem?_cons_succ, List.length_cons]
          exact ⟨fun q => this.1 (by omega), fun q => (this.2 (by omega)).imp (fun z => by omega) id⟩
  obtain ⟨a, b⟩ := key (w.drop j) t
  rw [List.getElem?_drop, List.length_drop] at *
  exact ⟨fun q => ⟨(List.getElem?_eq_some_iff.mp (a q)).1, a q⟩, fun q => (b q).imp (fun z => by omega) id⟩
theorem run_drop_le {w : List Bool} {j : Nat} (h : j ≤ w.length) : j + run (w.drop j) ≤ w.length := by
  have := run_le (w.drop j)
  rw [List.length_drop] at this
  omega
theorem idx_bools {S : Sto} {n i : Nat} {w : List Bool} (h : S[n]? = some (.lst (w.map .bl))) (hi : i < w.length) : idxI S (.ref n) (.int (i : Nat)) = some (.bl (w.getD i false)) :=
  idx_lst S h (by rw [List.getElem?_map, List.getElem?_eq_getElem hi, List.getD_eq_getElem?_getD, List.getElem?_eq_getElem hi]; rfl)
/-- the pointers, those from a place on -/
def half (w : List Bool) (a : Nat) : List Int := (List.range (w.length + 1)).map fun i => if a ≤ i then (ptr w i : Int) else (i : Int)
theorem half_all (w : List Bool) : half w 0 = ptrs w := by simp [half, ptrs]
theorem ptr_top (w : List Bool) : ptr w w.length = w.length := by
  unfold ptr
  rw [if_neg]
  intro z
  have : w.getD w.length false = false := by simp
  rw [this] at z
  exact absurd z.1 (by decide)
theorem half_set {w : List Bool} {j : Nat} (h : j < w.length) : (half w (j + 1)).set j (ptr w j : Int) = half w j := by
  apply List.ext_getElem?
  intro i
  by_cases hi : i = j
  · subst hi
    rw [List.getElem?_set_self (by simp [half]; omega)]
    unfold half
    rw [List.getElem?_map, List.getElem?_range (by omega)]
    simp
  · rw [List.getElem?_set_ne (by omega)]
    unfold half
    rw [List.getElem?_map, List.getElem?_map]
    by_cases hl : i < w.length + 1
    · rw [List.getElem?_range hl]
      simp only [Option.map_some]
      congr 1
      by_cases c : j + 1 ≤ i
      · rw [if_pos c, if_pos (by omega)]
      · rw [if_neg c, if_neg (by omega)]
    · rw [List.getElem?_eq_none (by simp; omega)]
      rfl
theorem half_top (w : List Bool) : half w w.length = List.map (fun (i : Nat) => Int.ofNat i) (List.range (w.length + 1)) := by
  unfold half
  apply List.map_congr_left
  intro i hi
  have hi : i < w.length + 1 := by simpa using hi
  by_cases c : w.length ≤ i
  · have : i = w.length := by omega
    rw [if_pos c, this, ptr_top]; rfl
  · rw [if_neg c]; rfl
theorem half_len (w : List Bool) (a : Nat) : (half w a).length = w.length + 1 := by simp [half]
theorem while_ptr {S : Sto} {n j F : Nat} {w : List Bool} {bg : Bool} (h : S[n]? = some (.lst (w.map .bl))) (hl : w.length ≤ 40) (hbg : bg = true ↔ (j = 0 ∨ w.getD (j - 1) false = false)) (c : w.getD j false = true) (jl : j < w.length) (hF : 100 < F) :
    Run (whL (fun e S => thenT (evalE (.and (.var 4) [.cmp (.var 5) [.lt] [.var 1], .idx (.var 0) (.var 5)]) e S)) (execSs [.asg (.tgN 5) (.bin .add (.var 5) (.int 1))]) F [some (.ref n), some (.int w.length), some (.ref S.length), some (.int j), some (.bl bg), some (.int j)] (S ++ [O.lst ((half w (j + 1)).map .int)]))
      fun f e T => f = .nx ∧ (∃ v : Int, (bg = true → v = (ptr w j : Int)) ∧ e = [some (.ref n), some (.int w.length), some (.ref S.length), some (.int j), some (.bl bg), some (.int v)]) ∧ T = S ++ [O.lst ((half w (j + 1)).map .int)] := by
  have hW : (S ++ [O.lst ((half w (j + 1)).map .int)])[n]? = some (.lst (w.map .bl)) := (Ext.app S _).at h
  have rl := run_drop_le (w := w) (j := j) (by omega)
  refine wh_inv (fun m e T => (∃ t : Nat, t ≤ run (w.drop j) ∧ m = run (w.drop j) - t ∧ e = [some (.ref n), some (.int w.length), some (.ref S.length), some (.int j), some (.bl bg), some (.int ((j + t : Nat) : Int))]) ∧ T = S ++ [O.lst ((half w (j + 1)).map .int)]) ?_ F (run (w.drop j)) _ _ (by omega) ⟨⟨0, by omega, by omega, rfl⟩, rfl⟩
  rintro m e T ⟨⟨t, ht, hm, rfl⟩, rfl⟩
  obtain ⟨rs1, rs2⟩ := run_step ht
  cases bg with
  | false =>
    simp
  | true =>
    rcases Nat.lt_or_ge t (run (w.drop j)) with q | q
    · obtain ⟨q1, q2⟩ := rs1 q
      have ix := idx_bools hW (i := j + t) q1
      have gt : w.getD (j + t) false = true := by rw [List.getD_eq_getElem?_getD, q2]; rfl
      rw [gt] at ix
      have lt : ((j + t : Nat) : Int) < w.length := by omega
      simp only [w_thenT, w_and, w_var, List.getElem?_cons_succ, List.getElem?_cons_zero, opt_some, w_and1, tru_bl, if_true, w_cmp, w_c1, w_c0, cmp_lt, decide_eq_true lt, w_idx, ix, w_and0, w_ss1, w_ss0, w_asg, w_bin, w_int, b_add, ret_some, w_tgN, List.set_cons_succ, List.set_cons_zero, then_nx]
      exact ⟨m - 1, by omega, ⟨t + 1, by omega, by omega, by simp; omega⟩, trivial⟩
    · have q3 : t = run (w.drop j) := by omega
      have fin : (true = true → ((j + t : Nat) : Int) = (ptr w j : Int)) := fun _ => by
        unfold ptr
        rw [if_pos ⟨c, hbg.mp rfl⟩, q3]
      rcases rs2 q3 with r | r
      · have nlt : ¬ ((j + t : Nat) : Int) < w.length := by omega
        simp only [w_thenT, w_and, w_var, List.getElem?_cons_succ, List.getElem?_cons_zero, opt_some, w_and1, tru_bl, if_true, w_cmp, w_c1, w_c0, cmp_lt, decide_eq_false nlt, Bool.false_eq_true, if_false]
        exact ⟨trivial, ⟨_, fun _ => fin rfl, rfl⟩, trivial⟩
      · have q1 : j + t < w.length := (List.getElem?_eq_some_iff.mp r).1
        have ix := idx_bools hW (i := j + t) q1
        have gt : w.getD (j + t) false = false := by rw [List.getD_eq_getElem?_getD, r]; rfl
        rw [gt] at ix
        have lt : ((j + t : Nat) : Int) < w.length := by omega
        simp only [w_thenT, w_and, w_var, List.getElem?_cons_succ, List.getElem?_cons_zero, opt_some, w_and1, tru_bl, if_true, w_cmp, w_c1, w_c0, cmp_lt, decide_eq_true lt, w_idx, ix, w_and0, Bool.false_eq_true, if_false]
        exact ⟨trivial, ⟨_, fun _ => fin rfl, rfl⟩, trivial⟩
theorem body_ptr {S : Sto} {n j F : Nat} {w : List Bool} {y z : Option D} (h : S[n]? = some (.lst (w.map .bl))) (hl : w.length ≤ 40) (jl : j < w.length) (hFu : 100 < F) :
    Run (execSs [.ife (.idx (.var 0) (.var 3)) [.asg (.tgN 4) (.or (.cmp (.var 3) [.eq] [.int 0]) [.not (.idx (.var 0) (.bin .sub (.var 3) (.int 1)))]),
      .asg (.tgN 5) (.var 3),
      .wh F (.and (.var 4) [.cmp (.var 5) [.lt] [.var 1], .idx (.var 0) (.var 5)]) [.asg (.tgN 5) (.bin .add (.var 5) (.int 1))],
      .asg (.tgS (.var 2) (.var 3)) (.ife (.var 4) (.var 5) (.var 3))] []] [some (.ref n), some (.int w.length), some (.ref S.length), some (.int (j : Nat)), y, z] (S ++ [O.lst ((half w (j + 1)).map .int)]))
      fun f e2 S2 => f = .nx ∧ (∃ x y z, e2 = [some (.ref n), some (.int w.length), some (.ref S.length), x, y, z]) ∧ S2 = S ++ [O.lst ((half w j).map .int)] := by
  have hW : (S ++ [O.lst ((half w (j + 1)).map .int)])[n]? = some (.lst (w.map .bl)) := (Ext.app S _).at h
  have hF : (S ++ [O.lst ((half w (j + 1)).map .int)])[S.length]? = some (.lst ((half w (j + 1)).map .int)) := last_at _ _
  have ij := idx_bools hW jl
  have own : (half w (j + 1)).map D.int = (half w j).map D.int → S ++ [O.lst ((half w (j + 1)).map .int)] = S ++ [O.lst ((half w j).map .int)] := fun q => by rw [q]
  rw [w_ss1]
  simp only [w_ifs, w_idx, w_var, List.getElem?_cons_succ, List.getElem?_cons_zero, opt_some, ij, tru_bl]
  by_cases c : w.getD j false = true
  · simp only [c, if_true]
    -- where it begins
    obtain ⟨bg, hbg⟩ : ∃ bg : Bool, bg = true ↔ (j = 0 ∨ w.getD (j - 1) false = false) := by
      by_cases q : j = 0 ∨ w.getD (j - 1) false = false
      · exact ⟨true, ⟨fun _ => q, fun _ => rfl⟩⟩
      · exact ⟨false, ⟨fun z => Bool.noConfusion z, fun z => absurd z q⟩⟩
    refine step (P := fun e T => e = [some (.ref n), some (.int w.length), some (.ref S.length), some (.int j), some (.bl bg), z] ∧ T = S ++ [O.lst ((half w (j + 1)).map .int)]) ?_ ?_
    · by_cases c0 : j = 0
      · have : bg = true := hbg.mpr (.inl c0)
        subst c0
        simp [this]
      · have ij2 : idxI (S ++ [O.lst ((half w (j + 1)).map .int)]) (.ref n) (.int ((j : Int) - 1)) = some (.bl (w.getD (j - 1) false)) := by
          have := idx_bools hW (i := j - 1) (by omega)
          have e : ((j - 1 : Nat) : Int) = (j : Int) - 1 := by omega
          rw [e] at this; exact this
        have c1 : ¬ (j : Int) = 0 := by omega
        simp only [w_asg, w_or, w_cmp, w_var, List.getElem?_cons_succ, List.getElem?_cons_zero, opt_some, w_int, w_c1, w_c0, cmp_eq, eq_int, decide_eq_false c1, w_or1, tru_bl, Bool.false_eq_true, if_false, w_not, w_idx, w_bin, b_sub, ret_some, ij2, w_or0, w_tgN, List.set_cons_succ, List.set_cons_zero]
        refine ⟨trivial, ?_, trivial⟩
        have : (!w.getD (j - 1) false) = bg := by
          cases hv : w.getD (j - 1) false with
          | false => exact (hbg.mpr (.inr hv)).symm
          | true =>
            cases bg with
            | false => rfl
            | true =>
              rcases hbg.mp rfl with q | q
              · exact absurd q c0
              · rw [hv] at q; cases q
        rw [this]
    rintro e T ⟨rfl, rfl⟩
    refine step (P := fun e T => e = [some (.ref n), some (.int w.length), some (.ref S.length), some (.int j), some (.bl bg), some (.int j)] ∧ T = S ++ [O.lst ((half w (j + 1)).map .int)]) (by simp) ?_
    rintro e T ⟨rfl, rfl⟩
    refine step (P := fun e T => (∃ v : Int, (bg = true → v = (ptr w j : Int)) ∧ e = [some (.ref n), some (.int w.length), some (.ref S.length), some (.int j), some (.bl bg), some (.int v)]) ∧ T = S ++ [O.lst ((half w (j + 1)).map .int)]) ?_ ?_
    · rw [w_wh]
      exact while_ptr h hl hbg c jl hFu
    rintro e T ⟨⟨v, hv, rfl⟩, rfl⟩
    have pv : (if bg = true then v else (j : Int)) = (ptr w j : Int) := by
      cases bg with
      | true => exact hv rfl
      | false =>
        have pj : ptr w j = j := by
          unfold ptr
          rw [if_neg fun z => absurd (hbg.mpr z.2) (by simp)]
        rw [if_neg (by simp), pj]
    have st := set_lst (j := j) (v := .int (ptr w j : Int)) hF (by simp [half_len]; omega)
    have e5 : ((half w (j + 1)).map D.int).set j (.int (ptr w j : Int)) = (half w j).map .int := by
      rw [← List.map_set, half_set jl]
    rw [e5] at st
    have e6 : (S ++ [O.lst ((half w (j + 1)).map .int)]).set S.length (.lst ((half w j).map .int)) = S ++ [O.lst ((half w j).map .int)] := by simp
    rw [e6] at st
    simp only [w_ss1, w_ss0, w_asg, w_ife, w_var, List.getElem?_cons_succ, List.getElem?_cons_zero, opt_some, tru_bl]
    cases bg with
    | true =>
      simp only [if_true] at pv ⊢
      subst pv
      simp [st]
    | false =>
      simp only [Bool.false_eq_true, if_false] at pv ⊢
      rw [pv]
      simp only [w_tgS, w_var, List.getElem?_cons_succ, List.getElem?_cons_zero, opt_some]
      rw [← pv] at st ⊢
      simp [st]
  · have c : w.getD j false = false := by simpa using c
    have pj : ptr w j = j := ptr_own c
    have e5 : half w (j + 1) = half w j := by
      rw [← half_set jl, pj]
      symm
      have : (half w (j + 1))[j]? = some (j : Int) := by
        unfold half
        rw [List.getElem?_map, List.getElem?_range (by omega)]
        simp
        intro q
        omega
      apply List.ext_getElem?
      intro i
      by_cases hi : i = j
      · subst hi
        rw [List.getElem?_set_self (by rw [half_len]; omega), this]
      · rw [List.getElem?_set_ne (by omega)]
    rw [e5]
    simp only [c, Bool.false_eq_true, if_false, w_ss0, then_nx]
    exact ⟨trivial, ⟨_, _, _, rfl⟩, trivial⟩
end N.K93
set_option autoImplicit false
set_option linter.all false
set_option maxRecDepth 100000
set_option maxHeartbeats 2000000
namespace N.K93
open N N.Mix
theorem pointers_call {S : Sto} {Q : D → Sto → Prop} {n : Nat} {w : List Bool} (h : S[n]? = some (.lst (w.map .bl))) (hl : w.length ≤ 40) (k : ∀ T, Ext S T → Q (row (ptrs w)) T) : Ret (callI f_pointers_by [.ref n] S) Q := by
  have nl : n < S.length := (List.getElem?_eq_some_iff.mp h).1
  suffices run : Ret (f_pointers_by [.ref n] S) fun d T => d = row (ptrs w) ∧ Ext S T by
    refine call_ref (by simp [D.los, D.lo]) (run.imp fun d T ⟨e, h2⟩ => ?_)
    subst e
    refine ⟨k T h2, fun _ => ?_⟩
    obtain ⟨U, rfl⟩ := h2
    rw [List.take_left']
    · exact k S (Ext.refl S)
    · rfl
  rw [w_runF]
  refine ⟨rfl, ?_⟩
  have hz : (line : Nat) = 16777216 := rfl
  simp only [b_pointers_by, List.map_cons, List.map_nil, List.replicate, List.cons_append, List.nil_append]
  have hml : (w.map D.bl).length = w.length := List.length_map ..
  have hFu : 100 < fuel := by decide
  generalize fuel = F at hFu ⊢
  -- the length, closed to evaluation
  obtain ⟨M, hM⟩ : ∃ M : Int, M = w.length := ⟨_, rfl⟩
  have rg : rngI [.int (M + 1)] = some ((half w w.length).map .int) := by
    have rg := rng_ok (n := w.length + 1) (by omega)
    have e : ((w.length + 1 : Nat) : Int) = M + 1 := by omega
    rw [e] at rg
    rw [rg, half_top, List.map_map]
    rfl
  have rd : rngI [.int (M - 1), .int (-1), .int (-1)] = some ((List.range w.length).map fun k : Nat => .int (M - 1 - (k : Nat))) := by
    rw [hM]; exact rng_down (by omega)
  refine step (P := fun e T => e = [some (.ref n), some (.int M), none, none, none, none] ∧ S = T) ?_ ?_
  · simp [len_lst h, hM]
  rintro e T ⟨rfl, rfl⟩
  refine step (P := fun e T => e = [some (.ref n), some (.int M), some (.ref S.length), none, none, none] ∧ T = S ++ [O.lst ((half w w.length).map .int)]) ?_ ?_
  · simp only [w_asg, w_rngL, w_es1, w_es0, w_bin, w_var, List.getElem?_cons_succ, List.getElem?_cons_zero, opt_some, w_int, b_add, ret_some, rg, w_tgN, List.set_cons_succ, List.set_cons_zero]
    exact ⟨trivial, trivial, trivial⟩
  rintro e T ⟨rfl, rfl⟩
  rw [w_ss1, w_forS]
  simp only [w_rng, w_es1, w_es0, w_bin, w_var, List.getElem?_cons_succ, List.getElem?_cons_zero, opt_some, w_int, b_sub, w_neg, ret_some, rd]
  refine for_range w.length (fun k : Nat => .int (M - 1 - (k : Nat))) (fun k e T => (∃ x y z, e = [some (.ref n), some (.int M), some (.ref S.length), x, y, z]) ∧ T = S ++ [O.lst ((half w (w.length - k)).map .int)]) (fun i e T hi hh => ?_) (fun e T hh => ?_) ⟨⟨none, none, none, rfl⟩, by simp⟩
  · obtain ⟨⟨x, y, z, rfl⟩, rfl⟩ := hh
    refine ⟨rfl, ?_⟩
    obtain ⟨j, hj⟩ : ∃ j, j = w.length - 1 - i := ⟨_, rfl⟩
    have e1 : (M - 1 - (i : Nat)) = (j : Nat) := by omega
    have e2 : w.length - i = j + 1 := by omega
    have e3 : w.length - (i + 1) = j := by omega
    rw [e1, e2, e3]
    simp only [w_tgN, List.set_cons_succ, List.set_cons_zero]
    clear rd rg
    subst hM
    exact body_ptr h hl (by omega) hFu
  · obtain ⟨⟨x, y, z, rfl⟩, rfl⟩ := hh
    refine ⟨rfl, ?_⟩
    have hF : (S ++ [O.lst ((half w (w.length - w.length)).map .int)])[S.length]? = some (.lst ((half w (w.length - w.length)).map .int)) := last_at _ _
    have e0 : w.length - w.length = 0 := by omega
    rw [e0, half_all] at hF ⊢
    simp only [then_nx, w_ss1, w_ret, w_blt, w_es1, w_es0, w_var, List.getElem?_cons_succ, List.getElem?_cons_zero, opt_some, bl_tuple, tup_lst hF, ret_some, then_rt, back_rt]
    exact ⟨trivial, Ext.app _ _⟩
end N.K93
set_option autoImplicit false
set_option linter.all false
set_option maxRecDepth 100000
set_option maxHeartbeats 2000000
namespace N.K93
open N N.Mix
/-! ### states -/
def sta (ss : List Int) (p : Int) : List (List Int) := [gf ss p, ptrs (wt ss p), wy ss p]
theorem pre_div {ss : List Int} {p : Int} {i : Nat} {s : Int} (h : Sz ss) (hs : ss[i]? = some s) : p / pre ss i / s = p / pre ss (i + 1) := by
  have hi := (List.getElem?_eq_some_iff.mp hs).1
  have e : ss.getD i 0 = s := by rw [List.getD_eq_getElem?_getD, hs]; rfl
  have := pre_pos i h
  rw [Int.ediv_ediv_of_nonneg (by omega), pre_succ ss i hi, e]
theorem gf_at : ∀ (ss : List Int) (p : Int) (i : Nat) (s : Int), Sz ss → ss[i]? = some s → (gf ss p)[i]? = some (if p / pre ss i / s % 2 = 0 then p / pre ss i % s else s - 1 - p / pre ss i % s)
  | [], _, _, _, _, h => by simp at h
  | x :: ss, p, 0, s, _, h => by
    simp at h
    subst h
    simp [gf, pre]
  | x :: ss, p, i + 1, s, hs, h => by
    have a := hs.head
    have := gf_at ss (p / x) i s hs.tail (by simpa using h)
    simp only [gf, List.getElem?_cons_succ, this, pre]
    rw [Int.ediv_ediv_of_nonneg (x := p) (y := x) (by omega)]
    rfl
theorem wt_at : ∀ (ss : List Int) (p : Int) (i : Nat) (s : Int), Sz ss → ss[i]? = some s → (wt ss p)[i]? = some (decide (p / pre ss i % s = s - 1))
  | [], _, _, _, _, h => by simp at h
  | x :: ss, p, 0, s, _, h => by
    simp at h
    subst h
    simp [wt, pre]
  | x :: ss, p, i + 1, s, hs, h => by
    have a := hs.head
    have := wt_at ss (p / x) i s hs.tail (by simpa using h)
    simp only [wt, List.getElem?_cons_succ, this, pre]
    rw [Int.ediv_ediv_of_nonneg (x := p) (y := x) (by omega)]
    rfl
theorem wy_at : ∀ (ss : List Int) (p : Int) (i : Nat) (s : Int), Sz ss → ss[i]? = some s → (wy ss p)[i]? = some (if (p / pre ss i / s + (if p / pre ss i % s = s - 1 then 1 else 0)) % 2 = 0 then 1 else -1)
  | [], _, _, _, _, h => by simp at h
  | x :: ss, p, 0, s, _, h => by
    simp at h
    subst h
    simp [wy, pre]
  | x :: ss, p, i + 1, s, hs, h => by
    have a := hs.head
    have := wy_at ss (p / x) i s hs.tail (by simpa using h)
    simp only [wy, List.getElem?_cons_succ, this, pre]
    rw [Int.ediv_ediv_of_nonneg (x := p) (y := x) (by omega)]
    rfl
theorem take_snoc {α : Type} {xs : List α} {i : Nat} {x : α} (h : xs[i]? = some x) : xs.take (i + 1) = xs.take i ++ [x] := by
  rw [List.take_succ, h]; rfl
theorem app_at {α : Type} {S : Sto} {n i : Nat} {xs : List α} {x : α} {f : α → D} (h : S[n]? = some (.lst ((xs.take i).map f))) (hx : xs[i]? = some x) (hl : xs.length ≤ 1000) : methI S .append (.ref n) [f x] = some (.non, S.set n (.lst ((xs.take (i + 1)).map f))) := by
  rw [app_lst h (by simp; omega), take_snoc hx, List.map_append]; rfl
theorem focus_end {fp : Fn} {T0 : Sto} {u x y z : Option D} {a c : List D} {b : D} (g0 : T0[0]? = some (.lst a)) (g1 : T0[1]? = some (.lst c))
    (pc : ∀ {Q : D → Sto → Prop}, (∀ T, Ext T0 T → Q b T) → Ret (callI fp [.ref 2] T0) Q) :
    Run (execSs [.ret (.tup [.blt .tuple [.var 3], .call [112, 111, 105, 110, 116, 101, 114, 115, 95, 98, 121] fp [.var 5], .blt .tuple [.var 4]])] [u, x, y, some (.ref 0), some (.ref 1), some (.ref 2), z] T0) (Back fun d _ => d = .tup [.tup a, b, .tup c]) := by
  have t0 := tup_lst g0
  rw [w_ss1, w_ret]
  simp only [w_tup, w_es1, w_es0, w_blt, w_var, List.getElem?_cons_succ, List.getElem?_cons_zero, opt_some, bl_tuple, t0, ret_some, w_call]
  refine pc fun T ex => ?_
  have t1 := tup_lst (S := T) (ex.at g1)
  simp only [t1, ret_some, then_rt, back_rt]
theorem focus_call {S : Sto} {Q : D → Sto → Prop} {ss : List Int} {p : Int} (h : Ok ss) (k : Q (rows (sta ss p)) S) : Ret (callI f_focus_at [row ss, .int p] S) Q := by
  refine call_flat (d := rows (sta ss p)) (by simp [D.flats]; rfl) (flat_rows _) ?_ k
  rw [w_runF]
  refine ⟨rfl, ?_⟩
  have h40 := h.len
  simp only [b_focus_at, List.map_cons, List.map_nil, List.replicate, List.cons_append, List.nil_append]
  have pc : ∀ {S : Sto} {Q : D → Sto → Prop} {n : Nat} {w : List Bool}, S[n]? = some (.lst (w.map .bl)) → w.length ≤ 40 → (∀ T, Ext S T → Q (row (ptrs w)) T) → Ret (callI f_pointers_by [.ref n] S) Q := fun a b c => pointers_call a b c
  generalize f_pointers_by = fp at pc ⊢
  refine step (P := fun e S => e = [some (row ss), some (.int p), none, some (.ref 0), some (.ref 1), some (.ref 2), none] ∧ S = [.lst [], .lst [], .lst []]) (by simp) ?_
  rintro e S ⟨rfl, rfl⟩
  refine step (P := fun e S => (∃ q x y, e = [some (row ss), some (.int q), x, some (.ref 0), some (.ref 1), some (.ref 2), y]) ∧ S = [.lst ((gf ss p).map .int), .lst ((wy ss p).map .int), .lst ((wt ss p).map .bl)]) ?_ ?_
  · rw [w_forS]
    simp only [w_wk, w_var, List.getElem?_cons_zero, opt_some, row, walk_tup]
    refine for_idx ss (fun s : Int => .int s) (fun i e S => (∃ x y, e = [some (row ss), some (.int (p / pre ss i)), x, some (.ref 0), some (.ref 1), some (.ref 2), y]) ∧ S = [.lst (((gf ss p).take i).map .int), .lst (((wy ss p).take i).map .int), .lst (((wt ss p).take i).map .bl)]) (fun i y e S hy hh => ?_) (fun e S hh => ?_) ⟨⟨none, none, by rw [pre_zero, Int.ediv_one]⟩, by simp⟩
    · obtain ⟨⟨x, z, rfl⟩, rfl⟩ := hh
      refine ⟨rfl, ?_⟩
      obtain ⟨y1, y2⟩ := h.at hy
      have dy : divOk y = true := divOk_of (k := 10) (by omega) (by omega) (by decide)
      have hp : decide (0 < y) = true := by simp; omega
      have a1 := gf_at ss p i y h.sz hy
      have a2 := wt_at ss p i y h.sz hy
      have a3 := wy_at ss p i y h.sz hy
      have pd := pre_div (p := p) h.sz hy
      rw [pd] at a1 a3
      generalize p / pre ss (i + 1) = q at a1 a3 pd ⊢
      generalize p / pre ss i = r at a1 a2 a3 pd ⊢
      generalize hG : (gf ss p) = G at a1 ⊢
      generalize hW : (wt ss p) = W at a2 ⊢
      generalize hY : (wy ss p) = Y at a3 ⊢
      have lG : G.length ≤ 1000 := by rw [← hG, gf_len]; omega
      have lW : W.length ≤ 1000 := by rw [← hW, wt_len]; omega
      have lY : Y.length ≤ 1000 := by rw [← hY, wy_len]; omega
      have g2 : ([O.lst ((G.take i).map .int), O.lst ((Y.take i).map .int), O.lst ((W.take i).map .bl)] : Sto)[2]? = some (.lst ((W.take i).map .bl)) := rfl
      have m2 := app_at (f := D.bl) g2 a2 lW
      simp only [w_tgN, List.set_cons_succ, List.set_cons_zero]
      refine step (P := fun e S => e = [some (row ss), some (.int q), some (.int y), some (.ref 0), some (.ref 1), some (.ref 2), some (.int (r % y))] ∧ S = [O.lst ((G.take i).map .int), O.lst ((Y.take i).map .int), O.lst ((W.take i).map .bl)]) ?_ ?_
      · simp [dy, hp, pd]
      rintro e S ⟨rfl, rfl⟩
      refine step (P := fun e S => e = [some (row ss), some (.int q), some (.int y), some (.ref 0), some (.ref 1), some (.ref 2), some (.int (r % y))] ∧ S = [O.lst ((G.take i).map .int), O.lst ((Y.take i).map .int), O.lst ((W.take (i + 1)).map .bl)]) ?_ ?_
      · simp only [w_ex, w_meth, w_var, List.getElem?_cons_succ, List.getElem?_cons_zero, opt_some, methT_lst (m := .append) g2 (by decide), w_es1, w_es0, w_cmp, w_c1, w_c0, w_bin, w_int, b_sub, ret_some, cmp_eq, eq_int, m2]
        exact ⟨trivial, trivial, trivial, rfl⟩
      rintro e S ⟨rfl, rfl⟩
      have g0 : ([O.lst ((G.take i).map .int), O.lst ((Y.take i).map .int), O.lst ((W.take (i + 1)).map .bl)] : Sto)[0]? = some (.lst ((G.take i).map .int)) := rfl
      have m0 := app_at (f := D.int) g0 a1 lG
      refine step (P := fun e S => e = [some (row ss), some (.int q), some (.int y), some (.ref 0), some (.ref 1), some (.ref 2), some (.int (r % y))] ∧ S = [O.lst ((G.take (i + 1)).map .int), O.lst ((Y.take i).map .int), O.lst ((W.take (i + 1)).map .bl)]) ?_ ?_
      · have d2 : decide ((0 : Int) < 2) = true := by decide
        simp only [w_ex, w_meth, w_var, List.getElem?_cons_succ, List.getElem?_cons_zero, opt_some, methT_lst (m := .append) g0 (by decide), w_es1, w_es0, w_ife, w_cmp, w_c1, w_c0, w_bin, w_int, b_mod, b_sub, d2, if_true, ret_some, cmp_eq, eq_int, tru_bl]
        by_cases c : q % 2 = 0
        · rw [if_pos c] at m0
          simp only [c, decide_true, if_true, m0, ret_some]
          exact ⟨trivial, trivial, trivial, rfl⟩
        · rw [if_neg c] at m0
          simp only [c, decide_false, Bool.false_eq_true, if_false, m0, ret_some]
          exact ⟨trivial, trivial, trivial, rfl⟩
      rintro e S ⟨rfl, rfl⟩
      have g1 : ([O.lst ((G.take (i + 1)).map .int), O.lst ((Y.take i).map .int), O.lst ((W.take (i + 1)).map .bl)] : Sto)[1]? = some (.lst ((Y.take i).map .int)) := rfl
      have m1 := app_at (f := D.int) g1 a3 lY
      have ie : idxI [O.lst ((G.take (i + 1)).map .int), O.lst ((Y.take i).map .int), O.lst ((W.take (i + 1)).map .bl)] (.ref 2) (.int (-1)) = some (.bl (decide (r % y = y - 1))) := by
        refine idx_end (xs := (W.take i).map .bl) ?_
        rw [take_snoc a2, List.map_append]
        rfl
      have d2 : decide ((0 : Int) < 2) = true := by decide
      have di : (if decide (r % y = y - 1) = true then (1 : Int) else 0) = if r % y = y - 1 then 1 else 0 := by
        by_cases c : r % y = y - 1
        · simp [c]
        · simp [c]
      rw [w_ss1, w_ex]
      simp only [w_meth, w_var, List.getElem?_cons_succ, List.getElem?_cons_zero, opt_some, methT_lst (m := .append) g1 (by decide), w_es1, w_es0, w_ife, w_cmp, w_c1, w_c0, w_bin, w_blt, w_idx, w_neg, w_int, ie, bl_int, intB_bl, b_add, b_mod, d2, if_true, ret_some, cmp_eq, eq_int, tru_bl, di]
      generalize (if r % y = y - 1 then (1 : Int) else 0) = u at m1 ⊢
      by_cases c : (q + u) % 2 = 0
      · rw [if_pos c] at m1
        simp only [c, decide_true, if_true, m1, ret_some, then_nx, w_ss0]
        exact ⟨trivial, trivial, ⟨_, _, rfl⟩, rfl⟩
      · rw [if_neg c] at m1
        simp only [c, decide_false, Bool.false_eq_true, if_false, m1, ret_some, then_nx, w_ss0]
        exact ⟨trivial, trivial, ⟨_, _, rfl⟩, rfl⟩
    · obtain ⟨⟨x, z, rfl⟩, rfl⟩ := hh
      refine ⟨rfl, rfl, ⟨_, _, _, rfl⟩, ?_⟩
      rw [take_all _ (gf_len ss p), take_all _ (wy_len ss p), take_all _ (wt_len ss p)]
  rintro e S ⟨⟨q, x, y, rfl⟩, rfl⟩
  have g0 : ([O.lst ((gf ss p).map .int), .lst ((wy ss p).map .int), .lst ((wt ss p).map .bl)] : Sto)[0]? = some (.lst ((gf ss p).map .int)) := rfl
  have g1 : ([O.lst ((gf ss p).map .int), .lst ((wy ss p).map .int), .lst ((wt ss p).map .bl)] : Sto)[1]? = some (.lst ((wy ss p).map .int)) := rfl
  have g2 : ([O.lst ((gf ss p).map .int), .lst ((wy ss p).map .int), .lst ((wt ss p).map .bl)] : Sto)[2]? = some (.lst ((wt ss p).map .bl)) := rfl
  generalize ([O.lst ((gf ss p).map .int), .lst ((wy ss p).map .int), .lst ((wt ss p).map .bl)] : Sto) = T0 at g0 g1 g2 ⊢
  have er : rows (sta ss p) = .tup [row (gf ss p), row (ptrs (wt ss p)), row (wy ss p)] := rfl
  rw [er]
  exact focus_end g0 g1 fun k => pc g2 (by rw [wt_len]; omega) k
end N.K93
set_option autoImplicit false
set_option linter.all false
set_option maxRecDepth 100000
set_option maxHeartbeats 2000000
namespace N.K93
open N N.Mix
/-! ### the place of a state's row -/
theorem place_call {S : Sto} {Q : D → Sto → Prop} {ss : List Int} {p : Int} (h : Ok ss) (h0 : 0 ≤ p) (h1 : p < prod ss) (k : Q (.int p) S) : Ret (callI f_row_place [row ss, row (gf ss p)] S) Q := by
  refine call_flat (d := .int p) (by simp [D.flats]) rfl ?_ k
  rw [w_runF]
  refine ⟨rfl, ?_⟩
  have h40 := h.len
  have gl := gf_len ss p
  simp only [b_row_place, List.map_cons, List.map_nil, List.replicate, List.cons_append, List.nil_append]
  obtain ⟨M, hM⟩ : ∃ M : Int, M = ss.length := ⟨_, rfl⟩
  have rd : rngI [.int (M - 1), .int (-1), .int (-1)] = some ((List.range ss.length).map fun k : Nat => .int (M - 1 - (k : Nat))) := by
    rw [hM]; exact rng_down (by omega)
  have pc : ∀ {S : Sto} {Q : D → Sto → Prop}, (∀ T k, Ext S T → T[k]? = some (.lst ((pros ss).map .int)) → Q (.ref k) T) → Ret (callI f_products_of [row ss] S) Q := fun k => products_call h k
  generalize f_products_of = fp at pc ⊢
  refine step (P := fun e S => ∃ n, S[n]? = some (.lst ((pros ss).map .int)) ∧ e = [some (row ss), some (row (gf ss p)), none, some (.int 0), some (.ref n), none, none]) ?_ ?_
  · simp only [w_asg, w_tup, w_es1, w_es0, w_int, w_call, w_var, List.getElem?_cons_zero, opt_some]
    refine pc fun T n ex hn => ?_
    simp only [w_tgT, items_tup, opt_some, w_ts1, w_ts0, w_tgN, List.set_cons_succ, List.set_cons_zero]
    exact ⟨trivial, n, hn, rfl⟩
  rintro e S ⟨n, hn, rfl⟩
  have lr : lenI S [row ss] = some (.int M, S) := by simp [hM]
  rw [w_ss1, w_forS]
  simp only [w_rng, w_es1, w_es0, w_bin, w_blt, bl_len, w_var, List.getElem?_cons_succ, List.getElem?_cons_zero, opt_some, lr, w_int, b_sub, w_neg, ret_some, rd]
  have e0 : p / pre ss ss.length * pre ss ss.length = 0 := by
    rw [pre_all, Int.ediv_eq_zero_of_lt h0 h1]; omega
  refine for_range ss.length (fun k : Nat => .int (M - 1 - (k : Nat))) (fun k e T => (∃ x y z, e = [some (row ss), some (row (gf ss p)), x, some (.int (p / pre ss (ss.length - k) * pre ss (ss.length - k))), some (.ref n), y, z]) ∧ T[n]? = some (.lst ((pros ss).map .int))) (fun i e T hi hh => ?_) (fun e T hh => ?_) ⟨⟨none, none, none, by rw [Nat.sub_zero, e0]⟩, hn⟩
  · obtain ⟨⟨x, y, z, rfl⟩, hT⟩ := hh
    refine ⟨rfl, ?_⟩
    obtain ⟨j, hj⟩ : ∃ j, j = ss.length - 1 - i := ⟨_, rfl⟩
    have e1 : (M - 1 - (i : Nat)) = (j : Nat) := by omega
    have e2 : ss.length - i = j + 1 := by omega
    have e3 : ss.length - (i + 1) = j := by omega
    have jl : j < ss.length := by omega
    rw [e1, e2, e3]
    have pt := place_turn (p := p) h.sz jl
    have i1 : idxI T (.ref n) (.int ((j : Int) + 1)) = some (.int (pre ss (j + 1))) := by
      have := idx_ints hT (i := j + 1) (by rw [pros_len]; omega)
      rw [pros_get (by omega)] at this
      have e : ((j + 1 : Nat) : Int) = (j : Int) + 1 := by omega
      rw [e] at this; exact this
    have i0 : idxI T (.ref n) (.int (j : Nat)) = some (.int (pre ss j)) := by
      have := idx_ints hT (i := j) (by rw [pros_len]; omega)
      rw [pros_get (by omega)] at this; exact this
    have ig : idxI T (row (gf ss p)) (.int (j : Nat)) = some (.int ((gf ss p).getD j 0)) := idx_row T (by omega)
    have iS : idxI T (row ss) (.int (j : Nat)) = some (.int (ss.getD j 0)) := idx_row T jl
    have bd := gf_bd ss p h.sz j jl
    have s10 : ss.getD j 0 ≤ 10 := by
      rw [List.getD_eq_getElem?_getD, List.getElem?_eq_getElem jl]
      exact h.le _ (List.getElem_mem _)
    have pp := pre_pos (j + 1) h.sz
    have dv := big_div pp (pre_le h (j + 1))
    have d2 : decide ((0 : Int) < 2) = true := by decide
    simp only at pt
    generalize (gf ss p).getD j 0 = g at ig bd pt
    generalize ss.getD j 0 = s at iS bd s10 pt
    generalize p / pre ss (j + 1) * pre ss (j + 1) = f at pt ⊢
    generalize pre ss (j + 1) = P1 at i1 dv pt
    generalize p / pre ss j * pre ss j = f2 at pt ⊢
    generalize pre ss j = P0 at i0 pt
    generalize row ss = rS at iS
    generalize row (gf ss p) = rG at ig
    simp only [w_tgN, List.set_cons_succ, List.set_cons_zero, w_ss1, w_asg, w_bin, w_idx, w_var, List.getElem?_cons_succ, List.getElem?_cons_zero, opt_some, w_int, b_add, b_sub, b_fdiv, b_mod, b_mul, ret_some, i0, i1, dv, d2, if_true, then_nx, w_ife, w_cmp, w_c1, w_c0, cmp_eq, eq_int, tru_bl]
    by_cases c : f / P1 % 2 = 0
    · rw [if_pos c] at pt
      have mo : mulOk g P0 = true := mulOk_l (by omega)
      simp only [c, decide_true, if_true, ig, opt_some, w_tgN, List.set_cons_succ, List.set_cons_zero, w_var, List.getElem?_cons_succ, List.getElem?_cons_zero, i0, mo, if_true, b_mul, b_add, ret_some, then_nx, w_ss0, pt]
      exact ⟨trivial, ⟨_, _, _, rfl⟩, hT⟩
    · rw [if_neg c] at pt
      have mo : mulOk (s - 1 - g) P0 = true := mulOk_l (by omega)
      simp only [c, decide_false, Bool.false_eq_true, if_false, iS, ig, opt_some, w_tgN, List.set_cons_succ, List.set_cons_zero, w_var, List.getElem?_cons_succ, List.getElem?_cons_zero, i0, mo, if_true, b_mul, b_add, b_sub, ret_some, then_nx, w_ss0, pt]
      exact ⟨trivial, ⟨_, _, _, rfl⟩, hT⟩
  · obtain ⟨⟨x, y, z, rfl⟩, hT⟩ := hh
    refine ⟨rfl, ?_⟩
    have e : p / pre ss (ss.length - ss.length) * pre ss (ss.length - ss.length) = p := by
      rw [Nat.sub_self, pre_zero, Int.ediv_one, Int.mul_one]
    rw [e]
    simp only [then_nx, w_ss1, w_ret, w_var, List.getElem?_cons_succ, List.getElem?_cons_zero, opt_some, then_rt, back_rt]
/-! ### are numbers within -/
def inn (lo hi : Int) (r : List Int) : Bool := r.all fun x => decide (lo ≤ x ∧ x ≤ hi)
theorem allB_lst {S : Sto} {n : Nat} {bs : List Bool} (h : S[n]? = some (.lst (bs.map .bl))) : allB S [.ref n] = some (.bl (bs.all id), S) := by
  simp only [allB, items_lst h, Option.bind_some, boolsD_map]
theorem within_call {S : Sto} {Q : D → Sto → Prop} {r : List Int} {m lo hi : Int} (hl : r.length ≤ 1000) (hm : m = r.length) (k : Q (.bl (inn lo hi r)) S) : Ret (callI f_are_within [row r, .int m, .int lo, .int hi] S) Q := by
  refine call_flat (d := .bl (inn lo hi r)) (by simp [D.flats, D.flat]) rfl ?_ k
  rw [w_runF]
  refine ⟨rfl, ?_⟩
  have hz : (line : Nat) = 16777216 := rfl
  simp only [b_are_within, List.map_cons, List.map_nil, List.replicate, List.cons_append, List.nil_append]
  refine step (P := fun e S => e = [some (row r), some (.int m), some (.int lo), some (.int hi), none] ∧ S = []) (by simp [isiB, isiI, hm]) ?_
  rintro e S ⟨rfl, rfl⟩
  rw [w_ss1, w_ret]
  simp only [w_blt, w_es1, w_es0, w_comp, w_wk, w_var, List.getElem?_cons_zero, opt_some, row, walk_tup]
  refine ⟨by simp; omega, ?_⟩
  rw [comp_all (fun x : Int => .int x) (fun x => .bl (decide (lo ≤ x ∧ x ≤ hi))) rfl r fun x hx => ?_]
  · have e : (r.map fun x => D.bl (decide (lo ≤ x ∧ x ≤ hi))) = (r.map fun x => decide (lo ≤ x ∧ x ≤ hi)).map .bl := by simp
    simp only [ret_some, bl_all, e]
    rw [allB_lst (bs := r.map fun x => decide (lo ≤ x ∧ x ≤ hi)) (last_at _ _)]
    simp [inn]
  · by_cases c : lo ≤ x
    · simp [N.wipe, isiB, isiI, c]
    · simp [N.wipe, isiB, isiI, c]
end N.K93
set_option autoImplicit false
set_option linter.all false
set_option maxRecDepth 100000
set_option maxHeartbeats 2000000
namespace N.K93
open N N.Mix
/-! ### a state's fault -/
theorem ptr_le {w : List Bool} {i : Nat} (h : i ≤ w.length) : ptr w i ≤ w.length := by
  unfold ptr
  split
  · exact run_drop_le h
  · exact h
theorem ptrs_inn {w : List Bool} : inn 0 w.length (ptrs w) = true := by
  unfold inn ptrs
  rw [List.all_eq_true]
  intro x hx
  obtain ⟨i, hi, rfl⟩ := List.mem_map.mp hx
  have hi : i < w.length + 1 := by simpa using hi
  have := ptr_le (w := w) (i := i) (by omega)
  simp
  omega
theorem gf_inn {ss : List Int} (h : Ok ss) (p : Int) : inn 0 99 (gf ss p) = true := by
  unfold inn
  rw [List.all_eq_true]
  intro x hx
  obtain ⟨i, hi, e⟩ := List.mem_iff_getElem.mp hx
  have hl := gf_len ss p
  have b := gf_bd ss p h.sz i (by omega)
  have e1 : (gf ss p).getD i 0 = x := by rw [List.getD_eq_getElem?_getD, List.getElem?_eq_getElem hi]; exact e
  have e2 : ss.getD i 0 ≤ 10 := by
    rw [List.getD_eq_getElem?_getD, List.getElem?_eq_getElem (by omega)]
    exact h.le _ (List.getElem_mem _)
  rw [e1] at b
  simp
  omega
def word : List Nat := [115, 116, 97, 116, 101]
def faultD (ss : List Int) (p : Int) (b c : List Int) : D := if b = ptrs (wt ss p) then (if c = wy ss p then .non else .tup [.str word, .int 2]) else .tup [.str word, .int 1]
theorem zip_lt_all {ss : List Int} {p : Int} (h : Sz ss) : ∀ q ∈ (gf ss p).zip ss, q.1 < q.2 := by
  intro q hq
  obtain ⟨i, hi, e⟩ := List.mem_iff_getElem.mp hq
  have hl := gf_len ss p
  have hi' : i < ss.length := by simp at hi; omega
  have b := gf_bd ss p h i hi'
  rw [List.getElem_zip] at e
  subst e
  rw [List.getD_eq_getElem?_getD, List.getD_eq_getElem?_getD, List.getElem?_eq_getElem (by omega), List.getElem?_eq_getElem hi'] at b
  exact b.2
theorem error_call {S : Sto} {Q : D → Sto → Prop} {ss b c : List Int} {p : Int} (h : Ok ss) (h0 : 0 ≤ p) (h1 : p < prod ss) (hb : b.length = ss.length + 1) (hb2 : inn 0 ss.length b = true) (hc : c.length = ss.length) (hc2 : inn (-1) 1 c = true) (hc3 : (0 : Int) ∉ c)
    (k : Q (faultD ss p b c) S) : Ret (callI f_focus_error [row ss, rows [gf ss p, b, c]] S) Q := by
  refine call_flat (d := faultD ss p b c) (by simp [D.flats]) (by unfold faultD; split <;> (try split) <;> rfl) ?_ k
  rw [w_runF]
  refine ⟨rfl, ?_⟩
  have h40 := h.len
  have gl := gf_len ss p
  have hz : (line : Nat) = 16777216 := rfl
  simp only [b_focus_error, List.map_cons, List.map_nil, List.replicate, List.cons_append, List.nil_append]
  have wc : ∀ {S : Sto} {Q : D → Sto → Prop} {r : List Int} {m lo hi : Int}, r.length ≤ 1000 → m = r.length → Q (.bl (inn lo hi r)) S → Ret (callI f_are_within [row r, .int m, .int lo, .int hi] S) Q := fun a b c => within_call a b c
  have fc : ∀ {S : Sto} {Q : D → Sto → Prop}, Q (rows (sta ss p)) S → Ret (callI f_focus_at [row ss, .int p] S) Q := fun k => focus_call h k
  have pc : ∀ {S : Sto} {Q : D → Sto → Prop}, Q (.int p) S → Ret (callI f_row_place [row ss, row (gf ss p)] S) Q := fun k => place_call h h0 h1 k
  generalize f_are_within = fw at wc ⊢
  generalize f_focus_at = ff at fc ⊢
  generalize f_row_place = fp at pc ⊢
  obtain ⟨M, hM⟩ : ∃ M : Int, M = ss.length := ⟨_, rfl⟩
  have ga := gf_inn h p
  have st : rows (sta ss p) = .tup [row (gf ss p), row (ptrs (wt ss p)), row (wy ss p)] := rfl
  have v3 : rows [gf ss p, b, c] = .tup [row (gf ss p), row b, row c] := rfl
  rw [v3]
  rw [st] at fc
  generalize hG : gf ss p = G at ga gl pc fc ⊢
  have x0 : ∀ {S : Sto} {x y z : D}, idxI S (.tup [x, y, z]) (.int 0) = some x := rfl
  have x1 : ∀ {S : Sto} {x y z : D}, idxI S (.tup [x, y, z]) (.int 1) = some y := rfl
  have x2 : ∀ {S : Sto} {x y z : D}, idxI S (.tup [x, y, z]) (.int 2) = some z := rfl
  refine step (P := fun e S => e = [some (row ss), some (.tup [row G, row b, row c]), some (.int M), none, none, none, none] ∧ S = []) (by simp [hM]) ?_
  rintro e S ⟨rfl, rfl⟩
  refine step (P := fun e S => e = [some (row ss), some (.tup [row G, row b, row c]), some (.int M), none, none, none, none] ∧ S = []) ?_ ?_
  · simp only [w_ifs, w_or, w_not, w_blt, w_es1, w_es0, w_var, List.getElem?_cons_succ, List.getElem?_cons_zero, opt_some, bl_isi, isiB, isiI, ret_some, tru_bl, Bool.not_true, w_or1, Bool.false_eq_true, if_false, w_cmp, w_c1, w_c0, bl_len, len_tup, List.length_cons, List.length_nil, w_int, cmp_ne, eq_int, opt_map, w_call, w_idx, x0]
    simp
    refine wc (by omega) (by omega) ?_
    simp [ga]
  rintro e S ⟨rfl, rfl⟩
  refine step (P := fun e S => ∃ x y, e = [some (row ss), some (.tup [row G, row b, row c]), some (.int M), none, none, x, y]) ?_ ?_
  · simp only [w_ifs, w_or, w_not, w_blt, w_es1, w_es0, w_comp, w_zip, w_var, List.getElem?_cons_succ, List.getElem?_cons_zero, opt_some, w_idx, w_int, x0, row, zip_tup, zipV_map]
    refine ⟨by simp; omega, ?_⟩
    rw [comp_all (fun q : Int × Int => .tup [.int q.1, .int q.2]) (fun q => .bl true) rfl (G.zip ss) fun q hq => ?_]
    · have e : ((G.zip ss).map fun q => D.bl true) = ((G.zip ss).map fun q => true).map .bl := by simp
      simp only [ret_some, bl_all, e]
      rw [allB_lst (bs := (G.zip ss).map fun q => true) (last_at _ _)]
      have : ((G.zip ss).map fun q => true).all id = true := by simp
      rw [this]
      simp only [ret_some, tru_bl, opt_some, Bool.not_true, w_or1, Bool.false_eq_true, if_false, w_not, w_call, w_es1, w_es0, w_idx, w_var, List.getElem?_cons_succ, List.getElem?_cons_zero, w_int, x1, w_bin, b_add]
      refine wc (r := b) (by omega) (by omega) ?_
      rw [← hM] at hb2
      simp [hb2]
    · have lt := zip_lt_all (p := p) h.sz q (by rw [hG]; exact hq)
      simp [N.wipe, lt]
  rintro e S ⟨x, y, rfl⟩
  refine step (P := fun e S => ∃ x y, e = [some (row ss), some (.tup [row G, row b, row c]), some (.int M), none, none, x, y]) ?_ ?_
  · simp only [w_ifs, w_or, w_not, w_call, w_es1, w_es0, w_idx, w_var, List.getElem?_cons_succ, List.getElem?_cons_zero, opt_some, w_int, x2, w_neg]
    refine wc (r := c) (by omega) (by omega) ?_
    have i0 : ∀ S : Sto, inI S (.int 0) (row c) = some (decide ((0 : Int) ∈ c)) := fun S => in_row S 0 c
    simp only [hc2, tru_bl, opt_some, Bool.not_true, w_or1, Bool.false_eq_true, if_false, w_cmp, w_c1, w_c0, w_int, w_idx, w_var, List.getElem?_cons_succ, List.getElem?_cons_zero, x2, cmp_in, i0, decide_eq_false hc3, w_or0, w_ss0]
    exact ⟨trivial, _, _, rfl⟩
  rintro e S ⟨x, y, rfl⟩
  refine step (P := fun e S => ∃ x y, e = [some (row ss), some (.tup [row G, row b, row c]), some (.int M), some (.tup [row G, row (ptrs (wt ss p)), row (wy ss p)]), none, x, y]) ?_ ?_
  · simp only [w_asg, w_call, w_es1, w_es0, w_idx, w_var, List.getElem?_cons_succ, List.getElem?_cons_zero, opt_some, w_int, x0]
    refine pc (fc ?_)
    simp only [w_tgN, List.set_cons_succ, List.set_cons_zero]
    exact ⟨trivial, _, _, rfl⟩
  rintro e S ⟨x, y, rfl⟩
  rw [w_ss1, w_forS]
  have r3 : rngI [.int 3] = some ([0, 1, 2].map fun k : Nat => .int k) := rfl
  simp only [w_rng, w_es1, w_es0, w_int, r3, opt_some]
  generalize hB : ptrs (wt ss p) = B at *
  generalize hY : wy ss p = Y at *
  refine Run.imp (for_find (S := S) (fun e => ∃ i x y, e = [some (row ss), some (.tup [row G, row b, row c]), some (.int M), some (.tup [row G, row B, row Y]), i, x, y]) (fun k : Nat => .int k) (fun k => if k = 0 then false else if k = 1 then !decide (b = B) else !decide (c = Y)) (fun k => .tup [.str word, .int k]) rfl [0, 1, 2] (fun k hk e he => ?_) _ ⟨none, x, y, rfl⟩) fun f e T hh => ?_
  · obtain ⟨i, x, y, rfl⟩ := he
    have eB := eq_row S b B
    have eY := eq_row S c Y
    have eG := eq_row S G G
    simp only [List.mem_cons, List.not_mem_nil, or_false] at hk
    simp only [w_tgN, List.set_cons_succ, List.set_cons_zero]
    refine ⟨trivial, ?_⟩
    rcases hk with rfl | rfl | rfl
    · have e0 : ((0 : Nat) : Int) = 0 := rfl
      simp only [e0, w_ss1, w_ifs, w_cmp, w_c1, w_c0, w_idx, w_var, List.getElem?_cons_succ, List.getElem?_cons_zero, opt_some, x0, cmp_ne, eG, opt_map, tru_bl, decide_true, Bool.not_true, Bool.false_eq_true, if_false, w_ss0, then_nx, if_true]
      exact ⟨trivial, ⟨_, _, _, rfl⟩, trivial⟩
    · have e0 : ((1 : Nat) : Int) = 1 := rfl
      simp only [e0, w_ss1, w_ifs, w_cmp, w_c1, w_c0, w_idx, w_var, List.getElem?_cons_succ, List.getElem?_cons_zero, opt_some, x1, cmp_ne, eB, opt_map, tru_bl]
      by_cases q : b = B
      · simp [q]
      · simp [q, word]
    · have e0 : ((2 : Nat) : Int) = 2 := rfl
      simp only [e0, w_ss1, w_ifs, w_cmp, w_c1, w_c0, w_idx, w_var, List.getElem?_cons_succ, List.getElem?_cons_zero, opt_some, x2, cmp_ne, eY, opt_map, tru_bl]
      by_cases q : c = Y
      · simp [q]
      · simp [q, word]
  · obtain ⟨rfl, ⟨i, x, y, rfl⟩, rfl⟩ := hh
    unfold faultD
    rw [hY, hB]
    by_cases q : b = B
    · by_cases q2 : c = Y
      · simp [q, q2]
      · simp [q, q2]
    · simp [q]
end N.K93
set_option autoImplicit false
set_option linter.all false
set_option maxRecDepth 100000
set_option maxHeartbeats 2000000
namespace N.K93
open N N.Mix
/-! ### the next state -/
theorem getI {xs : List Int} {i : Nat} (h : i < xs.length) : xs[i]? = some (xs.getD i 0) := by
  rw [List.getD_eq_getElem?_getD, List.getElem?_eq_getElem h]; rfl
theorem set_ints {S : Sto} {n j : Nat} {r : List Int} {v : Int} (h : S[n]? = some (.lst (r.map .int))) (hj : j < r.length) : setI S (.ref n) (.int (j : Nat)) (.int v) = some (S.set n (.lst ((r.set j v).map .int))) := by
  rw [set_lst h (by simpa using hj), List.map_set]
/-- the first statements: the three rows as lists, the pointer -/
theorem next_head {ss a b c : List Int} {j : Nat} (hb : 0 < b.length) (hj : b.getD 0 0 = j) :
    Run (execSs (b_focus_next.take 3) [some (row ss), some (rows [a, b, c]), none, none, none, none, none] []) fun f e S => f = .nx ∧ (∃ x, e = [some (row ss), some (rows [a, b, c]), some (.int (j : Nat)), some (.ref 0), some (.ref 1), some (.ref 2), x]) ∧
      S = [.lst (a.map .int), .lst ((b.set 0 0).map .int), .lst (c.map .int), .lst [.ref 0, .ref 1, .ref 2]] := by
  have hz : (line : Nat) = 16777216 := rfl
  simp only [b_focus_next, List.take_succ_cons, List.take_zero]
  have v3 : rows [a, b, c] = .tup [row a, row b, row c] := rfl
  rw [v3]
  refine step (P := fun e S => (∃ x, e = [some (row ss), some (.tup [row a, row b, row c]), none, some (.ref 0), some (.ref 1), some (.ref 2), x]) ∧ S = [.lst (a.map .int), .lst (b.map .int), .lst (c.map .int), .lst [.ref 0, .ref 1, .ref 2]]) ?_ ?_
  · simp only [w_asg, w_comp, w_wk, w_var, List.getElem?_cons_succ, List.getElem?_cons_zero, opt_some, walk_tup]
    refine ⟨by simp; omega, ?_⟩
    have cm : compL (bindT (.tgN 6)) (fun e S => thenT (evalE (.bl true) e S)) (evalE (.blt .list [.var 6])) [] (N.wipe [some (row ss), some (.tup [row a, row b, row c]), none, none, none, none, none] [6]) [row a, row b, row c] [] = some ([.ref 0, .ref 1, .ref 2], [.lst (a.map .int), .lst (b.map .int), .lst (c.map .int)]) := by
      simp [compL, N.wipe, bindT, evalE, evalEs, thenT, tru, bltI, lstB, new, guardOk]
    simp only [cm, ret_some, w_tgT]
    have it : itemsI ([O.lst (a.map .int), .lst (b.map .int), .lst (c.map .int)] ++ [O.lst [.ref 0, .ref 1, .ref 2]]) (.ref [O.lst (a.map .int), .lst (b.map .int), .lst (c.map .int)].length) = some [.ref 0, .ref 1, .ref 2] := items_lst rfl
    simp only [it, opt_some, w_ts1, w_ts0, w_tgN, List.set_cons_succ, List.set_cons_zero]
    exact ⟨trivial, ⟨_, rfl⟩, rfl⟩
  rintro e S ⟨⟨x, rfl⟩, rfl⟩
  have g1 : ([O.lst (a.map .int), .lst (b.map .int), .lst (c.map .int), .lst [.ref 0, .ref 1, .ref 2]] : Sto)[1]? = some (.lst (b.map .int)) := rfl
  have i0 := idx_ints g1 hb
  rw [hj] at i0
  refine step (P := fun e S => (∃ x, e = [some (row ss), some (.tup [row a, row b, row c]), some (.int (j : Nat)), some (.ref 0), some (.ref 1), some (.ref 2), x]) ∧ S = [.lst (a.map .int), .lst (b.map .int), .lst (c.map .int), .lst [.ref 0, .ref 1, .ref 2]]) ?_ ?_
  · simp only [w_asg, w_idx, w_var, List.getElem?_cons_succ, List.getElem?_cons_zero, opt_some, w_int, show ((0 : Int)) = ((0 : Nat) : Int) from rfl, i0, w_tgN, List.set_cons_succ, List.set_cons_zero]
    exact ⟨trivial, ⟨_, rfl⟩, trivial⟩
  rintro e S ⟨⟨x, rfl⟩, rfl⟩
  have st : setI [O.lst (a.map .int), .lst (b.map .int), .lst (c.map .int), .lst [.ref 0, .ref 1, .ref 2]] (.ref 1) (.int 0) (.int 0) = some ([O.lst (a.map .int), .lst (b.map .int), .lst (c.map .int), .lst [.ref 0, .ref 1, .ref 2]].set 1 (.lst ((b.set 0 0).map .int))) := set_ints (j := 0) (v := 0) g1 hb
  simp only [w_ss1, w_ss0, w_asg, w_int, w_tgS, w_var, List.getElem?_cons_succ, List.getElem?_cons_zero, opt_some, st, then_nx]
  exact ⟨trivial, ⟨_, rfl⟩, rfl⟩
/-- a run that ends in the raise is none -/
theorem rai_none : ∀ (l : List St) (e : Env) (S : Sto), raiSs l e S = true → execSs l e S = none
  | [], e, S, h => by simp [raiSs] at h
  | s :: l, e, S, h => by
    simp only [raiSs] at h
    simp only [execSs]
    split at h
    · rename_i e1 S1 q
      rw [q]
      exact rai_none l e1 S1 h
    · cases h
    · rename_i q
      rw [q]
theorem rai_app {P : Env → Sto → Prop} {ts : List St} : ∀ (l : List St) (e : Env) (S : Sto), Run (execSs l e S) (fun f e' S' => f = .nx ∧ P e' S') → (∀ e' S', P e' S' → raiSs ts e' S' = true) → raiSs (l ++ ts) e S = true
  | [], e, S, h, k => by
    rw [w_ss0] at h
    exact k e S h.2
  | s :: l, e, S, h, k => by
    rw [w_ss1] at h
    obtain ⟨f, e1, S1, q, h⟩ := h.get
    rw [List.cons_append]
    simp only [raiSs, q]
    cases f with
    | nx => exact rai_app l e1 S1 h k
    | brk => exact absurd h.1 (by simp)
    | rt d => exact absurd h.1 (by simp)
theorem run_app {P : Env → Sto → Prop} {ts : List St} {R : Fl → Env → Sto → Prop} : ∀ (l : List St) (e : Env) (S : Sto), Run (execSs l e S) (fun f e' S' => f = .nx ∧ P e' S') → (∀ e' S', P e' S' → Run (execSs ts e' S') R) → Run (execSs (l ++ ts) e S) R
  | [], e, S, h, k => by
    rw [w_ss0] at h
    exact k e S h.2
  | s :: l, e, S, h, k => by
    rw [List.cons_append, w_ss1]
    rw [w_ss1] at h
    refine h.imp fun f e' S' q => ?_
    cases f with
    | nx => exact run_app l e' S' q k
    | brk => exact absurd q.1 (by simp)
    | rt d => exact absurd q.1 (by simp)
theorem next_split : b_focus_next = b_focus_next.take 3 ++ b_focus_next.drop 3 := (List.take_append_drop 3 _).symm
theorem ptrs_first {w : List Bool} {j : Nat} {r : List Bool} (e : w = List.replicate j true ++ false :: r) : (ptrs w).getD 0 0 = j := by
  rw [List.getD_eq_getElem?_getD, ptrs_get (by omega), e, ptr_first]; rfl
theorem all_true : ∀ {w : List Bool}, run w = w.length → w = List.replicate w.length true
  | [], _ => rfl
  | true :: w, h => by
    have := all_true (w := w) (by simpa [run] using h)
    rw [List.length_cons, List.replicate_succ, ← this]
  | false :: w, h => by simp [run] at h
theorem ptrs_last {ss : List Int} (h : Sz ss) : (ptrs (wt ss (prod ss - 1))).getD 0 0 = ss.length := by
  have e := run_last ss h
  have wl := wt_len ss (prod ss - 1)
  rw [List.getD_eq_getElem?_getD, ptrs_get (by omega)]
  have : ptr (wt ss (prod ss - 1)) 0 = ss.length := by
    unfold ptr
    by_cases c : (wt ss (prod ss - 1)).getD 0 false = true
    · rw [if_pos ⟨c, .inl rfl⟩, List.drop_zero, e]; omega
    · rw [if_neg fun z => c z.1]
      have := run_hd (by simpa using c : (wt ss (prod ss - 1)).getD 0 false = false)
      omega
  rw [this]; rfl
/-- behind the last state: the raise -/
theorem next_raises {ss : List Int} (h : Ok ss) : raiF 7 2 b_focus_next [row ss, rows (sta ss (prod ss - 1))] = true := by
  unfold raiF
  rw [Bool.and_eq_true]
  refine ⟨rfl, ?_⟩
  have pl := ptrs_last h.sz
  have hd := next_head (ss := ss) (a := gf ss (prod ss - 1)) (b := ptrs (wt ss (prod ss - 1))) (c := wy ss (prod ss - 1)) (by rw [ptrs_len]; omega) pl
  show raiSs b_focus_next [some (row ss), some (rows (sta ss (prod ss - 1))), none, none, none, none, none] [] = true
  rw [next_split]
  refine rai_app _ _ _ hd fun e S ⟨⟨x, he⟩, hS⟩ => ?_
  subst he
  have key : Ret (evalE (.cmp (.var 2) [.eq] [.blt .len [.var 0]]) [some (row ss), some (rows [gf ss (prod ss - 1), ptrs (wt ss (prod ss - 1)), wy ss (prod ss - 1)]), some (.int (ss.length : Nat)), some (.ref 0), some (.ref 1), some (.ref 2), x] S) fun d T => d = .bl true := by
    simp
  obtain ⟨d, T, q, rfl⟩ := key.get
  have q2 : thenT (evalE (.cmp (.var 2) [.eq] [.blt .len [.var 0]]) [some (row ss), some (rows [gf ss (prod ss - 1), ptrs (wt ss (prod ss - 1)), wy ss (prod ss - 1)]), some (.int (ss.length : Nat)), some (.ref 0), some (.ref 1), some (.ref 2), x] S) = some (true, T) := by
    rw [q]; rfl
  simp only [b_focus_next, List.drop_succ_cons, List.drop_zero, raiSs, execS, q2, execSs, raiS]
end N.K93
set_option autoImplicit false
set_option linter.all false
set_option maxRecDepth 100000
set_option maxHeartbeats 2000000
namespace N.K93
open N N.Mix
/-- the run of focus_next, before the last state -/
theorem next_run {ss : List Int} {p : Int} (h : Ok ss) (h0 : 0 ≤ p) (h1 : p + 1 < prod ss) : Ret (f_focus_next [row ss, rows (sta ss p)] []) fun d _ => d = rows (sta ss (p + 1)) := by
  have st := step_of ss p h.sz h0 h1
  have gl := gf_len ss p
  have wl := wy_len ss p
  have tl := wt_len ss p
  have h40 := h.len
  generalize hj : run (wt ss p) = j at st
  obtain ⟨bb, r, e1, e2⟩ := st.wts
  have jl := st.lt
  have pf : (ptrs (wt ss p)).getD 0 0 = j := ptrs_first e1
  have pn : ptrs (wt ss (p + 1)) = _ := (congrArg ptrs e2).trans (ptrs_next bb j r)
  rw [← e1] at pn
  have eb : (wt ss (p + 1)).getD j false = bb := by rw [e2]; exact rep_eq
  have rw_ := st.row
  have ww := st.ways
  have ed := st.edge
  rw [eb] at ww ed
  have plen := ptrs_len (wt ss p)
  have hd := next_head (ss := ss) (a := gf ss p) (b := ptrs (wt ss p)) (c := wy ss p) (by omega) pf
  rw [w_runF]
  refine ⟨rfl, ?_⟩
  show Run (execSs b_focus_next [some (row ss), some (rows (sta ss p)), none, none, none, none, none] []) _
  rw [next_split]
  refine run_app _ _ _ hd fun e S ⟨⟨x, he⟩, hS⟩ => ?_
  subst he hS
  have goal : rows (sta ss (p + 1)) = .tup [row (gf ss (p + 1)), row (ptrs (wt ss (p + 1))), row (wy ss (p + 1))] := rfl
  rw [goal, pn, ww, rw_]
  have gs : (gf ss (p + 1)).getD j 0 = (gf ss p).getD j 0 + (wy ss p).getD j 0 := by rw [rw_, set_get (by omega), if_pos rfl]
  rw [gs] at ed
  generalize hA : gf ss p = A at *
  generalize hC : wy ss p = C at *
  generalize hB : ptrs (wt ss p) = B at *
  generalize hs : rows [A, B, C] = V at *
  simp only [b_focus_next, List.drop_succ_cons, List.drop_zero]
  generalize hP : B.set 0 0 = P1 at *
  have p1l : P1.length = ss.length + 1 := by rw [← hP, List.length_set]; omega
  -- not at the end
  refine step (P := fun e S => e = [some (row ss), some V, some (.int (j : Nat)), some (.ref 0), some (.ref 1), some (.ref 2), x] ∧ S = [O.lst (A.map .int), .lst (P1.map .int), .lst (C.map .int), .lst [.ref 0, .ref 1, .ref 2]]) ?_ ?_
  · have ne : ¬ (j : Int) = ss.length := by omega
    simp [ne]
  rintro e S ⟨rfl, rfl⟩
  have a0 : ([O.lst (A.map .int), .lst (P1.map .int), .lst (C.map .int), .lst [.ref 0, .ref 1, .ref 2]] : Sto)[0]? = some (.lst (A.map .int)) := rfl
  have a2 : ([O.lst (A.map .int), .lst (P1.map .int), .lst (C.map .int), .lst [.ref 0, .ref 1, .ref 2]] : Sto)[2]? = some (.lst (C.map .int)) := rfl
  have iA := idx_ints a0 (i := j) (by omega)
  have iC := idx_ints a2 (i := j) (by omega)
  have sA := fun v => set_ints (v := v) a0 (j := j) (by omega)
  generalize hv : A.getD j 0 + C.getD j 0 = v at *
  refine step (P := fun e S => e = [some (row ss), some V, some (.int (j : Nat)), some (.ref 0), some (.ref 1), some (.ref 2), x] ∧ S = [O.lst ((A.set j v).map .int), .lst (P1.map .int), .lst (C.map .int), .lst [.ref 0, .ref 1, .ref 2]]) ?_ ?_
  · simp only [w_asg, w_bin, w_idx, w_var, List.getElem?_cons_succ, List.getElem?_cons_zero, opt_some, iA, iC, b_add, ret_some, w_tgS, sA, hv]
    exact ⟨trivial, trivial, rfl⟩
  rintro e S ⟨rfl, rfl⟩
  have b0 : ([O.lst ((A.set j v).map .int), .lst (P1.map .int), .lst (C.map .int), .lst [.ref 0, .ref 1, .ref 2]] : Sto)[0]? = some (.lst ((A.set j v).map .int)) := rfl
  have iA2 := idx_ints b0 (i := j) (by simp; omega)
  rw [set_get (by omega), if_pos rfl] at iA2
  have iS : ∀ S : Sto, idxI S (row ss) (.int (j : Nat)) = some (.int (ss.getD j 0)) := fun S => idx_row S jl
  have two : ∀ (S : Sto) (y : Int), inI S (.int v) (.tup [.int 0, .int y]) = some (decide (v = 0 ∨ v = y)) := fun S y => by
    have := in_row S v [0, y]
    simp at this
    rw [Bool.decide_or]
    exact this
  refine step (P := fun e S => e = [some (row ss), some V, some (.int (j : Nat)), some (.ref 0), some (.ref 1), some (.ref 2), x] ∧ S = [O.lst ((A.set j v).map .int), .lst ((if bb = true then (P1.set j (P1.getD (j + 1) 0)).set (j + 1) ((j : Int) + 1) else P1).map .int), .lst ((if bb = true then C.set j (-C.getD j 0) else C).map .int), .lst [.ref 0, .ref 1, .ref 2]]) ?_ ?_
  · simp only [w_ifs, w_cmp, w_c1, w_c0, w_idx, w_var, List.getElem?_cons_succ, List.getElem?_cons_zero, opt_some, iA2, w_tup, w_es1, w_es0, w_bin, w_int, iS, b_sub, ret_some, cmp_in, two, tru_bl, ← ed]
    cases hbb : bb with
    | false =>
      simp only [Bool.false_eq_true, if_false, w_ss0]
      exact ⟨trivial, trivial, trivial⟩
    | true =>
      have c2 : ([O.lst ((A.set j v).map .int), .lst (P1.map .int), .lst (C.map .int), .lst [.ref 0, .ref 1, .ref 2]] : Sto)[2]? = some (.lst (C.map .int)) := rfl
      have jC := idx_ints c2 (i := j) (by omega)
      have sC := fun v => set_ints (v := v) c2 (j := j) (by omega)
      simp only [if_true]
      refine step (P := fun e S => e = [some (row ss), some V, some (.int (j : Nat)), some (.ref 0), some (.ref 1), some (.ref 2), x] ∧ S = [O.lst ((A.set j v).map .int), .lst (P1.map .int), .lst ((C.set j (-C.getD j 0)).map .int), .lst [.ref 0, .ref 1, .ref 2]]) ?_ ?_
      · simp only [w_asg, w_neg, w_idx, w_var, List.getElem?_cons_succ, List.getElem?_cons_zero, opt_some, jC, w_tgS, sC]
        exact ⟨trivial, trivial, rfl⟩
      rintro e S ⟨rfl, rfl⟩
      have d1 : ([O.lst ((A.set j v).map .int), .lst (P1.map .int), .lst ((C.set j (-C.getD j 0)).map .int), .lst [.ref 0, .ref 1, .ref 2]] : Sto)[1]? = some (.lst (P1.map .int)) := rfl
      have jP := idx_ints d1 (i := j + 1) (by omega)
      have e3 : ((j + 1 : Nat) : Int) = (j : Int) + 1 := by omega
      rw [e3] at jP
      have sP := set_ints (v := P1.getD (j + 1) 0) d1 (j := j) (by omega)
      have d2 : ([O.lst ((A.set j v).map .int), .lst ((P1.set j (P1.getD (j + 1) 0)).map .int), .lst ((C.set j (-C.getD j 0)).map .int), .lst [.ref 0, .ref 1, .ref 2]] : Sto)[1]? = some (.lst ((P1.set j (P1.getD (j + 1) 0)).map .int)) := rfl
      have sQ := set_ints (v := (j : Int) + 1) d2 (j := j + 1) (by simp; omega)
      rw [e3] at sQ
      simp only [w_ss1, w_ss0, w_asg, w_tup, w_es1, w_es0, w_idx, w_bin, w_int, b_add, w_var, List.getElem?_cons_succ, List.getElem?_cons_zero, opt_some, ret_some, jP, w_tgT, items_tup, w_ts1, w_ts0, w_tgS, sP, List.set_cons_succ, List.set_cons_zero, sQ, then_nx]
      exact ⟨trivial, trivial, trivial⟩
  rintro e S ⟨rfl, rfl⟩
  generalize (if bb = true then (P1.set j (P1.getD (j + 1) 0)).set (j + 1) ((j : Int) + 1) else P1) = P2
  generalize (if bb = true then C.set j (-C.getD j 0) else C) = C2
  have t0 := tup_lst (S := [O.lst ((A.set j v).map .int), .lst (P2.map .int), .lst (C2.map .int), .lst [.ref 0, .ref 1, .ref 2]]) (n := 0) rfl
  have t1 := tup_lst (S := [O.lst ((A.set j v).map .int), .lst (P2.map .int), .lst (C2.map .int), .lst [.ref 0, .ref 1, .ref 2]]) (n := 1) rfl
  have t2 := tup_lst (S := [O.lst ((A.set j v).map .int), .lst (P2.map .int), .lst (C2.map .int), .lst [.ref 0, .ref 1, .ref 2]]) (n := 2) rfl
  simp only [w_ss1, w_ret, w_tup, w_es1, w_es0, w_blt, w_var, List.getElem?_cons_succ, List.getElem?_cons_zero, opt_some, bl_tuple, t0, t1, t2, ret_some, then_rt, back_rt]
theorem tryF_raise {n k : Nat} {x : Ex} {ys : List Ex} {B : List D → Bool} {o : O} {ds xs : List D} {S S1 : Sto} (hk : ds.length = k) (e1 : evalE x (ds.map some ++ List.replicate (n - k) none) S = none) (e2 : evalEs ys (ds.map some ++ List.replicate (n - k) none) S = some (xs, S1)) (h : (D.los 0 xs && B xs) = true) : tryF n k x ys B o ds S = new S1 o := by
  unfold tryF
  rw [if_pos hk, e1]
  simp only [e2, h, if_true]
theorem tryF_ok {n k : Nat} {x : Ex} {ys : List Ex} {B : List D → Bool} {o : O} {ds : List D} {S : Sto} {r : D × Sto} (hk : ds.length = k) (e1 : evalE x (ds.map some ++ List.replicate (n - k) none) S = some r) : tryF n k x ys B o ds S = some r := by
  unfold tryF
  rw [if_pos hk, e1]
/-- what is told of the next state -/
theorem told_call {S : Sto} {Q : D → Sto → Prop} {ss : List Int} {p : Int} (h : Ok ss) (h0 : 0 ≤ p) (h1 : p < prod ss) (k : p + 1 < prod ss → Q (rows (sta ss (p + 1))) S) (k2 : ¬ p + 1 < prod ss → ∀ T n, Ext S T → T[n]? = some (.lst [.str [117, 110, 102, 105, 116], .bl true]) → Q (.ref n) T) : Ret (callI f__law_told [row ss, rows (sta ss p)] S) Q := by
  have lo : D.los 0 [row ss, rows (sta ss p)] = true := flats_lo 0 _ (by simp [D.flats])
  have es : evalEs [.var 0, .var 1] [some (row ss), some (rows (sta ss p)), none] [] = some ([row ss, rows (sta ss p)], []) := by simp [evalEs, evalE]
  have l2 : [row ss, rows (sta ss p)].length = 2 := rfl
  by_cases c : p + 1 < prod ss
  · obtain ⟨T, hT⟩ := ret_of (next_run h h0 c)
    refine call_flat (d := rows (sta ss (p + 1))) (by simp [D.flats]) (flat_rows _) ?_ (k c)
    have ev : ∃ U, evalE (.call [102, 111, 99, 117, 115, 95, 110, 101, 120, 116] f_focus_next [.var 0, .var 1]) [some (row ss), some (rows (sta ss p)), none] [] = some (rows (sta ss (p + 1)), U) := by
      simp only [evalE, es]
      have cf : Ret (callI f_focus_next [row ss, rows (sta ss p)] []) fun d _ => d = rows (sta ss (p + 1)) := call_flat (by simp [D.flats]) (flat_rows _) (next_run h h0 c) rfl
      obtain ⟨d, U, q, rfl⟩ := cf.get
      exact ⟨U, q⟩
    obtain ⟨U, hU⟩ := ev
    have : f__law_told [row ss, rows (sta ss p)] [] = some (rows (sta ss (p + 1)), U) := tryF_ok l2 hU
    rw [this]
    simp
  · have pe : p = prod ss - 1 := by omega
    subst pe
    have rai := next_raises h
    have non : f_focus_next [row ss, rows (sta ss (prod ss - 1))] [] = none := by
      have r2 := (Bool.and_eq_true_iff.mp rai).2
      have := rai_none _ _ _ r2
      show runF _ _ _ _ _ = _
      unfold runF
      rw [if_pos l2, this]
    have ev : evalE (.call [102, 111, 99, 117, 115, 95, 110, 101, 120, 116] f_focus_next [.var 0, .var 1]) [some (row ss), some (rows (sta ss (prod ss - 1))), none] [] = none := by
      simp only [evalE, es]
      unfold callI
      rw [if_pos lo, non]
    have tf : f__law_told [row ss, rows (sta ss (prod ss - 1))] [] = some (.ref 0, [.lst [.str [117, 110, 102, 105, 116], .bl true]]) := (tryF_raise (n := 3) (B := raiF 7 2 b_focus_next) (o := .lst [.str [117, 110, 102, 105, 116], .bl true]) l2 ev es (by rw [lo, rai]; rfl)).trans rfl
    refine call_list (xs := [.str [117, 110, 102, 105, 116], .bl true]) lo (by simp [D.flats]; exact ⟨rfl, rfl⟩) ?_ (k2 c)
    rw [tf]
    simp
end N.K93
set_option autoImplicit false
set_option linter.all false
set_option maxRecDepth 100000
set_option maxHeartbeats 2000000
namespace N.K93
open N N.Mix
/-- no tuple: no state -/
theorem form_call {S : Sto} {Q : D → Sto → Prop} {ss : List Int} {n : Nat} {xs : List D} (hn : S[n]? = some (.lst xs)) (k : Q (.str [102, 111, 114, 109]) S) : Ret (callI f_focus_error [row ss, .ref n] S) Q := by
  suffices run : Ret (f_focus_error [row ss, .ref n] S) fun d T => d = .str [102, 111, 114, 109] ∧ S = T by
    refine call_ref (by simp [D.los, D.lo]) (run.imp fun d T ⟨e, h2⟩ => ?_)
    subst e h2
    exact ⟨k, fun _ => by rw [List.take_length]; exact k⟩
  rw [w_runF]
  refine ⟨rfl, ?_⟩
  simp only [b_focus_error, List.map_cons, List.map_nil, List.replicate, List.cons_append, List.nil_append]
  generalize f_are_within = fw
  generalize f_focus_at = ff
  generalize f_row_place = fp
  refine step (P := fun e T => e = [some (row ss), some (.ref n), some (.int ss.length), none, none, none, none] ∧ S = T) (by simp) ?_
  rintro e T ⟨rfl, rfl⟩
  have is : isiI S .tuple (.ref n) = some false := by simp only [isiI, hn]
  simp only [w_ss1, w_ifs, w_or, w_not, w_blt, w_es1, w_es0, w_var, List.getElem?_cons_succ, List.getElem?_cons_zero, opt_some, bl_isi, isiB, is, ret_some, tru_bl, Bool.not_false, w_or1, if_true, w_ret, w_str, w_ss0, then_rt, back_rt]
  exact ⟨trivial, trivial⟩
/-! ### the first state -/
def beg (m : Nat) : List (List Int) := [List.replicate m 0, (List.range (m + 1)).map fun i : Nat => Int.ofNat i, List.replicate m 1]
theorem gf_zero : ∀ {ss : List Int}, Sz ss → gf ss 0 = List.replicate ss.length 0
  | [], _ => rfl
  | s :: ss, h => by
    simp [gf, List.replicate_succ, gf_zero h.tail]
theorem wy_zero : ∀ {ss : List Int}, Sz ss → wy ss 0 = List.replicate ss.length 1
  | [], _ => rfl
  | s :: ss, h => by
    have := h.head
    have e : ¬ (0 : Int) = s - 1 := by omega
    simp [wy, List.replicate_succ, wy_zero h.tail, e]
theorem wt_zero : ∀ {ss : List Int}, Sz ss → wt ss 0 = List.replicate ss.length false
  | [], _ => rfl
  | s :: ss, h => by
    have := h.head
    have e : ¬ (0 : Int) = s - 1 := by omega
    simp [wt, List.replicate_succ, wt_zero h.tail, e]
theorem ptrs_zero {ss : List Int} (h : Sz ss) : ptrs (wt ss 0) = (List.range (ss.length + 1)).map fun i : Nat => Int.ofNat i := by
  rw [wt_zero h]
  unfold ptrs
  rw [List.length_replicate]
  apply List.map_congr_left
  intro i hi
  rw [ptr_own]
  · rfl
  · rw [List.getD_eq_getElem?_getD, List.getElem?_replicate]
    split <;> rfl
theorem sta_zero {ss : List Int} (h : Sz ss) : sta ss 0 = beg ss.length := by
  unfold sta beg
  rw [gf_zero h, wy_zero h, ptrs_zero h]
theorem rep_tup (k : Int) (m : Nat) : repL (m : Int) [D.int k] = (List.replicate m k).map .int := by
  unfold repL
  induction m with
  | zero => rfl
  | succ m ih =>
    have e : ((m + 1 : Nat) : Int).toNat = m + 1 := by omega
    have e2 : ((m : Nat) : Int).toNat = m := by omega
    rw [e] 
    rw [e2] at ih
    rw [List.replicate_succ, List.flatten_cons, ih, List.replicate_succ]
    rfl
theorem begin_call {S : Sto} {Q : D → Sto → Prop} {ss : List Int} (h : Ok ss) (k : Q (rows (sta ss 0)) S) : Ret (callI f_focus_begin [row ss] S) Q := by
  refine call_flat (d := rows (sta ss 0)) (by simp [D.flats]) (flat_rows _) ?_ k
  rw [w_runF]
  refine ⟨rfl, ?_⟩
  have h40 := h.len
  rw [sta_zero h.sz]
  have v3 : rows (beg ss.length) = .tup [row (List.replicate ss.length 0), row ((List.range (ss.length + 1)).map fun i : Nat => Int.ofNat i), row (List.replicate ss.length 1)] := rfl
  rw [v3]
  simp only [b_focus_begin, List.map_cons, List.map_nil, List.replicate, List.cons_append, List.nil_append]
  obtain ⟨M, hM⟩ : ∃ M : Int, M = ss.length := ⟨_, rfl⟩
  have rg : rngI [.int (M + 1)] = some (((List.range (ss.length + 1)).map fun i : Nat => Int.ofNat i).map .int) := by
    have rg := rng_ok (n := ss.length + 1) (by omega)
    have e : ((ss.length + 1 : Nat) : Int) = M + 1 := by omega
    rw [e] at rg
    rw [rg, List.map_map]
    rfl
  have mu : ∀ (S : Sto) (k : Int), binI S .mul (.tup [.int k]) (.int M) = some (row (List.replicate ss.length k), S) := by
    intro S k
    have c1 : decide ((-1000000 : Int) ≤ M) = true := decide_eq_true (by omega)
    have c2 : decide (M ≤ 1000) = true := decide_eq_true (by omega)
    simp only [binI, c1, c2]
    rw [hM, rep_tup]
    rfl
  refine step (P := fun e S => e = [some (row ss), some (.int M)] ∧ S = []) (by simp [hM]) ?_
  rintro e S ⟨rfl, rfl⟩
  simp only [w_ss1, w_ret, w_tup, w_es1, w_es0, w_bin, w_int, w_var, List.getElem?_cons_succ, List.getElem?_cons_zero, opt_some, mu, w_rngT, b_add, rg, ret_some, then_rt, back_rt]
end N.K93
set_option autoImplicit false
set_option linter.all false
set_option maxRecDepth 100000
set_option maxHeartbeats 2000000
namespace N.K93
open N N.Mix
/-! ### turned rows -/
theorem dgs_at : ∀ (ss : List Int) (p : Int) (i : Nat) (s : Int), Sz ss → ss[i]? = some s → (dgs ss p)[i]? = some (p / pre ss i % s)
  | [], _, _, _, _, h => by simp at h
  | x :: ss, p, 0, s, _, h => by
    simp at h
    subst h
    simp [dgs, pre]
  | x :: ss, p, i + 1, s, hs, h => by
    have a := hs.head
    have := dgs_at ss (p / x) i s hs.tail (by simpa using h)
    simp only [dgs, List.getElem?_cons_succ, this, pre]
    rw [Int.ediv_ediv_of_nonneg (x := p) (y := x) (by omega)]
theorem lwt_at : ∀ (ss ds : List Int) (a : Int) (i : Nat) (s d : Int), ss[i]? = some s → ds[i]? = some d → (lwt ss ds a)[i]? = some ((d - val (ss.take i) (ds.take i) a) % s) ∧ val (ss.take (i + 1)) (ds.take (i + 1)) a = val (ss.take i) (ds.take i) a * s + d
  | [], _, _, _, _, _, h, _ => by simp at h
  | _ :: _, [], _, _, _, _, _, h => by simp at h
  | x :: ss, y :: ds, a, 0, s, d, h, h2 => by
    simp at h h2
    subst h h2
    simp [lwt, val]
  | x :: ss, y :: ds, a, i + 1, s, d, h, h2 => by
    have := lwt_at ss ds (a * x + y) i s d (by simpa using h) (by simpa using h2)
    simp only [lwt, List.getElem?_cons_succ, List.take_succ_cons, val]
    exact this
theorem lwt_len : ∀ (ss ds : List Int) (a : Int), ss.length = ds.length → (lwt ss ds a).length = ss.length
  | [], [], _, _ => rfl
  | x :: ss, y :: ds, a, h => by simp [lwt, lwt_len ss ds _ (by simpa using h)]
  | [], _ :: _, _, h => by simp at h
  | _ :: _, [], _, h => by simp at h
theorem trn_at : ∀ (ss : List Int) (p a : Int) (i : Nat) (s : Int), ss[i]? = some s → (trn ss p a)[i]? = some ((p / prod (ss.drop (i + 1)) - (if i = 0 then a else p / prod (ss.drop i))) % s)
  | [], _, _, _, _, h => by simp at h
  | x :: ss, p, a, 0, s, h => by
    simp at h
    subst h
    simp [trn]
  | x :: ss, p, a, i + 1, s, h => by
    have := trn_at ss p (p / prod ss) i s (by simpa using h)
    simp only [trn, List.getElem?_cons_succ, List.drop_succ_cons, this]
    by_cases c : i = 0
    · subst c; simp
    · rw [if_neg c, if_neg (by omega)]
theorem trn_len : ∀ (ss : List Int) (p a : Int), (trn ss p a).length = ss.length
  | [], _, _ => rfl
  | s :: ss, p, a => by simp [trn, trn_len ss]
theorem pos_dec {y : Int} (h : 2 ≤ y) : decide (0 < y) = true := decide_eq_true (by omega)
theorem trow_call {S : Sto} {Q : D → Sto → Prop} {ss : List Int} {p : Int} (h : Ok ss) (hn : ss ≠ []) (k : Q (row (trn ss p 0)) S) : Ret (callI f_turned_row [row ss, .int p] S) Q := by
  refine call_flat (d := row (trn ss p 0)) (by simp [D.flats, D.flat]) (flat_row _) ?_ k
  rw [w_runF]
  refine ⟨rfl, ?_⟩
  have h40 := h.len
  have tl := trn_len ss p 0
  have hpos : 0 < ss.length := List.length_pos_iff.mpr hn
  simp only [b_turned_row, List.map_cons, List.map_nil, List.replicate, List.cons_append, List.nil_append]
  have rc : ∀ {S : Sto} {Q : D → Sto → Prop}, (∀ T k, Ext S T → T[k]? = some (.lst ((rests ss).map .int)) → Q (.ref k) T) → Ret (callI f_rests_of [row ss] S) Q := fun k => rests_call h hn k
  generalize f_rests_of = fr at rc ⊢
  refine step (P := fun e S => e = [some (row ss), some (.int p), some (.ref 0), some (.int 0), none, none, none] ∧ S = [.lst []]) (by simp) ?_
  rintro e S ⟨rfl, rfl⟩
  rw [w_ss1, w_forS]
  simp only [w_zip, w_var, List.getElem?_cons_zero, opt_some, w_call, w_es1, w_es0]
  refine rc fun T n ex hk => ?_
  have h0 : T[0]? = some (.lst []) := ex.at rfl
  have k0 : n ≠ 0 := by
    intro q
    rw [q, h0] at hk
    have := O.lst.inj (Option.some.inj hk)
    have := congrArg List.length this
    simp [rests_len] at this
    omega
  simp only [row, zip_tl hk, opt_some, zipV_map]
  refine for_idx (ss.zip (rests ss)) (fun q : Int × Int => .tup [.int q.1, .int q.2]) (fun i e S => (∃ x y z, e = [some (row ss), some (.int p), some (.ref 0), some (.int (if i = 0 then 0 else p / prod (ss.drop i))), x, y, z]) ∧ S[n]? = some (.lst ((rests ss).map .int)) ∧ S[0]? = some (.lst (((trn ss p 0).take i).map .int))) (fun i y e S hy hh => ?_) (fun e S hh => ?_) ⟨⟨none, none, none, rfl⟩, hk, h0⟩
  · obtain ⟨⟨x, z, z2, rfl⟩, g1, g2⟩ := hh
    refine ⟨guard_one' g1, ?_⟩
    obtain ⟨s, r⟩ := y
    obtain ⟨q1, q2⟩ := List.getElem?_zip_eq_some.mp hy
    have hi := (List.getElem?_eq_some_iff.mp q1).1
    rw [rest_at ss i hi] at q2
    have q2 : prod (ss.drop (i + 1)) = r := Option.some.inj q2
    subst q2
    obtain ⟨y1, y2⟩ := h.at q1
    have pr := (h.drop (i + 1)).prod
    have dv := big_div pr.1 pr.2
    have ta := trn_at ss p 0 i s q1
    generalize (if i = 0 then (0 : Int) else p / prod (ss.drop i)) = ah at ta ⊢
    have ap := app_digit g2 ta (by omega)
    rw [if_neg (show ¬ i + 1 = 0 by omega)]
    generalize prod (ss.drop (i + 1)) = r at *
    have hp := pos_dec y1
    simp only [w_tgT, items_tup, opt_some, w_ts1, w_ts0, w_tgN, List.set_cons_succ, List.set_cons_zero, w_ss1, w_ss0, w_asg, w_ex, w_meth, w_bin, w_var, List.getElem?_cons_succ, List.getElem?_cons_zero, b_fdiv, dv, if_true, ret_some, then_nx, methT_lst (m := .append) g2 (by decide), w_es1, w_es0, b_sub, b_mod, hp, ap]
    exact ⟨trivial, trivial, ⟨_, _, _, rfl⟩, at_ne g1 k0.symm, set_at g2⟩
  · obtain ⟨⟨x, z, z2, rfl⟩, g1, g2⟩ := hh
    refine ⟨guard_one' g1, ?_⟩
    have zl : (ss.zip (rests ss)).length = ss.length := by simp [rests_len]
    rw [zl, take_all _ tl] at g2
    simp only [then_nx, w_ss1, w_ret, w_blt, w_es1, w_es0, w_var, List.getElem?_cons_succ, List.getElem?_cons_zero, opt_some, bl_tuple, tup_lst g2, ret_some, then_rt, back_rt]
theorem ltrow_call {S : Sto} {Q : D → Sto → Prop} {ss : List Int} {p : Int} (h : Ok ss) (k : Q (row (lwt ss (dgs ss.reverse p).reverse 0)) S) : Ret (callI f__law_turned [row ss, .int p] S) Q := by
  refine call_flat (d := row (lwt ss (dgs ss.reverse p).reverse 0)) (by simp [D.flats, D.flat]) (flat_row _) ?_ k
  rw [w_runF]
  refine ⟨rfl, ?_⟩
  have h40 := h.len
  have hr := h.rev
  have dl : (dgs ss.reverse p).length = ss.length := by rw [dgs_len]; simp
  simp only [b__law_turned, List.map_cons, List.map_nil, List.replicate, List.cons_append, List.nil_append]
  refine step (P := fun e S => e = [some (row ss), some (.int p), none, none, some (.ref 0), some (.int 0), none] ∧ S = [.lst []]) (by simp) ?_
  rintro e S ⟨rfl, rfl⟩
  refine step (P := fun e S => e = [some (row ss), some (.int p), some (.ref 1), none, some (.ref 0), some (.int 0), none] ∧ S = [.lst [], .lst []]) (by simp) ?_
  rintro e S ⟨rfl, rfl⟩
  refine step (P := fun e S => (∃ q x, e = [some (row ss), some (.int q), some (.ref 1), x, some (.ref 0), some (.int 0), none]) ∧ S = [.lst [], .lst ((dgs ss.reverse p).map .int)]) ?_ ?_
  · rw [w_forS]
    simp only [w_wk, w_slc, w_var, List.getElem?_cons_zero, opt_some, w_abs, w_neg, w_int, ret_some, row, sl_rev, ← List.map_reverse, walk_tup]
    refine for_idx ss.reverse (fun s : Int => .int s) (fun i e S => (∃ x, e = [some (row ss), some (.int (p / pre ss.reverse i)), some (.ref 1), x, some (.ref 0), some (.int 0), none]) ∧ S = [.lst [], .lst (((dgs ss.reverse p).take i).map .int)]) (fun i y e S hy hh => ?_) (fun e S hh => ?_) ⟨⟨none, by rw [pre_zero, Int.ediv_one]⟩, by simp⟩
    · obtain ⟨⟨x, rfl⟩, rfl⟩ := hh
      refine ⟨rfl, ?_⟩
      obtain ⟨y1, y2⟩ := hr.at hy
      have dy : divOk y = true := divOk_of (k := 10) (by omega) (by omega) (by decide)
      have hp := pos_dec y1
      have da := dgs_at ss.reverse p i y hr.sz hy
      have pd := pre_div (p := p) hr.sz hy
      generalize hD : dgs ss.reverse p = G at *
      rw [← pd]
      generalize p / pre ss.reverse i = r at *
      have g1 : ([O.lst [], O.lst ((G.take i).map .int)] : Sto)[1]? = some (.lst ((G.take i).map .int)) := rfl
      have ap := app_digit g1 da (by omega)
      simp only [w_tgN, List.set_cons_succ, List.set_cons_zero, w_ss1, w_ss0, w_asg, w_ex, w_meth, w_bin, w_blt, bl_int, intB_int, w_var, List.getElem?_cons_succ, List.getElem?_cons_zero, opt_some, methT_lst (m := .append) g1 (by decide), w_es1, w_es0, b_mod, hp, b_fdiv, dy, if_true, ret_some, ap, then_nx]
      exact ⟨trivial, trivial, ⟨_, rfl⟩, trivial⟩
    · obtain ⟨⟨x, rfl⟩, rfl⟩ := hh
      refine ⟨rfl, rfl, ⟨_, _, rfl⟩, ?_⟩
      rw [take_all _ (dgs_len ss.reverse p)]
  rintro e S ⟨⟨q, x, rfl⟩, rfl⟩
  have rl : (dgs ss.reverse p).reverse.length = ss.length := by simp [dl]
  generalize hD : dgs ss.reverse p = G at *
  have sr := sl_lrev (S := [O.lst [], O.lst (G.map .int)]) (n := 1) rfl
  rw [← List.map_reverse] at sr
  generalize G.reverse = ds at *
  have ll := lwt_len ss ds 0 (by omega)
  rw [w_ss1, w_forS]
  have hk : ([O.lst [], O.lst (G.map .int)] ++ [O.lst (ds.map .int)])[2]? = some (.lst (ds.map .int)) := rfl
  have zz := zip_tl (xs := ss.map .int) hk
  simp only [w_zip, w_slc, w_var, List.getElem?_cons_succ, List.getElem?_cons_zero, opt_some, w_abs, w_neg, w_int, ret_some, sr]
  simp only [row, List.length_cons, List.length_nil, zz, opt_some, zipV_map]
  refine for_idx (ss.zip ds) (fun q : Int × Int => .tup [.int q.1, .int q.2]) (fun i e S => (∃ x y, e = [some (row ss), some (.int q), some (.ref 1), x, some (.ref 0), some (.int (val (ss.take i) (ds.take i) 0)), y]) ∧ S = [.lst (((lwt ss ds 0).take i).map .int), .lst (G.map .int), .lst (ds.map .int)]) (fun i y e S hy hh => ?_) (fun e S hh => ?_) ⟨⟨x, none, by simp [val]⟩, by simp⟩
  · obtain ⟨⟨x, z, rfl⟩, rfl⟩ := hh
    refine ⟨guard_one' rfl, ?_⟩
    obtain ⟨s, d⟩ := y
    obtain ⟨q1, q2⟩ := List.getElem?_zip_eq_some.mp hy
    obtain ⟨y1, y2⟩ := h.at q1
    obtain ⟨la, lv⟩ := lwt_at ss ds 0 i s d q1 q2
    rw [lv]
    generalize hL : lwt ss ds 0 = L at *
    generalize val (ss.take i) (ds.take i) 0 = v at *
    have hp := pos_dec y1
    have g0 : ([O.lst ((L.take i).map .int), O.lst (G.map .int), O.lst (ds.map .int)] : Sto)[0]? = some (.lst ((L.take i).map .int)) := rfl
    have ap := app_digit g0 la (by omega)
    have mo : mulOk v s = true := mulOk_r (sm y1 y2)
    simp only [w_tgT, items_tup, opt_some, w_ts1, w_ts0, w_tgN, List.set_cons_succ, List.set_cons_zero, w_ss1, w_ss0, w_asg, w_ex, w_meth, w_bin, w_blt, bl_int, intB_int, w_var, List.getElem?_cons_succ, List.getElem?_cons_zero, ret_some, then_nx, methT_lst (m := .append) g0 (by decide), w_es1, w_es0, b_sub, b_mod, hp, if_true, ap, b_mul, mo, b_add]
    exact ⟨trivial, trivial, ⟨_, _, rfl⟩, trivial⟩
  · obtain ⟨⟨x, z, rfl⟩, rfl⟩ := hh
    refine ⟨guard_one' rfl, ?_⟩
    have zl : (ss.zip ds).length = ss.length := by simp; omega
    rw [zl, take_all _ ll]
    have g0 := tup_lst (S := [O.lst ((lwt ss ds 0).map .int), .lst (G.map .int), .lst (ds.map .int)]) (n := 0) rfl
    simp only [then_nx, w_ss1, w_ret, w_blt, w_es1, w_es0, w_var, List.getElem?_cons_succ, List.getElem?_cons_zero, opt_some, bl_tuple, g0, ret_some, then_rt, back_rt]
end N.K93
set_option autoImplicit false
set_option linter.all false
set_option maxRecDepth 100000
set_option maxHeartbeats 2000000
namespace N.K93
open N N.Mix
theorem tpl_at : ∀ (ss ds : List Int) (a : Int) (i : Nat) (s d : Int), ss[i]? = some s → ds[i]? = some d → tpl (ss.take (i + 1)) (ds.take (i + 1)) a = tpl (ss.take i) (ds.take i) a * s + (d + tpl (ss.take i) (ds.take i) a - tpl (ss.take i) (ds.take i) a * s) % s
  | [], _, _, _, _, _, h, _ => by simp at h
  | _ :: _, [], _, _, _, _, _, h => by simp at h
  | x :: ss, y :: ds, a, 0, s, d, h, h2 => by
    simp at h h2
    subst h h2
    simp [tpl]
  | x :: ss, y :: ds, a, i + 1, s, d, h, h2 => by
    have := tpl_at ss ds (a * x + (y + a - a * x) % x) i s d (by simpa using h) (by simpa using h2)
    simp only [List.take_succ_cons, tpl]
    exact this
theorem tplace_call {S : Sto} {Q : D → Sto → Prop} {ss ds : List Int} (h : Ok ss) (hl : ds.length = ss.length) (k : Q (.int (tpl ss ds 0)) S) : Ret (callI f_turned_row_place [row ss, row ds] S) Q := by
  refine call_flat (d := .int (tpl ss ds 0)) (by simp [D.flats]) rfl ?_ k
  rw [w_runF]
  refine ⟨rfl, ?_⟩
  simp only [b_turned_row_place, List.map_cons, List.map_nil, List.replicate, List.cons_append, List.nil_append]
  refine step (P := fun e S => e = [some (row ss), some (row ds), some (.int 0), none, none] ∧ S = []) (by simp) ?_
  rintro e S ⟨rfl, rfl⟩
  rw [w_ss1, w_forS]
  simp only [w_zip, w_var, List.getElem?_cons_succ, List.getElem?_cons_zero, opt_some, row, zip_tup, zipV_map]
  refine for_idx (ss.zip ds) (fun q : Int × Int => .tup [.int q.1, .int q.2]) (fun i e S => (∃ x y, e = [some (row ss), some (row ds), some (.int (tpl (ss.take i) (ds.take i) 0)), x, y]) ∧ S = []) (fun i y e S hy hh => ?_) (fun e S hh => ?_) ⟨⟨none, none, by simp [tpl]⟩, rfl⟩
  · obtain ⟨⟨x, z, rfl⟩, rfl⟩ := hh
    refine ⟨rfl, ?_⟩
    obtain ⟨s, d⟩ := y
    obtain ⟨q1, q2⟩ := List.getElem?_zip_eq_some.mp hy
    obtain ⟨y1, y2⟩ := h.at q1
    rw [tpl_at ss ds 0 i s d q1 q2]
    generalize tpl (ss.take i) (ds.take i) 0 = v
    have hp := pos_dec y1
    have mo : mulOk v s = true := mulOk_r (sm y1 y2)
    simp only [w_tgT, items_tup, opt_some, w_ts1, w_ts0, w_tgN, List.set_cons_succ, List.set_cons_zero, w_ss1, w_ss0, w_asg, w_bin, w_var, List.getElem?_cons_succ, List.getElem?_cons_zero, ret_some, then_nx, b_mul, mo, if_true, b_add, b_sub, b_mod, hp]
    exact ⟨trivial, ⟨_, _, rfl⟩, trivial⟩
  · obtain ⟨⟨x, z, rfl⟩, rfl⟩ := hh
    refine ⟨rfl, ?_⟩
    have zl : (ss.zip ds).length = ss.length := by simp; omega
    rw [zl, take_all ss rfl, take_all ds hl]
    simp only [then_nx, w_ss1, w_ret, w_var, List.getElem?_cons_succ, List.getElem?_cons_zero, opt_some, then_rt, back_rt]
/-- the last turned row -/
theorem last_row {ss : List Int} : Sz ss → trn ss (prod ss - 1) 0 = lst 1 ss := fun h => by
  have := trn_last ss 1 h
  rw [Int.one_mul] at this
  exact this
theorem closes_call {S : Sto} {Q : D → Sto → Prop} {s : Int} {ss : List Int} (h : Ok (s :: ss)) (k : Q (.bl (clo s ss)) S) : Ret (callI f_does_turned_close [row (s :: ss)] S) Q := by
  refine call_flat (d := .bl (clo s ss)) (by simp [D.flats]) rfl ?_ k
  rw [w_runF]
  refine ⟨rfl, ?_⟩
  have h40 := h.len
  have hz : (line : Nat) = 16777216 := rfl
  have tl := trn_len (s :: ss) (prod (s :: ss) - 1) 0
  have lr := last_row h.sz
  simp only [b_does_turned_close, List.map_cons, List.map_nil, List.replicate, List.cons_append, List.nil_append]
  have nc : ∀ {S : Sto} {Q : D → Sto → Prop}, Q (.int (prod (s :: ss))) S → Ret (callI f_digit_rows_number [row (s :: ss)] S) Q := fun k => number_call h k
  have tc : ∀ {S : Sto} {Q : D → Sto → Prop} {p : Int}, Q (row (trn (s :: ss) p 0)) S → Ret (callI f_turned_row [row (s :: ss), .int p] S) Q := fun k => trow_call h (by simp) k
  have rowE : D.tup (D.int s :: List.map D.int ss) = row (s :: ss) := rfl
  generalize f_digit_rows_number = fn at nc ⊢
  generalize f_turned_row = ft at tc ⊢
  refine step (P := fun e S => e = [some (row (s :: ss)), some (row (lst 1 (s :: ss))), none, none, none]) ?_ ?_
  · simp only [w_asg, w_call, w_es1, w_es0, w_var, List.getElem?_cons_zero, opt_some, w_bin, w_int]
    refine nc ?_
    simp only [b_sub, ret_some]
    refine tc ?_
    rw [lr]
    simp only [w_tgN, List.set_cons_succ, List.set_cons_zero]
    exact ⟨trivial, trivial⟩
  rintro e S rfl
  -- those above 0
  have hs := h.sz.head
  have l0 : (-1 : Int) % s = s - 1 := by
    have e : (-1 : Int) = s * (-1) + (s - 1) := by omega
    rw [e]; exact md (by omega) (by omega)
  have fl : ((lst 1 (s :: ss)).zip (s :: ss)).filter (fun q => decide (0 < q.1)) = (s - 1, s) :: ((lst s ss).zip ss).filter (fun q => decide (0 < q.1)) := by
    simp only [lst, l0, List.zip_cons_cons, List.filter_cons, Int.one_mul]
    have : decide (0 < s - 1) = true := decide_eq_true (by omega)
    simp only [this, if_true]
  have on := others_nil ss s h.sz.tail
  generalize hO : ((lst s ss).zip ss).filter (fun q => decide (0 < q.1)) = others at fl on
  refine step (P := fun e S => ∃ n x y, S[n]? = some (.lst (((s - 1, s) :: others).map fun q : Int × Int => .tup [.int q.1, .int q.2])) ∧ e = [some (row (s :: ss)), some (row (lst 1 (s :: ss))), some (.ref n), x, y]) ?_ ?_
  · simp only [w_asg, w_comp, w_zip, w_var, List.getElem?_cons_succ, List.getElem?_cons_zero, opt_some]
    have zt : ∀ S : Sto, zipI (row (lst 1 (s :: ss))) (row (s :: ss)) S = some (((lst 1 (s :: ss)).zip (s :: ss)).map fun q => .tup [.int q.1, .int q.2], []) := fun S => by
      simp only [row, zip_tup, zipV_map]
    simp only [zt, opt_some]
    refine ⟨by simp [lst_len]; have := h.len; simp at this; omega, ?_⟩
    rw [comp_map (fun q : Int × Int => .tup [.int q.1, .int q.2]) (fun q => decide (0 < q.1)) (fun q => .tup [.int q.1, .int q.2]) rfl _ fun q hq => ?_]
    · rw [fl]
      simp only [ret_some, w_tgN, List.set_cons_succ, List.set_cons_zero]
      exact ⟨trivial, _, _, _, last_at _ _, rfl⟩
    · simp [N.wipe]
  rintro e S ⟨n, x, y, hn, rfl⟩
  have ln := len_lst hn
  rw [List.length_map] at ln
  have i0 : idxI S (.ref n) (.int 0) = some (.tup [.int (s - 1), .int s]) := idx_lst S (i := 0) hn rfl
  have ia : ∀ {S : Sto} {x y : D}, idxI S (.tup [x, y]) (.int 0) = some x := rfl
  have ib : ∀ {S : Sto} {x y : D}, idxI S (.tup [x, y]) (.int 1) = some y := rfl
  rw [w_ss1, w_ret]
  simp only [w_and, w_cmp, w_blt, bl_len, w_es1, w_es0, w_var, List.getElem?_cons_succ, List.getElem?_cons_zero, opt_some, ln, ret_some, w_c1, w_c0, w_int, cmp_eq, eq_int, w_and1, tru_bl]
  cases hc : clo s ss with
  | true =>
    have := on.mpr hc
    subst this
    simp only [List.length_cons, List.length_nil, decide_true, if_true, w_cmp, w_idx, w_var, List.getElem?_cons_succ, List.getElem?_cons_zero, opt_some, w_int, i0, ia, ib, w_c1, w_c0, w_bin, b_sub, ret_some, cmp_eq, eq_int, w_and0, then_rt, back_rt]
    simp
  | false =>
    have ne : others ≠ [] := fun q => by
      have := on.mp q
      rw [hc] at this
      cases this
    have : ¬ ((((s - 1, s) :: others).length : Nat) : Int) = 1 := by
      have := List.length_pos_iff.mpr ne
      simp only [List.length_cons]
      omega
    simp only [decide_eq_false this, Bool.false_eq_true, if_false, then_rt, back_rt]
end N.K93
set_option autoImplicit false
set_option linter.all false
set_option maxRecDepth 100000
set_option maxHeartbeats 2000000
namespace N.K93
open N N.Mix
/-! ### turned rows are right -/
def tro (ss : List Int) (p : Int) : List Int := (tf ss.reverse p).reverse
theorem lwt_tro {ss : List Int} {p : Int} (h : Sz ss) (h0 : 0 ≤ p) (h1 : p < prod ss) : lwt ss (dgs ss.reverse p).reverse 0 = tro ss p := by
  have := lwt_rev ss.reverse p h.rev h0 (by rw [prod_rev]; exact h1)
  rw [List.reverse_reverse] at this
  exact this
theorem trn_tro {ss : List Int} {p : Int} (h : Sz ss) (h0 : 0 ≤ p) (h1 : p < prod ss) : trn ss p 0 = tro ss p := by
  have := trn_rev ss.reverse p h.rev h0 (by rw [prod_rev]; exact h1)
  rw [List.reverse_reverse] at this
  exact this
theorem tpl_tro {ss : List Int} {p : Int} (h : Sz ss) (h0 : 0 ≤ p) (h1 : p < prod ss) : tpl ss (tro ss p) 0 = p := by
  have := tpl_rev ss.reverse p h.rev h0 (by rw [prod_rev]; exact h1)
  rw [List.reverse_reverse] at this
  exact this
theorem tro_len (ss : List Int) (p : Int) : (tro ss p).length = ss.length := by simp [tro, tf_len]
theorem tf_bd : ∀ (ss : List Int) (p : Int), Sz ss → ∀ j, j < ss.length → 0 ≤ (tf ss p).getD j 0 ∧ (tf ss p).getD j 0 < ss.getD j 0
  | [], _, _, _, h => absurd h (by simp)
  | s :: ss, p, hs, 0, _ => by
    have a := hs.head
    simp only [tf, List.getD_cons_zero]
    exact ⟨m0 _ (by omega), m1 _ (by omega)⟩
  | s :: ss, p, hs, j + 1, h => by
    simp only [tf, List.getD_cons_succ]
    exact tf_bd ss _ hs.tail j (by simpa using h)
/-- the turned row's step -/
structure Tx (ss : List Int) (p : Int) (t : Nat) (x y s : Int) : Prop where
  lt : t < ss.length
  un : unl (tro ss p) (tro ss (p + 1)) = [(t : Int)]
  old : (tro ss p).getD t 0 = x
  new : (tro ss (p + 1)).getD t 0 = y
  sz : ss.getD t 0 = s
  dif : (y - x) % s = 1
  two : 2 ≤ s
theorem tx_of {ss : List Int} {p : Int} (h : Sz ss) (h0 : 0 ≤ p) (h1 : p + 1 < prod ss) : ∃ t x y s, Tx ss p t x y s := by
  have st := step_of ss.reverse p h.rev h0 (by rw [prod_rev]; exact h1)
  have hl : run (wt ss.reverse p) < ss.length := by simpa using st.lt
  have tl : (tf ss.reverse p).length = ss.length := by rw [tf_len]; simp
  have bd := tf_bd ss.reverse p h.rev _ st.lt
  have tr := st.trow
  generalize run (wt ss.reverse p) = j at *
  have sj : ss.reverse.getD j 0 = ss.getD (ss.length - 1 - j) 0 := rev_get hl
  have s2 : 2 ≤ ss.reverse.getD j 0 := by
    rw [List.getD_eq_getElem?_getD, List.getElem?_eq_getElem (by simpa using hl)]
    exact h.rev _ (List.getElem_mem _)
  generalize hs : ss.reverse.getD j 0 = s at *
  generalize hx : (tf ss.reverse p).getD j 0 = x at *
  have d1 : ((x + 1) % s - x) % s = 1 := by
    rw [Int.emod_sub_emod]
    have : x + 1 - x = 1 := by omega
    rw [this]
    exact Int.emod_eq_of_lt (by omega) (by omega)
  have ne : (x + 1) % s ≠ x := fun q => by
    rw [q] at d1
    have : x - x = 0 := by omega
    rw [this] at d1
    simp at d1
  refine ⟨ss.length - 1 - j, x, (x + 1) % s, s, by omega, ?_, ?_, ?_, sj.symm, d1, s2⟩
  · unfold tro
    rw [tr, unl_set (by omega) (by rw [hx]; exact ne), tl]
  · unfold tro
    rw [rev_get (by omega), tl]
    have : ss.length - 1 - (ss.length - 1 - j) = j := by omega
    rw [this, hx]
  · unfold tro
    rw [tr, rev_get (by simp; omega), List.length_set, tl]
    have : ss.length - 1 - (ss.length - 1 - j) = j := by omega
    rw [this, set_get (by omega), if_pos rfl]
theorem clo_snoc : ∀ (xs : List Int) (a y : Int), clo a (xs ++ [y]) = (clo a xs && decide (a * prod xs % y = 0))
  | [], a, y => by simp [clo, prod]
  | x :: xs, a, y => by
    rw [List.cons_append]
    simp only [clo, prod]
    rw [clo_snoc xs, Int.mul_assoc, Bool.and_assoc]
    rfl
/-- what is told of a place, in a row: shown alike -/
structure Fit (xs : List D) : Prop where
  fl : D.flats xs = true
  dp : D.deeps xs ≤ 58
  ok : D.okSs xs = true
  sh : D.shws xs = true
  bu : D.bulks xs ≤ 20000
theorem fit_rep {S : Sto} {k m n : Nat} {xs : List D} (f : Fit xs) (h : S[k]? = some (.lst [.ref m, .ref n])) (h1 : S[m]? = some (.lst xs)) (h2 : S[n]? = some (.lst xs)) : repB S [.ref k] = some (.rep (.lst [.lst xs, .lst xs]), S) :=
  rep_lst2 h h1 h2 f.fl f.fl f.dp f.dp f.ok f.ok f.sh f.sh f.bu f.bu
theorem small10 {x : Int} (h : x.natAbs < 1000000) : small x := by unfold small; omega
theorem fit_three {r : List Int} {p : Int} {d : D} (h1 : r.length ≤ 1000) (h2 : ∀ x ∈ r, small x) (h3 : p.natAbs < 2 ^ 320) (hd : d.flat = true ∧ d.deep = 0 ∧ D.okS d = true ∧ D.shw d = true ∧ D.bulk d = 0) : Fit [row r, .int p, d] := by
  obtain ⟨a, b, c, e, f⟩ := hd
  have dr := deep_row r
  have br := bulk_row r
  refine ⟨?_, ?_, ?_, ?_, ?_⟩
  · simp [D.flats, a, D.flat]
  · show max (D.deep (row r)) (max 0 (max (D.deep d) 0)) ≤ 58
    rw [b]; omega
  · show (D.okS (row r) && (D.okS (.int p) && (D.okS d && true))) = true
    rw [okS_row, c]; rfl
  · show (D.shw (row r) && (D.shw (.int p) && (D.shw d && true))) = true
    rw [shw_row h2, shw_big h3, e]; rfl
  · show D.bulk (row r) + 1 + (D.bulk (.int p) + 1 + (D.bulk d + 1 + 0)) ≤ 20000
    rw [f]
    show D.bulk (row r) + 1 + (0 + 1 + (0 + 1 + 0)) ≤ 20000
    omega
theorem big_abs {p : Int} (h0 : 0 ≤ p) (h1 : p ≤ 10 ^ 40) : p.natAbs < 2 ^ 320 := by
  obtain ⟨n, rfl⟩ := Int.eq_ofNat_of_zero_le h0
  have : n ≤ 10 ^ 40 := by
    have : (n : Int) ≤ ((10 ^ 40 : Nat) : Int) := by simpa using h1
    exact Int.ofNat_le.mp this
  show n < 2 ^ 320
  have e : (2 : Nat) ^ 200 ≤ 2 ^ 320 := Nat.pow_le_pow_right (by decide) (by decide)
  exact Nat.lt_of_le_of_lt this (Nat.lt_of_lt_of_le (by decide) e)
end N.K93
set_option autoImplicit false
set_option linter.all false
set_option maxRecDepth 100000
set_option maxHeartbeats 4000000
namespace N.K93
open N N.Mix
theorem tro_small {ss : List Int} (h : Ok ss) (p : Int) : ∀ x ∈ tro ss p, small x := by
  intro x hx
  unfold tro at hx
  have hx : x ∈ tf ss.reverse p := by simpa using hx
  obtain ⟨i, hi, e⟩ := List.mem_iff_getElem.mp hx
  rw [tf_len] at hi
  have b := tf_bd ss.reverse p h.sz.rev i hi
  have e1 : (tf ss.reverse p).getD i 0 = x := by rw [List.getD_eq_getElem?_getD, List.getElem?_eq_getElem (by rw [tf_len]; exact hi)]; exact e
  have e2 : ss.reverse.getD i 0 ≤ 10 := by
    rw [List.getD_eq_getElem?_getD, List.getElem?_eq_getElem hi]
    exact h.rev.le _ (List.getElem_mem _)
  rw [e1] at b
  exact small10 (by omega)
theorem tright_call {S : Sto} {Q : D → Sto → Prop} {ss : List Int} {p : Int} (h : Ok ss) (hn : ss ≠ []) (h0 : 0 ≤ p) (h1 : p < prod ss) (k : Q (.bl true) S) : Ret (callI f__law_is_turned_right [row ss, .int p, .int (prod ss)] S) Q := by
  refine call_flat (d := .bl true) (by simp [D.flats, D.flat]) rfl ?_ k
  rw [w_runF]
  refine ⟨rfl, ?_⟩
  have h40 := h.len
  have hz : (line : Nat) = 16777216 := rfl
  obtain ⟨s, t, rfl⟩ : ∃ s t, ss = s :: t := by
    cases ss with
    | nil => exact absurd rfl hn
    | cons s t => exact ⟨s, t, rfl⟩
  have pb := h.prod
  simp only [b__law_is_turned_right, List.map_cons, List.map_nil, List.replicate, List.cons_append, List.nil_append]
  have lt : ∀ {S : Sto} {Q : D → Sto → Prop} {q : Int}, 0 ≤ q → q < prod (s :: t) → Q (row (tro (s :: t) q)) S → Ret (callI f__law_turned [row (s :: t), .int q] S) Q := fun a b k => ltrow_call h (by rw [lwt_tro h.sz a b]; exact k)
  have tr : ∀ {S : Sto} {Q : D → Sto → Prop}, Q (row (tro (s :: t) p)) S → Ret (callI f_turned_row [row (s :: t), .int p] S) Q := fun k => trow_call h (by simp) (by rw [trn_tro h.sz h0 h1]; exact k)
  have tp : ∀ {S : Sto} {Q : D → Sto → Prop}, Q (.int p) S → Ret (callI f_turned_row_place [row (s :: t), row (tro (s :: t) p)] S) Q := fun k => tplace_call h (tro_len _ _) (by rw [tpl_tro h.sz h0 h1]; exact k)
  have tc : ∀ {S : Sto} {Q : D → Sto → Prop}, Q (.bl (clo s t)) S → Ret (callI f_does_turned_close [row (s :: t)] S) Q := fun k => closes_call h k
  have un : ∀ {S : Sto} {Q : D → Sto → Prop} {a b : List Int}, a.length = b.length → a.length ≤ 1000 → (∀ T k, Ext S T → T[k]? = some (.lst ((unl a b).map .int)) → Q (.ref k) T) → Ret (callI f__law_unlike [row a, row b] S) Q := fun a b k => unlike_call a b k
  generalize f__law_turned = g1 at lt ⊢
  generalize f_turned_row_place = g3 at tp ⊢
  generalize f_turned_row = g2 at tr ⊢
  generalize f_does_turned_close = g4 at tc ⊢
  generalize f__law_unlike = g5 at un ⊢
  generalize hR : tro (s :: t) p = R at *
  have hRl : R.length = (s :: t).length := by rw [← hR]; exact tro_len _ _
  have i0 : ∀ S : Sto, idxI S (row (s :: t)) (.int 0) = some (.int s) := fun S => by simpa using idx_row S (r := s :: t) (i := 0) (by simp)
  generalize hP : prod (s :: t) = W at *
  refine step (P := fun e S => e = [some (row (s :: t)), some (.int p), some (.int W), none, none, none, some (row R), some (.int s), some (.bl true), none, none] ∧ S = []) ?_ ?_
  · simp only [w_asg, w_tup, w_es1, w_es0, w_call, w_var, List.getElem?_cons_succ, List.getElem?_cons_zero, opt_some]
    refine lt h0 h1 ?_
    rw [hR]
    simp only [w_idx, w_var, List.getElem?_cons_succ, List.getElem?_cons_zero, opt_some, w_int, i0, w_bl, w_tgT, items_tup, w_ts1, w_ts0, w_tgN, List.set_cons_succ, List.set_cons_zero]
    exact ⟨trivial, trivial, trivial⟩
  rintro e S ⟨rfl, rfl⟩
  refine step (P := fun e S => (∃ x y, e = [some (row (s :: t)), some (.int p), some (.int W), x, none, none, some (row R), some (.int y), some (.bl (clo s t)), none, none]) ∧ S = []) ?_ ?_
  · rw [w_forS]
    have sl : ∀ S : Sto, slcI S (row (s :: t)) (.int 1) .non .non = some (.tup (t.map .int), S) := fun S => by
      have := sl_from (S := S) ((s :: t).map .int) (i := 1) (by omega)
      have e : min (Int.toNat 1) ((s :: t).map D.int).length = 1 := by simp
      rw [e] at this
      exact this
    simp only [w_wk, w_slc, w_var, List.getElem?_cons_zero, opt_some, w_int, w_abs, sl, ret_some, walk_tup]
    refine for_idx t (fun s : Int => .int s) (fun i e S => (∃ x, e = [some (row (s :: t)), some (.int p), some (.int W), x, none, none, some (row R), some (.int (s * prod (t.take i))), some (.bl (clo s (t.take i))), none, none]) ∧ S = []) (fun i y e S hy hh => ?_) (fun e S hh => ?_) ⟨⟨none, by simp [prod, clo]⟩, rfl⟩
    · obtain ⟨⟨x, rfl⟩, rfl⟩ := hh
      refine ⟨rfl, ?_⟩
      obtain ⟨y1, y2⟩ := h.tail.at hy
      rw [take_succ' hy, clo_snoc, prod_snoc, ← Int.mul_assoc]
      generalize clo s (t.take i) = cb
      generalize s * prod (t.take i) = pr
      have mo : mulOk pr y = true := mulOk_r (sm y1 y2)
      have hp := pos_dec y1
      simp only [w_tgN, List.set_cons_succ, List.set_cons_zero, w_ss1, w_ss0, w_asg, w_tup, w_es1, w_es0, w_and, w_var, List.getElem?_cons_succ, List.getElem?_cons_zero, opt_some, w_and1, tru_bl]
      cases cb with
      | true =>
        simp only [if_true, w_cmp, w_bin, w_var, List.getElem?_cons_succ, List.getElem?_cons_zero, opt_some, b_mod, hp, ret_some, w_c1, w_c0, w_int, cmp_eq, eq_int, w_and0, b_mul, mo, w_tgT, items_tup, w_ts1, w_ts0, w_tgN, List.set_cons_succ, List.set_cons_zero, then_nx, w_ss0, Bool.true_and]
        exact ⟨trivial, ⟨_, rfl⟩, trivial⟩
      | false =>
        simp only [Bool.false_eq_true, if_false, w_bin, w_var, List.getElem?_cons_succ, List.getElem?_cons_zero, opt_some, b_mul, mo, if_true, ret_some, w_tgT, items_tup, w_ts1, w_ts0, w_tgN, List.set_cons_succ, List.set_cons_zero, then_nx, w_ss0, Bool.false_and]
        exact ⟨trivial, ⟨_, rfl⟩, trivial⟩
    · obtain ⟨⟨x, rfl⟩, rfl⟩ := hh
      rw [take_all t rfl]
      exact ⟨rfl, rfl, ⟨_, _, rfl⟩, rfl⟩
  rintro e S ⟨⟨x, y, rfl⟩, rfl⟩
  generalize hX : [row R, .int p, .bl (clo s t)] = X
  have fX : Fit X := by
    rw [← hX]
    refine fit_three (by rw [hRl]; omega) (by rw [← hR]; exact tro_small h p) (big_abs h0 (by omega)) ⟨rfl, rfl, rfl, rfl, rfl⟩
  refine step (P := fun e S => ∃ n, S[n]? = some (.lst X) ∧ e = [some (row (s :: t)), some (.int p), some (.int W), x, some (.ref n), none, some (row R), some (.int y), some (.bl (clo s t)), none, none]) ?_ ?_
  · simp only [w_asg, w_lst, w_es1, w_es0, w_call, w_var, List.getElem?_cons_succ, List.getElem?_cons_zero, opt_some]
    refine tr (tp (tc ?_))
    rw [hX]
    simp only [w_tgN, List.set_cons_succ, List.set_cons_zero]
    exact ⟨trivial, _, last_at _ _, rfl⟩
  rintro e S ⟨n, hn1, rfl⟩
  refine step (P := fun e S => ∃ m, S[n]? = some (.lst X) ∧ S[m]? = some (.lst [row R, .int p]) ∧ e = [some (row (s :: t)), some (.int p), some (.int W), x, some (.ref n), some (.ref m), some (row R), some (.int y), some (.bl (clo s t)), none, none]) ?_ ?_
  · simp only [w_asg, w_lst, w_es1, w_es0, w_callk, pick, List.filterMap_cons, List.filterMap_nil, w_var, List.getElem?_cons_succ, List.getElem?_cons_zero, opt_some]
    refine tr (tp ?_)
    simp only [w_tgN, List.set_cons_succ, List.set_cons_zero]
    exact ⟨trivial, _, (Ext.app _ _).at hn1, last_at _ _, rfl⟩
  rintro e S ⟨m, hn1, hm1, rfl⟩
  refine step (P := fun e S => e = [some (row (s :: t)), some (.int p), some (.int W), x, some (.ref n), some (.ref m), some (row R), some (.int y), some (.bl (clo s t)), none, none]) ?_ ?_
  · simp only [w_ifs, w_cmp, w_blt, w_es1, w_es0, w_lst, w_bin, w_callk, pick, List.filterMap_cons, List.filterMap_nil, w_var, List.getElem?_cons_succ, List.getElem?_cons_zero, opt_some]
    refine tc ?_
    have ad := add_lst (S := S ++ [O.lst [D.bl (clo s t)]]) (m := m) (n := S.length) (xs := [row R, .int p]) (ys := [.bl (clo s t)]) ((Ext.app _ _).at hm1) (last_at _ _) (by simp)
    have eX : [row R, .int p] ++ [D.bl (clo s t)] = X := hX
    rw [eX] at ad
    simp only [ad, ret_some, bl_repr]
    generalize hT : S ++ [O.lst [D.bl (clo s t)]] = T
    have e1 : Ext S T := by rw [← hT]; exact Ext.app _ _
    have e2 : Ext S (T ++ [O.lst X]) := e1.trans (Ext.app _ _)
    have e3 : Ext S (T ++ [O.lst X] ++ [O.lst [.ref n, .ref T.length]]) := e2.trans (Ext.app _ _)
    have rp := fit_rep fX (S := T ++ [O.lst X] ++ [O.lst [.ref n, .ref T.length]]) (k := (T ++ [O.lst X]).length) (m := n) (n := T.length) (last_at _ _) (e3.at hn1) ((Ext.app _ _).at (last_at _ _))
    simp only [rp, ret_some, w_c3, if_true, w_blt, w_es1, w_es0, w_bin, w_lst, w_var, List.getElem?_cons_succ, List.getElem?_cons_zero, opt_some, w_int, hX]
    generalize T ++ [O.lst X] ++ [O.lst [.ref n, .ref T.length]] = U
    have m1 : (U ++ [O.lst X] ++ [O.lst [.ref U.length]])[(U ++ [O.lst X]).length]? = some (.lst [.ref U.length]) := last_at _ _
    have mt := mul_two m1
    simp only [mt, ret_some, bl_repr]
    have rq := fit_rep fX (S := U ++ [O.lst X] ++ [O.lst [.ref U.length]] ++ [O.lst [.ref U.length, .ref U.length]]) (k := (U ++ [O.lst X] ++ [O.lst [.ref U.length]]).length) (m := U.length) (n := U.length) (last_at _ _) (((Ext.app _ _).trans (Ext.app _ _)).at (last_at _ _)) (((Ext.app _ _).trans (Ext.app _ _)).at (last_at _ _))
    simp only [rq, ret_some, cmp_ne, eq_rep, opt_map, opt_some, Bool.not_true, w_c0, tru_bl, Bool.false_eq_true, if_false, w_ss0]
    exact ⟨trivial, trivial⟩
  rintro e S rfl
  by_cases hw : p + 1 < W
  · obtain ⟨q, x', y', z, tx⟩ := tx_of h.sz h0 (by rw [hP]; exact hw)
    have hq := tx.lt
    have e1 : R.getD q 0 = x' := by rw [← hR]; exact tx.old
    have tu := tx.un
    rw [hR] at tu
    have hw' : decide (p + 1 < W) = true := by simpa using hw
    have hz2 : (2 : Int) ≤ z := tx.two
    refine step (P := fun e S => True) ?_ ?_
    · simp only [w_ifs, w_cmp, w_bin, w_var, List.getElem?_cons_succ, List.getElem?_cons_zero, opt_some, w_int, b_add, ret_some, w_c1, w_c0, cmp_lt, opt_some, hw', tru_bl, if_true, w_ss1, w_asg, w_call, w_es1, w_es0]
      refine lt (by omega) hw ?_
      generalize hA : tro (s :: t) (p + 1) = A at *
      have hAl : A.length = (s :: t).length := by rw [← hA]; exact tro_len _ _
      have e2 : A.getD q 0 = y' := by rw [← hA]; exact tx.new
      have e3 : (s :: t).getD q 0 = z := tx.sz
      have dif := tx.dif
      simp only [w_tgN, List.set_cons_succ, List.set_cons_zero, then_nx, w_ss1, w_ss0, w_asg, w_call, w_es1, w_es0, w_var, List.getElem?_cons_succ, List.getElem?_cons_zero, opt_some]
      refine un (a := R) (b := A) (by rw [hRl, hAl]) (by rw [hRl]; omega) (fun T u _ hu => ?_)
      rw [tu] at hu
      have ln := len_lst hu
      have iu : idxI T (.ref u) (.int 0) = some (.int (q : Int)) := idx_lst T (i := 0) hu rfl
      have iA : idxI T (row A) (.int (q : Nat)) = some (.int y') := by rw [idx_row T (by rw [hAl]; exact hq), e2]
      have iR : idxI T (row R) (.int (q : Nat)) = some (.int x') := by rw [idx_row T (by rw [hRl]; exact hq), e1]
      have iS : idxI T (row (s :: t)) (.int (q : Nat)) = some (.int z) := by rw [idx_row T hq, e3]
      have dz : decide (0 < z) = true := by simp; omega
      simp only [w_tgN, List.set_cons_succ, List.set_cons_zero, then_nx, w_ss1, w_ss0, w_ifs, w_or, w_cmp, w_blt, w_es1, w_es0, w_var, List.getElem?_cons_succ, List.getElem?_cons_zero, opt_some, bl_len, ln, ret_some, w_c1, w_c0, w_int, cmp_ne, eq_int, opt_map, List.map_cons, List.map_nil, List.length_cons, List.length_nil, w_or1, w_or0, w_bin, w_idx, iu, iA, iR, iS, b_sub, bl_int, intB_int, b_mod, dz, if_true, dif, tru_bl]
      have z1 : (!decide (((0 + 1 : Nat) : Int) = 1)) = false := by decide
      have z2 : (!decide True) = false := by decide
      simp only [z1, z2, Bool.false_eq_true, if_false]
      exact ⟨trivial, trivial⟩
    rintro e S -
    simp only [w_ss1, w_ret, w_bl]
    exact rfl
  · have hw' : decide (p + 1 < W) = false := by simpa using hw
    refine step (P := fun e S => True) ?_ ?_
    · simp only [w_ifs, w_cmp, w_bin, w_var, List.getElem?_cons_succ, List.getElem?_cons_zero, opt_some, w_int, b_add, ret_some, w_c1, w_c0, cmp_lt, opt_some, hw', tru_bl, Bool.false_eq_true, if_false, w_ss0]
      exact ⟨trivial, trivial⟩
    rintro e S -
    simp only [w_ss1, w_ret, w_bl]
    exact rfl
end N.K93
set_option autoImplicit false
set_option linter.all false
set_option maxRecDepth 100000
set_option maxHeartbeats 4000000
namespace N.K93
open N N.Mix
/-! ### the law's turn: what is drawn -/
/-- a statement of the law's turn -/
def tst (i : Nat) : St := match b_law.getD 1 .never with
  | .forS _ _ b => b.getD i .never
  | _ => .never
def En (b : Nat) (e : Env) : Prop := ∃ a2 a3 a4 a5 a6 a7 a8 a9 a10 a11 a12 a13 a14 a15 a16 a17 a18 a19 a20 a21, e = [some (.ref 0), some (.ref b), a2, a3, a4, a5, a6, a7, a8, a9, a10, a11, a12, a13, a14, a15, a16, a17, a18, a19, a20, a21]
/-- the size and the top drawn -/
def MT (b : Nat) (m t : Int) (e : Env) : Prop := ∃ a2 a3 a4 a5 a6 a7 a8 a9 a10 a13 a14 a15 a16 a17 a18 a19 a20 a21, e = [some (.ref 0), some (.ref b), a2, a3, a4, a5, a6, a7, a8, a9, a10, some (.int m), some (.int t), a13, a14, a15, a16, a17, a18, a19, a20, a21]
theorem ones_mem {a b c x : Int} (h : (D.int x) ∈ [D.int a, .int b, .int c]) : x = a ∨ x = b ∨ x = c := by simpa using h
theorem t0 {b c : Nat} {e : Env} {S : Sto} (hB : Pot b c S) (hE : En b e) : Run (execS (tst 0) e S) fun f e' S' => f = .nx ∧ Pot b c S' ∧ ∃ m t : Int, 1 ≤ m ∧ m ≤ 40 ∧ 1 ≤ t ∧ t ≤ 9 ∧ MT b m t e' := by
  obtain ⟨a2, a3, a4, a5, a6, a7, a8, a9, a10, a11, a12, a13, a14, a15, a16, a17, a18, a19, a20, a21, rfl⟩ := hE
  simp only [tst, b_law, List.getD_cons_succ, List.getD_cons_zero]
  simp only [w_asg, w_tup, w_es1, w_es0, w_bin, w_int, w_call, w_var, w_lst, List.getElem?_cons_succ, List.getElem?_cons_zero, opt_some]
  have lt := hB.lt
  have one : ∀ {S : Sto} {Q : D → Sto → Prop} {x y z : Int} {n : Nat}, Pot b c S → n ≠ b ∧ n ≠ c → S[n]? = some (.lst [.int x, .int y, .int z]) → (∀ v T, (v = x ∨ v = y ∨ v = z) → Pot b c T → Q (.int v) T) → Ret (callI f__law_one [.ref b, .ref n] S) Q := fun hB hn hx k => by
    refine one_call hB hn hx (by simp) (by simp) (fun d T hd hB _ => ?_) (by simp [D.flat])
    simp only [List.mem_cons, List.not_mem_nil, or_false] at hd
    rcases hd with rfl | rfl | rfl
    · exact k _ _ (.inl rfl) hB
    · exact k _ _ (.inr (.inl rfl)) hB
    · exact k _ _ (.inr (.inr rfl)) hB
  have of : ∀ {S : Sto} {Q : D → Sto → Prop} {m : Int}, Pot b c S → (2 ≤ m → divOk m = true) → (∀ v T, Drawn m v → Pot b c T → Q (.int v) T) → Ret (callI f__law_of [.ref b, .int m] S) Q := fun hB hd k => of_call hB hd fun v T a b _ => k v T a b
  generalize f__law_one = g1 at one ⊢
  generalize f__law_of = g2 at of ⊢
  refine one (hB.ext (Ext.app _ _)) (by omega) (last_at _ _) fun x T hx hT => ?_
  refine of hT (fun _ => by rcases hx with rfl | rfl | rfl <;> decide) fun v U hv hU => ?_
  have lu := hU.lt
  simp only [b_add, ret_some, List.getElem?_cons_succ, List.getElem?_cons_zero, opt_some, w_call, w_es1, w_es0, w_var, w_lst, w_int]
  refine one (hU.ext (Ext.app _ _)) (by omega) (last_at _ _) fun y V hy hV => ?_
  simp only [w_tgT, items_tup, opt_some, w_ts1, w_ts0, w_tgN, List.set_cons_succ, List.set_cons_zero]
  refine ⟨trivial, hV, 1 + v, y, ?_, ?_, ?_, ?_, _, _, _, _, _, _, _, _, _, _, _, _, _, _, _, _, _, _, rfl⟩
  · have := hv.1; omega
  · rcases hv.2 with q | q
    · rcases hx with rfl | rfl | rfl <;> omega
    · omega
  · rcases hy with rfl | rfl | rfl <;> omega
  · rcases hy with rfl | rfl | rfl <;> omega
end N.K93
set_option autoImplicit false
set_option linter.all false
set_option maxRecDepth 100000
set_option maxHeartbeats 4000000
namespace N.K93
open N N.Mix
/-- the sizes drawn -/
def SZ (b : Nat) (ss : List Int) (e : Env) : Prop := ∃ a2 a4 a5 a6 a7 a8 a9 a10 a11 a12 a13 a14 a15 a16 a17 a18 a19 a20 a21, e = [some (.ref 0), some (.ref b), a2, some (row ss), a4, a5, a6, a7, a8, a9, a10, a11, a12, a13, a14, a15, a16, a17, a18, a19, a20, a21]
theorem t1 {b c : Nat} {e : Env} {S : Sto} {m t : Int} (hB : Pot b c S) (m1 : 1 ≤ m) (m2 : m ≤ 40) (s1 : 1 ≤ t) (s2 : t ≤ 9) (hE : MT b m t e) : Run (execS (tst 1) e S) fun f e' S' => f = .nx ∧ Pot b c S' ∧ ∃ ss, Ok ss ∧ ss ≠ [] ∧ SZ b ss e' := by
  obtain ⟨a2, a3, a4, a5, a6, a7, a8, a9, a10, a13, a14, a15, a16, a17, a18, a19, a20, a21, rfl⟩ := hE
  obtain ⟨M, rfl⟩ := Int.eq_ofNat_of_zero_le (show 0 ≤ m by omega)
  have hz : (line : Nat) = 16777216 := rfl
  have ro := rng_ok (show M ≤ 16777216 by omega)
  simp only [tst, b_law, List.getD_cons_succ, List.getD_cons_zero]
  have of : ∀ {S : Sto} {Q : D → Sto → Prop} {m : Int}, Pot b c S → (2 ≤ m → divOk m = true) → (∀ v T, Drawn m v → Pot b c T → Q (.int v) T) → Ret (callI f__law_of [.ref b, .int m] S) Q := fun hB hd k => of_call hB hd fun v T a b _ => k v T a b
  generalize f__law_of = g2 at of ⊢
  have dt : 2 ≤ t → divOk t = true := fun _ => big_div s1 (by omega)
  simp only [w_asg, w_blt, w_es1, w_es0, w_comp, w_rng, w_var, List.getElem?_cons_succ, List.getElem?_cons_zero, opt_some, ro, List.length_map, List.length_range]
  refine ⟨by omega, ?_⟩
  generalize hx : (List.range M).map (fun k : Nat => D.int k) = xs
  have hxl : xs.length = M := by rw [← hx]; simp
  refine comp_inv (fun xs acc T => Pot b c T ∧ ∃ ss : List Int, acc = ss.map .int ∧ ss.length + xs.length = M ∧ ∀ s ∈ ss, 2 ≤ s ∧ s ≤ 10) (fun x xs acc T h => ?_) (fun acc T h => rfl) xs [] S _ ⟨hB, [], rfl, by simpa using hxl, by simp⟩ (fun ys T h => ?_)
  · obtain ⟨hT, ss, rfl, hl, hs⟩ := h
    refine ⟨rfl, ?_⟩
    simp only [wipe, List.foldl_cons, List.foldl_nil, bindT, ret_some, w_tgN, List.set_cons_succ, List.set_cons_zero, thenT_ret, w_bl, tru_bl, opt_some, if_true, w_bin, w_int, w_call, w_es1, w_es0, w_var, List.getElem?_cons_succ, List.getElem?_cons_zero, opt_some]
    refine of hT dt fun v U hv hU => ?_
    simp only [b_add, ret_some]
    refine ⟨hU, ss ++ [2 + v], by simp, by simp at hl ⊢; omega, fun s hs' => ?_⟩
    rcases List.mem_append.mp hs' with q | q
    · exact hs s q
    · have : s = 2 + v := by simpa using q
      have h0 := hv.1
      rcases hv.2 with z | z <;> omega
  · obtain ⟨hT, ss, e, hl, hs⟩ := h
    rw [List.nil_append] at e
    subst e
    have hl : ss.length = M := by simpa using hl
    have tl := tup_lst (S := T ++ [O.lst (ss.map .int)]) (n := T.length) (last_at _ _)
    simp only [bl_tuple, tl, ret_some, w_tgN, List.set_cons_succ, List.set_cons_zero]
    refine ⟨trivial, hT.ext (Ext.app _ _), ss, ⟨fun s hs' => (hs s hs').1, fun s hs' => (hs s hs').2, by omega⟩, ?_, _, _, _, _, _, _, _, _, _, _, _, _, _, _, _, _, _, _, _, rfl⟩
    intro q
    rw [q] at hl
    simp at hl
    omega
end N.K93
set_option autoImplicit false
set_option linter.all false
set_option maxRecDepth 100000
set_option maxHeartbeats 4000000
namespace N.K93
open N N.Mix
theorem rep_row {S : Sto} {r : List Int} (h : ∀ x ∈ r, small x) (hl : r.length ≤ 1000) : repB S [row r] = some (.rep (row r), S) := by
  have dr := deep_row r
  have br := bulk_row r
  exact rep_ok (flat_rd S (row r) RD (flat_row r) (by have : RD = 60 := rfl; omega)) (okS_row r) (shw_row h) (by omega)
theorem Ok.small {ss : List Int} (h : Ok ss) : ∀ s ∈ ss, small s := fun s hs => small10 (by have := h.sz s hs; have := h.le s hs; omega)
/-- the sizes, their text and their product so far -/
def WH (b : Nat) (ss : List Int) (w : Int) (e : Env) : Prop := ∃ a2 a4 a5 a6 a7 a8 a9 a10 a11 a12 a15 a16 a17 a18 a19 a20 a21, e = [some (.ref 0), some (.ref b), a2, some (row ss), a4, a5, a6, a7, a8, a9, a10, a11, a12, some (.rep (row ss)), some (.int w), a15, a16, a17, a18, a19, a20, a21]
theorem t2 {b : Nat} {e : Env} {S : Sto} {ss : List Int} (h : Ok ss) (hE : SZ b ss e) : Run (execS (tst 2) e S) fun f e' S' => f = .nx ∧ S' = S ∧ WH b ss 1 e' := by
  obtain ⟨a2, a4, a5, a6, a7, a8, a9, a10, a11, a12, a13, a14, a15, a16, a17, a18, a19, a20, a21, rfl⟩ := hE
  have h40 := h.len
  have rp := rep_row (S := S) h.small (by omega)
  simp only [tst, b_law, List.getD_cons_succ, List.getD_cons_zero]
  simp only [w_asg, w_tup, w_blt, w_es1, w_es0, w_var, List.getElem?_cons_succ, List.getElem?_cons_zero, opt_some, bl_repr, rp, ret_some, w_int, w_tgT, items_tup, w_ts1, w_ts0, w_tgN, List.set_cons_succ, List.set_cons_zero]
  exact ⟨trivial, trivial, _, _, _, _, _, _, _, _, _, _, _, _, _, _, _, _, _, rfl⟩
theorem t3 {b : Nat} {e : Env} {S : Sto} {ss : List Int} (h : Ok ss) (hE : WH b ss 1 e) : Run (execS (tst 3) e S) fun f e' S' => f = .nx ∧ S' = S ∧ WH b ss (prod ss) e' := by
  obtain ⟨a2, a4, a5, a6, a7, a8, a9, a10, a11, a12, a15, a16, a17, a18, a19, a20, a21, rfl⟩ := hE
  simp only [tst, b_law, List.getD_cons_succ, List.getD_cons_zero]
  rw [w_forS]
  simp only [w_wk, w_var, List.getElem?_cons_succ, List.getElem?_cons_zero, opt_some, walk_tup, row]
  refine for_idx ss (fun s : Int => .int s) (fun i e S' => WH b ss (prod (ss.take i)) e ∧ S' = S) (fun i y e S' hy hh => ?_) (fun e S' hh => ?_) ⟨⟨_, _, _, _, _, _, _, _, _, _, _, _, _, _, _, _, _, rfl⟩, rfl⟩
  · obtain ⟨⟨a2, a4, a5, a6, a7, a8, a9, a10, a11, a12, a15, a16, a17, a18, a19, a20, a21, rfl⟩, rfl⟩ := hh
    refine ⟨rfl, ?_⟩
    obtain ⟨y1, y2⟩ := h.at hy
    rw [take_succ' hy, prod_snoc]
    generalize prod (ss.take i) = pr
    have mo : mulOk pr y = true := mulOk_r (sm y1 y2)
    simp only [bindT, w_tgN, List.set_cons_succ, List.set_cons_zero, w_ss1, w_ss0, w_asg, w_bin, w_var, List.getElem?_cons_succ, List.getElem?_cons_zero, opt_some, b_mul, mo, if_true, ret_some, then_nx]
    exact ⟨trivial, ⟨_, _, _, _, _, _, _, _, _, _, _, _, _, _, _, _, _, rfl⟩, trivial⟩
  · obtain ⟨hh, rfl⟩ := hh
    rw [take_all ss rfl] at hh
    exact ⟨rfl, rfl, rfl, hh⟩
end N.K93
set_option autoImplicit false
set_option linter.all false
set_option maxRecDepth 100000
set_option maxHeartbeats 4000000
namespace N.K93
open N N.Mix
/-- and the place -/
def PL (b : Nat) (ss : List Int) (p : Int) (e : Env) : Prop := ∃ a2 a4 a6 a7 a8 a9 a10 a11 a12 a15 a16 a17 a18 a19 a20 a21, e = [some (.ref 0), some (.ref b), a2, some (row ss), a4, some (.int p), a6, a7, a8, a9, a10, a11, a12, some (.rep (row ss)), some (.int (prod ss)), a15, a16, a17, a18, a19, a20, a21]
/-- and the row there -/
def RW (b : Nat) (ss : List Int) (p : Int) (e : Env) : Prop := ∃ a2 a4 a7 a8 a9 a10 a11 a12 a15 a16 a17 a18 a19 a20 a21, e = [some (.ref 0), some (.ref b), a2, some (row ss), a4, some (.int p), some (row (refl ss p)), a7, a8, a9, a10, a11, a12, some (.rep (row ss)), some (.int (prod ss)), a15, a16, a17, a18, a19, a20, a21]
theorem t4 {b c : Nat} {e : Env} {S : Sto} {ss : List Int} (hB : Pot b c S) (h : Ok ss) (hE : WH b ss (prod ss) e) : Run (execS (tst 4) e S) fun f e' S' => f = .nx ∧ Pot b c S' ∧ ∃ p, 0 ≤ p ∧ p < prod ss ∧ PL b ss p e' := by
  obtain ⟨a2, a4, a5, a6, a7, a8, a9, a10, a11, a12, a15, a16, a17, a18, a19, a20, a21, rfl⟩ := hE
  have pb := h.prod
  have dw : 2 ≤ prod ss → divOk (prod ss) = true := fun _ => big_div pb.1 pb.2
  simp only [tst, b_law, List.getD_cons_succ, List.getD_cons_zero]
  have of : ∀ {S : Sto} {Q : D → Sto → Prop} {m : Int}, Pot b c S → (2 ≤ m → divOk m = true) → (∀ v T, Drawn m v → Pot b c T → Q (.int v) T) → Ret (callI f__law_of [.ref b, .int m] S) Q := fun hB hd k => of_call hB hd fun v T a b _ => k v T a b
  have one : ∀ {S : Sto} {Q : D → Sto → Prop} {x y z u w : Int} {n : Nat}, Pot b c S → n ≠ b ∧ n ≠ c → S[n]? = some (.lst [.int x, .int y, .int z, .int u, .int w]) → (∀ v T, (v = x ∨ v = y ∨ v = z ∨ v = u ∨ v = w) → Pot b c T → Q (.int v) T) → Ret (callI f__law_one [.ref b, .ref n] S) Q := fun hB hn hx k => by
    refine one_call hB hn hx (by simp) (by simp) (fun d T hd hB _ => ?_) (by simp [D.flat])
    simp only [List.mem_cons, List.not_mem_nil, or_false] at hd
    rcases hd with rfl | rfl | rfl | rfl | rfl
    · exact k _ _ (.inl rfl) hB
    · exact k _ _ (.inr (.inl rfl)) hB
    · exact k _ _ (.inr (.inr (.inl rfl))) hB
    · exact k _ _ (.inr (.inr (.inr (.inl rfl)))) hB
    · exact k _ _ (.inr (.inr (.inr (.inr rfl)))) hB
  generalize f__law_one = g1 at one ⊢
  generalize f__law_of = g2 at of ⊢
  generalize hW : prod ss = W at *
  simp only [w_asg, w_call, w_es1, w_es0, w_bin, w_int, w_var, w_lst, List.getElem?_cons_succ, List.getElem?_cons_zero, opt_some, b_sub, ret_some]
  refine of hB dw fun x T hx hT => of hT dw fun y U hy hU => of hU dw fun z V hz hV => ?_
  have lv := hV.lt
  refine one (hV.ext (Ext.app _ _)) (by omega) (last_at _ _) fun q X hq hX => ?_
  simp only [w_tgN, List.set_cons_succ, List.set_cons_zero]
  subst hW
  refine ⟨trivial, hX, q, ?_, ?_, _, _, _, _, _, _, _, _, _, _, _, _, _, _, _, _, rfl⟩
  · have := hx.1; have := hy.1; have := hz.1
    rcases hq with rfl | rfl | rfl | rfl | rfl <;> omega
  · have a := hx.2; have b := hy.2; have c := hz.2
    rcases hq with rfl | rfl | rfl | rfl | rfl <;> omega
theorem t5 {b : Nat} {e : Env} {S : Sto} {ss : List Int} {p : Int} (h : Ok ss) (hE : PL b ss p e) : Run (execS (tst 5) e S) fun f e' S' => f = .nx ∧ S' = S ∧ RW b ss p e' := by
  obtain ⟨a2, a4, a6, a7, a8, a9, a10, a11, a12, a15, a16, a17, a18, a19, a20, a21, rfl⟩ := hE
  simp only [tst, b_law, List.getD_cons_succ, List.getD_cons_zero]
  have lr : ∀ {S : Sto} {Q : D → Sto → Prop}, Q (row (refl ss p)) S → Ret (callI f__law_reflected [row ss, .int p] S) Q := fun k => lrefl_call h k
  generalize f__law_reflected = g1 at lr ⊢
  simp only [w_asg, w_call, w_es1, w_es0, w_var, List.getElem?_cons_succ, List.getElem?_cons_zero, opt_some]
  refine lr ?_
  simp only [w_tgN, List.set_cons_succ, List.set_cons_zero]
  exact ⟨trivial, trivial, _, _, _, _, _, _, _, _, _, _, _, _, _, _, _, rfl⟩
end N.K93
set_option autoImplicit false
set_option linter.all false
set_option maxRecDepth 100000
set_option maxHeartbeats 4000000
namespace N.K93
open N N.Mix
theorem refl_small {ss : List Int} {p : Int} (h : Ok ss) (h0 : 0 ≤ p) (h1 : p < prod ss) : ∀ x ∈ refl ss p, 0 ≤ x ∧ x < 10 := by
  intro x hx
  obtain ⟨i, hi, e⟩ := List.mem_iff_getElem.mp hx
  rw [refl_len] at hi
  have b := refl_bd ss p h.sz h0 h1 i hi
  have e1 : (refl ss p).getD i 0 = x := by rw [List.getD_eq_getElem?_getD, List.getElem?_eq_getElem (by rw [refl_len]; exact hi)]; exact e
  have e2 : ss.getD i 0 ≤ 10 := by
    rw [List.getD_eq_getElem?_getD, List.getElem?_eq_getElem hi]
    exact h.le _ (List.getElem_mem _)
  rw [e1] at b
  omega
/-- statements 6, 7 and 8: the row, its place and the number, told by place and by name -/
theorem t678 {b c : Nat} {e : Env} {S : Sto} {ss : List Int} {p : Int} (hB : Pot b c S) (h : Ok ss) (hn : ss ≠ []) (h0 : 0 ≤ p) (h1 : p < prod ss) (hE : RW b ss p e) : Run (execSs [tst 6, tst 7, tst 8] e S) fun f e' S' => f = .nx ∧ Pot b c S' ∧ RW b ss p e' := by
  obtain ⟨a2, a4, a7, a8, a9, a10, a11, a12, a15, a16, a17, a18, a19, a20, a21, rfl⟩ := hE
  have h40 := h.len
  have pb := h.prod
  simp only [tst, b_law, List.getD_cons_succ, List.getD_cons_zero]
  have rc : ∀ {S : Sto} {Q : D → Sto → Prop}, Q (row (refl ss p)) S → Ret (callI f_reflected_row [row ss, .int p] S) Q := fun k => refl_call h hn k
  have bc : ∀ {S : Sto} {Q : D → Sto → Prop}, Q (.int p) S → Ret (callI f_reflected_place [row ss, row (refl ss p)] S) Q := fun k => back_call h hn (refl_len _ _) (fun d hd => by have := refl_small h h0 h1 d hd; omega) (by rw [back_refl ss p h.sz h0 h1]; exact k)
  have nc : ∀ {S : Sto} {Q : D → Sto → Prop}, Q (.int (prod ss)) S → Ret (callI f_digit_rows_number [row ss] S) Q := fun k => number_call h k
  generalize f_reflected_row = g1 at rc ⊢
  generalize f_reflected_place = g2 at bc ⊢
  generalize f_digit_rows_number = g3 at nc ⊢
  have rl := refl_len ss p
  have rs := refl_small h h0 h1
  generalize hR : refl ss p = R at *
  generalize hW : prod ss = W at *
  generalize hX : [row R, .int p, .int W] = X
  have fX : Fit X := by
    rw [← hX]
    refine fit_three (by omega) (fun x hx => small10 (by have := rs x hx; omega)) (big_abs h0 (by omega)) ⟨rfl, rfl, rfl, ?_, rfl⟩
    exact shw_big (big_abs (by omega) pb.2)
  refine step (P := fun e S => ∃ n, S[n]? = some (.lst X) ∧ Pot b c S ∧ e = [some (.ref 0), some (.ref b), a2, some (row ss), a4, some (.int p), some (row R), some (.ref n), a8, a9, a10, a11, a12, some (.rep (row ss)), some (.int W), a15, a16, a17, a18, a19, a20, a21]) ?_ ?_
  · simp only [w_asg, w_lst, w_es1, w_es0, w_call, w_var, List.getElem?_cons_succ, List.getElem?_cons_zero, opt_some]
    refine rc (bc (nc ?_))
    rw [hX]
    simp only [w_tgN, List.set_cons_succ, List.set_cons_zero]
    exact ⟨trivial, _, last_at _ _, hB.ext (Ext.app _ _), rfl⟩
  rintro e S ⟨n, hn1, hB, rfl⟩
  refine step (P := fun e S => ∃ m, S[n]? = some (.lst X) ∧ S[m]? = some (.lst [row R, .int p]) ∧ Pot b c S ∧ e = [some (.ref 0), some (.ref b), a2, some (row ss), a4, some (.int p), some (row R), some (.ref n), some (.ref m), a9, a10, a11, a12, some (.rep (row ss)), some (.int W), a15, a16, a17, a18, a19, a20, a21]) ?_ ?_
  · simp only [w_asg, w_lst, w_es1, w_es0, w_callk, pick, List.filterMap_cons, List.filterMap_nil, w_var, List.getElem?_cons_succ, List.getElem?_cons_zero, opt_some]
    refine rc (bc ?_)
    simp only [w_tgN, List.set_cons_succ, List.set_cons_zero]
    exact ⟨trivial, _, (Ext.app _ _).at hn1, last_at _ _, hB.ext (Ext.app _ _), rfl⟩
  rintro e S ⟨m, hn1, hm1, hB, rfl⟩
  refine step (P := fun e S => Pot b c S ∧ e = [some (.ref 0), some (.ref b), a2, some (row ss), a4, some (.int p), some (row R), some (.ref n), some (.ref m), a9, a10, a11, a12, some (.rep (row ss)), some (.int W), a15, a16, a17, a18, a19, a20, a21]) ?_ ?_
  · simp only [w_ifs, w_cmp, w_blt, w_es1, w_es0, w_lst, w_bin, w_callk, pick, List.filterMap_cons, List.filterMap_nil, w_var, List.getElem?_cons_succ, List.getElem?_cons_zero, opt_some]
    refine nc ?_
    have ad := add_lst (S := S ++ [O.lst [D.int W]]) (m := m) (n := S.length) (xs := [row R, .int p]) (ys := [.int W]) ((Ext.app _ _).at hm1) (last_at _ _) (by simp)
    have eX : [row R, .int p] ++ [D.int W] = X := hX
    rw [eX] at ad
    simp only [ad, ret_some, bl_repr]
    generalize hT : S ++ [O.lst [D.int W]] = T
    have e1 : Ext S T := by rw [← hT]; exact Ext.app _ _
    have e2 : Ext S (T ++ [O.lst X]) := e1.trans (Ext.app _ _)
    have e3 : Ext S (T ++ [O.lst X] ++ [O.lst [.ref n, .ref T.length]]) := e2.trans (Ext.app _ _)
    have rp := fit_rep fX (S := T ++ [O.lst X] ++ [O.lst [.ref n, .ref T.length]]) (k := (T ++ [O.lst X]).length) (m := n) (n := T.length) (last_at _ _) (e3.at hn1) ((Ext.app _ _).at (last_at _ _))
    simp only [rp, ret_some, w_c3, if_true, w_blt, w_es1, w_es0, w_bin, w_lst, w_var, List.getElem?_cons_succ, List.getElem?_cons_zero, opt_some, w_int, hX]
    have hU : Pot b c (T ++ [O.lst X] ++ [O.lst [.ref n, .ref T.length]]) := hB.ext e3
    generalize T ++ [O.lst X] ++ [O.lst [.ref n, .ref T.length]] = U at hU ⊢
    have m1 : (U ++ [O.lst X] ++ [O.lst [.ref U.length]])[(U ++ [O.lst X]).length]? = some (.lst [.ref U.length]) := last_at _ _
    have mt := mul_two m1
    simp only [mt, ret_some, bl_repr]
    have rq := fit_rep fX (S := U ++ [O.lst X] ++ [O.lst [.ref U.length]] ++ [O.lst [.ref U.length, .ref U.length]]) (k := (U ++ [O.lst X] ++ [O.lst [.ref U.length]]).length) (m := U.length) (n := U.length) (last_at _ _) (((Ext.app _ _).trans (Ext.app _ _)).at (last_at _ _)) (((Ext.app _ _).trans (Ext.app _ _)).at (last_at _ _))
    simp only [rq, ret_some, cmp_ne, eq_rep, opt_map, opt_some, Bool.not_true, w_c0, tru_bl, Bool.false_eq_true, if_false, w_ss0]
    exact ⟨trivial, ((hU.ext (Ext.app _ _)).ext (Ext.app _ _)).ext (Ext.app _ _), trivial⟩
  rintro e S ⟨hB, rfl⟩
  simp only [w_ss0]
  subst hR hW
  exact ⟨trivial, hB, _, _, _, _, _, _, _, _, _, _, _, _, _, _, _, rfl⟩
end N.K93
set_option autoImplicit false
set_option linter.all false
set_option maxRecDepth 100000
set_option maxHeartbeats 4000000
namespace N.K93
open N N.Mix
/-- and the sizes turned back, and the state -/
def FO (b : Nat) (ss : List Int) (p : Int) (e : Env) : Prop := ∃ a2 a4 a7 a8 a11 a12 a15 a16 a17 a18 a19 a20 a21, e = [some (.ref 0), some (.ref b), a2, some (row ss), a4, some (.int p), some (row (refl ss p)), a7, a8, some (row ss.reverse), some (rows (sta ss.reverse p)), a11, a12, some (.rep (row ss)), some (.int (prod ss)), a15, a16, a17, a18, a19, a20, a21]
theorem t9 {b c : Nat} {e : Env} {S : Sto} {ss : List Int} {p : Int} (hB : Pot b c S) (h : Ok ss) (h0 : 0 ≤ p) (h1 : p < prod ss) (hE : RW b ss p e) : Run (execSs [tst 9, tst 10, tst 11] e S) fun f e' S' => f = .nx ∧ Pot b c S' ∧ FO b ss p e' := by
  obtain ⟨a2, a4, a7, a8, a9, a10, a11, a12, a15, a16, a17, a18, a19, a20, a21, rfl⟩ := hE
  have h40 := h.len
  simp only [tst, b_law, List.getD_cons_succ, List.getD_cons_zero]
  have fc : ∀ {S : Sto} {Q : D → Sto → Prop}, Q .non S → Ret (callI f_digit_row_error [row ss, row (refl ss p)] S) Q := fun k => fault_call (refl_len _ _) (by omega) (refl_bd ss p h.sz h0 h1) k
  have oc : ∀ {S : Sto} {Q : D → Sto → Prop}, Q (rows (sta ss.reverse p)) S → Ret (callI f_focus_at [row ss.reverse, .int p] S) Q := fun k => focus_call h.rev k
  have sl : ∀ S : Sto, slcI S (row ss) .non .non (.int (-1)) = some (row ss.reverse, S) := fun S => by
    have := sl_rev (S := S) (ss.map .int)
    rw [← List.map_reverse] at this
    exact this
  generalize f_digit_row_error = g1 at fc ⊢
  generalize f_focus_at = g2 at oc ⊢
  simp only [w_ss1, w_ss0, w_ifs, w_cmp, w_call, w_es1, w_es0, w_var, List.getElem?_cons_succ, List.getElem?_cons_zero, opt_some]
  refine fc ?_
  simp only [w_c1, w_c0, w_c3, w_non, cmp_isnt, decide_true, Bool.not_true, opt_some, tru_bl, Bool.false_eq_true, if_false, if_true, w_ss0, then_nx, w_ss1, w_asg, w_slc, w_var, List.getElem?_cons_succ, List.getElem?_cons_zero, w_abs, w_neg, w_int, ret_some, sl, w_tgN, List.set_cons_succ, List.set_cons_zero, w_call, w_es1, w_es0]
  refine oc ?_
  exact ⟨trivial, hB, _, _, _, _, _, _, _, _, _, _, _, _, _, rfl⟩
end N.K93
set_option autoImplicit false
set_option linter.all false
set_option maxRecDepth 100000
set_option maxHeartbeats 4000000
namespace N.K93
open N N.Mix
theorem sta_small {ss : List Int} (h : Ok ss) (p : Int) : ∀ r ∈ sta ss p, r.length ≤ 41 ∧ ∀ x ∈ r, small x := by
  have h40 := h.len
  intro r hr
  simp only [sta, List.mem_cons, List.not_mem_nil, or_false] at hr
  rcases hr with rfl | rfl | rfl
  · refine ⟨by rw [gf_len]; omega, fun x hx => ?_⟩
    have := List.all_eq_true.mp (gf_inn h p) x hx
    have := of_decide_eq_true this
    exact small10 (by omega)
  · refine ⟨by rw [ptrs_len, wt_len]; omega, fun x hx => ?_⟩
    have := List.all_eq_true.mp (ptrs_inn (w := wt ss p)) x hx
    have := of_decide_eq_true this
    rw [wt_len] at this
    exact small10 (by omega)
  · refine ⟨by rw [wy_len]; omega, fun x hx => ?_⟩
    rcases wy_val _ _ _ hx with rfl | rfl <;> exact small10 (by decide)
theorem rep_sta {S : Sto} {ss : List Int} (h : Ok ss) (p : Int) : repB S [rows (sta ss p)] = some (.rep (rows (sta ss p)), S) := by
  have dr := deep_rows (sta ss p)
  have br := bulk_rows (rs := sta ss p) (m := 41) fun r hr => (sta_small h p r hr).1
  have bl : (sta ss p).length = 3 := rfl
  rw [bl] at br
  exact rep_ok (flat_rd S _ RD (flat_rows _) (by have : RD = 60 := rfl; omega)) (okS_rows _) (shw_rows fun r hr => (sta_small h p r hr).2) (by omega)
theorem t12 {b c : Nat} {e : Env} {S : Sto} {ss : List Int} {p : Int} (hB : Pot b c S) (h : Ok ss) (h0 : 0 ≤ p) (h1 : p < prod ss) (hE : FO b ss p e) : Run (execS (tst 12) e S) fun f e' S' => f = .nx ∧ Pot b c S' ∧ FO b ss p e' := by
  have hE' := hE
  obtain ⟨a2, a4, a7, a8, a11, a12, a15, a16, a17, a18, a19, a20, a21, rfl⟩ := hE
  simp only [tst, b_law, List.getD_cons_succ, List.getD_cons_zero]
  have oc : ∀ {S : Sto} {Q : D → Sto → Prop}, Q (rows (sta ss.reverse p)) S → Ret (callI f_focus_at [row ss.reverse, .int p] S) Q := fun k => focus_call h.rev k
  generalize f_focus_at = g2 at oc ⊢
  have i0 : idxI S (rows (sta ss.reverse p)) (.int 0) = some (row (gf ss.reverse p)) := idx_tup S (i := 0) rfl
  have sl : slcI S (row (refl ss p)) .non .non (.int (-1)) = some (row (gf ss.reverse p), S) := by
    have := sl_rev (S := S) ((refl ss p).map .int)
    rw [← List.map_reverse, refl_gf h.sz h0 h1, List.reverse_reverse] at this
    rw [refl_gf h.sz h0 h1]
    exact this
  have rp := rep_sta (S := S) h.rev p
  simp only [w_ifs, w_or, w_cmp, w_idx, w_var, List.getElem?_cons_succ, List.getElem?_cons_zero, opt_some, w_int, i0, w_c1, w_c0, w_slc, w_abs, w_neg, sl, ret_some, cmp_ne, eq_row, opt_map, decide_true, Bool.not_true, w_or1, tru_bl, Bool.false_eq_true, if_false, w_blt, w_es1, w_es0, w_callk, pick, List.filterMap_cons, List.filterMap_nil]
  refine oc ?_
  simp only [bl_repr, rp, ret_some, w_blt, w_es1, w_es0, w_var, List.getElem?_cons_succ, List.getElem?_cons_zero, opt_some, eq_rep, opt_map, Bool.not_true, w_or0, tru_bl, Bool.false_eq_true, if_false, w_ss0, cmp_ne, w_c0]
  exact ⟨trivial, hB, hE'⟩
end N.K93
set_option autoImplicit false
set_option linter.all false
set_option maxRecDepth 100000
set_option maxHeartbeats 4000000
namespace N.K93
open N N.Mix
theorem wy_inn (ss : List Int) (p : Int) : inn (-1) 1 (wy ss p) = true ∧ (0 : Int) ∉ wy ss p := by
  constructor
  · refine List.all_eq_true.mpr fun x hx => decide_eq_true ?_
    rcases wy_val _ _ _ hx with rfl | rfl <;> decide
  · intro hx
    rcases wy_val _ _ _ hx with q | q <;> simp at q
theorem ptrs_wt_inn (ss : List Int) (p : Int) : inn 0 ss.length (ptrs (wt ss p)) = true := by
  have := ptrs_inn (w := wt ss p)
  rw [wt_len] at this
  exact this
theorem err_sta {S : Sto} {Q : D → Sto → Prop} {ss : List Int} {p : Int} (h : Ok ss) (h0 : 0 ≤ p) (h1 : p < prod ss) (k : Q .non S) : Ret (callI f_focus_error [row ss, rows (sta ss p)] S) Q := by
  refine error_call h h0 h1 (by rw [ptrs_len, wt_len]) (ptrs_wt_inn ss p) (wy_len _ _) (wy_inn ss p).1 (wy_inn ss p).2 ?_
  unfold faultD
  rw [if_pos rfl, if_pos rfl]
  exact k
theorem t13 {b c : Nat} {e : Env} {S : Sto} {ss : List Int} {p : Int} (hB : Pot b c S) (h : Ok ss) (h0 : 0 ≤ p) (h1 : p < prod ss) (hE : FO b ss p e) : Run (execS (tst 13) e S) fun f e' S' => f = .nx ∧ Pot b c S' ∧ FO b ss p e' := by
  have hE' := hE
  obtain ⟨a2, a4, a7, a8, a11, a12, a15, a16, a17, a18, a19, a20, a21, rfl⟩ := hE
  simp only [tst, b_law, List.getD_cons_succ, List.getD_cons_zero]
  have ec : ∀ {S : Sto} {Q : D → Sto → Prop}, Q .non S → Ret (callI f_focus_error [row ss.reverse, rows (sta ss.reverse p)] S) Q := fun k => err_sta h.rev h0 (by rw [prod_rev]; exact h1) k
  generalize f_focus_error = g2 at ec ⊢
  simp only [w_ifs, w_or, w_cmp, w_call, w_es1, w_es0, w_var, List.getElem?_cons_succ, List.getElem?_cons_zero, opt_some]
  refine ec ?_
  simp only [w_c1, w_c0, w_non, cmp_isnt, decide_true, Bool.not_true, opt_some, w_or1, tru_bl, Bool.false_eq_true, if_false, w_cmp, w_callk, pick, List.filterMap_cons, List.filterMap_nil, w_es1, w_es0, w_var, List.getElem?_cons_succ, List.getElem?_cons_zero]
  refine ec ?_
  simp only [w_c1, w_c0, w_non, cmp_isnt, decide_true, Bool.not_true, opt_some, w_or0, tru_bl, Bool.false_eq_true, if_false, w_ss0]
  exact ⟨trivial, hB, hE'⟩
end N.K93
set_option autoImplicit false
set_option linter.all false
set_option maxRecDepth 100000
set_option maxHeartbeats 4000000
namespace N.K93
open N N.Mix
/-- the last three of the turn -/
theorem t15 {b c : Nat} {e : Env} {S : Sto} {ss : List Int} {p : Int} (hB : Pot b c S) (h : Ok ss) (h0 : 0 ≤ p) (h1 : p < prod ss) (hE : FO b ss p e) : Run (execS (tst 15) e S) fun f e' S' => f = .nx ∧ Pot b c S' ∧ FO b ss p e' := by
  have hE' := hE
  obtain ⟨a2, a4, a7, a8, a11, a12, a15, a16, a17, a18, a19, a20, a21, rfl⟩ := hE
  simp only [tst, b_law, List.getD_cons_succ, List.getD_cons_zero]
  have bc : ∀ {S : Sto} {Q : D → Sto → Prop}, Q (rows (sta ss.reverse 0)) S → Ret (callI f_focus_begin [row ss.reverse] S) Q := fun k => begin_call h.rev k
  generalize f_focus_begin = g2 at bc ⊢
  simp only [w_ifs, w_and, w_cmp, w_int, w_var, List.getElem?_cons_succ, List.getElem?_cons_zero, opt_some, w_c1, w_c0, cmp_eq, eq_int, w_and1, tru_bl]
  by_cases hp : p = 0
  · have hp' : decide (p = 0) = true := by simpa using hp
    simp only [hp', if_true, w_cmp, w_call, w_es1, w_es0, w_var, List.getElem?_cons_succ, List.getElem?_cons_zero, opt_some]
    refine bc ?_
    subst hp
    simp only [w_c1, w_c0, w_var, List.getElem?_cons_succ, List.getElem?_cons_zero, opt_some, cmp_ne, eq_rows, opt_map, decide_true, Bool.not_true, w_and0, tru_bl, Bool.false_eq_true, if_false, w_ss0]
    exact ⟨trivial, hB, hE'⟩
  · have hp' : decide (p = 0) = false := by simpa using hp
    simp only [hp', Bool.false_eq_true, if_false, tru_bl, opt_some, w_ss0]
    exact ⟨trivial, hB, hE'⟩
theorem t16 {b c : Nat} {e : Env} {S : Sto} {ss : List Int} {p : Int} (hB : Pot b c S) (h : Ok ss) (hn : ss ≠ []) (h0 : 0 ≤ p) (h1 : p < prod ss) (hE : FO b ss p e) : Run (execS (tst 16) e S) fun f e' S' => f = .nx ∧ Pot b c S' ∧ FO b ss p e' := by
  have hE' := hE
  obtain ⟨a2, a4, a7, a8, a11, a12, a15, a16, a17, a18, a19, a20, a21, rfl⟩ := hE
  simp only [tst, b_law, List.getD_cons_succ, List.getD_cons_zero]
  have tc : ∀ {S : Sto} {Q : D → Sto → Prop}, Q (.bl true) S → Ret (callI f__law_is_turned_right [row ss, .int p, .int (prod ss)] S) Q := fun k => tright_call h hn h0 h1 k
  generalize f__law_is_turned_right = g2 at tc ⊢
  simp only [w_ifs, w_not, w_call, w_es1, w_es0, w_var, List.getElem?_cons_succ, List.getElem?_cons_zero, opt_some]
  refine tc ?_
  simp only [tru_bl, opt_some, Bool.not_true, Bool.false_eq_true, if_false, w_ss0]
  exact ⟨trivial, hB, hE'⟩
theorem t17 {b c : Nat} {e : Env} {S : Sto} {ss : List Int} {p : Int} (hB : Pot b c S) (h : Ok ss) (hE : FO b ss p e) : Run (execS (tst 17) e S) fun f e' S' => f = .nx ∧ Pot b c S' ∧ FO b ss p e' := by
  have hE' := hE
  have h40 := h.len
  obtain ⟨a2, a4, a7, a8, a11, a12, a15, a16, a17, a18, a19, a20, a21, rfl⟩ := hE
  simp only [tst, b_law, List.getD_cons_succ, List.getD_cons_zero]
  have rp := rep_row (S := S) h.small (by omega)
  simp only [w_ifs, w_cmp, w_blt, w_es1, w_es0, w_var, List.getElem?_cons_succ, List.getElem?_cons_zero, opt_some, bl_repr, rp, ret_some, w_c1, w_c0, cmp_ne, eq_rep, opt_map, Bool.not_true, tru_bl, Bool.false_eq_true, if_false, w_ss0]
  exact ⟨trivial, hB, hE'⟩
end N.K93
set_option autoImplicit false
set_option linter.all false
set_option maxRecDepth 100000
set_option maxHeartbeats 4000000
namespace N.K93
open N N.Mix
/-- at the last place: no step -/
theorem t14e {b c : Nat} {e : Env} {S : Sto} {ss : List Int} {p : Int} (hB : Pot b c S) (h : Ok ss) (hn : ss ≠ []) (h0 : 0 ≤ p) (h1 : p < prod ss) (hw : ¬ p + 1 < prod ss) (hE : FO b ss p e) : Run (execS (tst 14) e S) fun f e' S' => f = .nx ∧ Pot b c S' ∧ FO b ss p e' := by
  have hE' := hE
  obtain ⟨a2, a4, a7, a8, a11, a12, a15, a16, a17, a18, a19, a20, a21, rfl⟩ := hE
  simp only [tst, b_law, List.getD_cons_succ, List.getD_cons_zero]
  have hw' : decide (p + 1 < prod ss) = false := by simpa using hw
  have sc : ∀ {S : Sto} {Q : D → Sto → Prop}, Q .non S → Ret (callI f_reflected_step [row ss, row (refl ss p)] S) Q := fun k => step_call (j := 0) (w := 0) h hn h0 h1 (fun q => absurd q hw) (by rw [if_neg hw]; exact k)
  have tc : ∀ {S : Sto} {Q : D → Sto → Prop}, (∀ T n, Ext S T → T[n]? = some (.lst [.str [117, 110, 102, 105, 116], .bl true]) → Q (.ref n) T) → Ret (callI f__law_told [row ss.reverse, rows (sta ss.reverse p)] S) Q := fun k => told_call h.rev h0 (by rw [prod_rev]; exact h1) (fun q => absurd (by rw [prod_rev] at q; exact q) hw) (fun _ => k)
  generalize f_reflected_step = g1 at sc ⊢
  generalize f__law_told = g2 at tc ⊢
  simp only [w_ifs, w_cmp, w_bin, w_int, w_var, List.getElem?_cons_succ, List.getElem?_cons_zero, opt_some, b_add, ret_some, w_c1, w_c0, cmp_lt, hw', tru_bl, Bool.false_eq_true, if_false, w_ss1, w_or, w_call, w_es1, w_es0]
  refine tc fun T n x hT => ?_
  have eq := eq_lst (S := T ++ [O.lst [.str [117, 110, 102, 105, 116], .bl true]]) (n := n) (m := T.length) (xs := [.str [117, 110, 102, 105, 116], .bl true]) (ys := [.str [117, 110, 102, 105, 116], .bl true]) ((Ext.app _ _).at hT) (last_at _ _) rfl rfl (by decide) (by decide) (by decide) (by decide)
  have ep : D.pyeqs [.str [117, 110, 102, 105, 116], .bl true] [.str [117, 110, 102, 105, 116], .bl true] = true := by decide
  simp only [w_lst, w_es1, w_es0, w_str, w_bl, w_c1, w_c0, cmp_ne, eq, ep, opt_map, opt_some, Bool.not_true, w_or1, tru_bl, Bool.false_eq_true, if_false, w_cmp, w_call, w_var, List.getElem?_cons_succ, List.getElem?_cons_zero]
  refine sc ?_
  simp only [w_c1, w_c0, w_non, cmp_isnt, decide_true, Bool.not_true, opt_some, w_or0, tru_bl, Bool.false_eq_true, if_false, w_ss0, then_nx]
  exact ⟨trivial, (hB.ext x).ext (Ext.app _ _), hE'⟩
end N.K93
set_option autoImplicit false
set_option linter.all false
set_option maxRecDepth 100000
set_option maxHeartbeats 4000000
namespace N.K93
open N N.Mix
/-- a statement of the turn's step -/
def thn (i : Nat) : St := match tst 14 with
  | .ife _ a _ => a.getD i .never
  | _ => .never
/-- and the row after -/
def AF (b : Nat) (ss : List Int) (p : Int) (e : Env) : Prop := ∃ a2 a4 a7 a8 a11 a12 a16 a17 a18 a19 a20 a21, e = [some (.ref 0), some (.ref b), a2, some (row ss), a4, some (.int p), some (row (refl ss p)), a7, a8, some (row ss.reverse), some (rows (sta ss.reverse p)), a11, a12, some (.rep (row ss)), some (.int (prod ss)), some (row (refl ss (p + 1))), a16, a17, a18, a19, a20, a21]
theorem rep_two {S : Sto} {k : Nat} {q : Nat} {w : Int} (hq : q < 1000) (hw : w = 1 ∨ w = -1) (h : S[k]? = some (.lst [row [(q : Int), w], row [(q : Int), w]])) : repB S [.ref k] = some (.rep (.lst [row [(q : Int), w], row [(q : Int), w]]), S) := by
  have sm2 : ∀ x ∈ [(q : Int), w], small x := fun x hx => by
    simp only [List.mem_cons, List.not_mem_nil, or_false] at hx
    rcases hx with rfl | rfl
    · exact small10 (by omega)
    · rcases hw with rfl | rfl <;> exact small10 (by decide)
  have dr := deep_row [(q : Int), w]
  have br := bulk_row [(q : Int), w]
  have bl : [(q : Int), w].length = 2 := rfl
  rw [bl] at br
  refine rep_lst h rfl ?_ ?_ ?_ ?_
  · show max (D.deep (row [(q : Int), w])) (max (D.deep (row [(q : Int), w])) 0) ≤ 59
    omega
  · show (D.okS (row _) && (D.okS (row _) && true)) = true
    rw [okS_row]; rfl
  · show (D.shw (row _) && (D.shw (row _) && true)) = true
    rw [shw_row sm2]; rfl
  · show D.bulk (row [(q : Int), w]) + 1 + (D.bulk (row [(q : Int), w]) + 1 + 0) ≤ 50000
    omega
theorem t14a {b c : Nat} {e : Env} {S : Sto} {ss : List Int} {p : Int} (hB : Pot b c S) (h : Ok ss) (hn : ss ≠ []) (h0 : 0 ≤ p) (hw : p + 1 < prod ss) (hE : FO b ss p e) : Run (execSs [thn 0, thn 1, thn 2, thn 3, thn 4] e S) fun f e' S' => f = .nx ∧ Pot b c S' ∧ AF b ss p e' := by
  obtain ⟨a2, a4, a7, a8, a11, a12, a15, a16, a17, a18, a19, a20, a21, rfl⟩ := hE
  have h40 := h.len
  have nx := nx_of h.sz h0 hw
  generalize run (wt ss.reverse p) = j at nx
  generalize (wy ss.reverse p).getD j 0 = w at nx
  have jl := nx.lt
  simp only [thn, tst, b_law, List.getD_cons_succ, List.getD_cons_zero]
  have lr : ∀ {S : Sto} {Q : D → Sto → Prop}, Q (row (refl ss (p + 1))) S → Ret (callI f__law_reflected [row ss, .int (p + 1)] S) Q := fun k => lrefl_call h k
  have un : ∀ {S : Sto} {Q : D → Sto → Prop}, (∀ T k, Ext S T → T[k]? = some (.lst [.int (ss.length - 1 - j : Nat)]) → Q (.ref k) T) → Ret (callI f__law_unlike [row (refl ss p), row (refl ss (p + 1))] S) Q := fun k => unlike_call (by rw [refl_len, refl_len]) (by rw [refl_len]; omega) (by rw [nx.un]; exact k)
  have sc : ∀ {S : Sto} {Q : D → Sto → Prop}, Q (row [(ss.length - 1 - j : Nat), w]) S → Ret (callI f_reflected_step [row ss, row (refl ss p)] S) Q := fun k => step_call h hn h0 (by omega) (fun _ => nx) (by rw [if_pos hw]; exact k)
  generalize f__law_reflected = g1 at lr ⊢
  generalize f__law_unlike = g2 at un ⊢
  generalize f_reflected_step = g3 at sc ⊢
  have iA : ∀ S : Sto, idxI S (row (refl ss (p + 1))) (.int (ss.length - 1 - j : Nat)) = some (.int ((refl ss p).getD (ss.length - 1 - j) 0 + w)) := fun S => by rw [idx_row S (by rw [refl_len]; omega), nx.new, nx.old]
  have iR : ∀ S : Sto, idxI S (row (refl ss p)) (.int (ss.length - 1 - j : Nat)) = some (.int ((refl ss p).getD (ss.length - 1 - j) 0)) := fun S => idx_row S (by rw [refl_len]; omega)
  have ql : ss.length - 1 - j < 1000 := by omega
  generalize hq : ss.length - 1 - j = q at *
  generalize (refl ss p).getD q 0 = v at *
  refine step (P := fun e S => Pot b c S ∧ e = [some (.ref 0), some (.ref b), a2, some (row ss), a4, some (.int p), some (row (refl ss p)), a7, a8, some (row ss.reverse), some (rows (sta ss.reverse p)), a11, a12, some (.rep (row ss)), some (.int (prod ss)), some (row (refl ss (p + 1))), a16, a17, a18, a19, a20, a21]) ?_ ?_
  · simp only [w_asg, w_call, w_es1, w_es0, w_bin, w_int, w_var, List.getElem?_cons_succ, List.getElem?_cons_zero, opt_some, b_add, ret_some]
    refine lr ?_
    simp only [w_tgN, List.set_cons_succ, List.set_cons_zero]
    exact ⟨trivial, hB, trivial⟩
  rintro e S ⟨hB, rfl⟩
  refine step (P := fun e S => Pot b c S ∧ ∃ n, S[n]? = some (.lst [.int (q : Nat)]) ∧ e = [some (.ref 0), some (.ref b), a2, some (row ss), a4, some (.int p), some (row (refl ss p)), a7, a8, some (row ss.reverse), some (rows (sta ss.reverse p)), a11, a12, some (.rep (row ss)), some (.int (prod ss)), some (row (refl ss (p + 1))), some (.ref n), a17, a18, a19, a20, a21]) ?_ ?_
  · simp only [w_asg, w_call, w_es1, w_es0, w_var, List.getElem?_cons_succ, List.getElem?_cons_zero, opt_some]
    refine un fun T k x hT => ?_
    simp only [w_tgN, List.set_cons_succ, List.set_cons_zero]
    exact ⟨trivial, hB.ext x, k, hT, rfl⟩
  rintro e S ⟨hB, n, hn1, rfl⟩
  have i0 : idxI S (.ref n) (.int 0) = some (.int (q : Nat)) := idx_lst S (i := 0) hn1 rfl
  have ln := len_lst hn1
  refine step (P := fun e T => T = S ∧ e = [some (.ref 0), some (.ref b), a2, some (row ss), a4, some (.int p), some (row (refl ss p)), a7, a8, some (row ss.reverse), some (rows (sta ss.reverse p)), a11, a12, some (.rep (row ss)), some (.int (prod ss)), some (row (refl ss (p + 1))), some (.ref n), some (.tup [.int (q : Nat), .int w]), a18, a19, a20, a21]) ?_ ?_
  · simp only [w_asg, w_tup, w_idx, w_bin, w_int, w_es1, w_es0, w_var, List.getElem?_cons_succ, List.getElem?_cons_zero, opt_some, i0, iA, iR, b_sub, ret_some, w_tgN, List.set_cons_succ, List.set_cons_zero]
    rw [show v + w - v = w by omega]
    exact ⟨trivial, trivial, rfl⟩
  rintro e T ⟨rfl, rfl⟩
  refine step (P := fun e S => S = T ∧ e = [some (.ref 0), some (.ref b), a2, some (row ss), a4, some (.int p), some (row (refl ss p)), a7, a8, some (row ss.reverse), some (rows (sta ss.reverse p)), a11, a12, some (.rep (row ss)), some (.int (prod ss)), some (row (refl ss (p + 1))), some (.ref n), some (.tup [.int (q : Nat), .int w]), a18, a19, a20, a21]) ?_ ?_
  · simp only [w_ifs, w_cmp, w_blt, w_es1, w_es0, w_var, List.getElem?_cons_succ, List.getElem?_cons_zero, opt_some, bl_len, ln, ret_some, w_c1, w_c0, w_int, cmp_ne, eq_int, opt_map, List.length_cons, List.length_nil, tru_bl]
    have z1 : (!decide (((0 + 1 : Nat) : Int) = 1)) = false := by decide
    simp only [z1, Bool.false_eq_true, if_false, w_ss0]
    exact ⟨trivial, trivial, trivial⟩
  rintro e S ⟨rfl, rfl⟩
  simp only [w_ss1, w_ss0, w_ifs, w_cmp, w_blt, w_es1, w_es0, w_lst, w_call, w_callk, pick, List.filterMap_cons, List.filterMap_nil, w_var, List.getElem?_cons_succ, List.getElem?_cons_zero, opt_some]
  refine sc ?_
  refine sc ?_
  have r1 := rep_two (S := S ++ [O.lst [row [(q : Int), w], row [(q : Int), w]]]) ql nx.way (last_at _ _)
  simp only [bl_repr, r1, ret_some, w_c3, if_true, w_blt, w_es1, w_es0, w_lst, w_var, List.getElem?_cons_succ, List.getElem?_cons_zero, opt_some]
  have hU : Pot b c (S ++ [O.lst [row [(q : Int), w], row [(q : Int), w]]]) := hB.ext (Ext.app _ _)
  generalize S ++ [O.lst [row [(q : Int), w], row [(q : Int), w]]] = U at hU ⊢
  have r2 := rep_two (S := U ++ [O.lst [row [(q : Int), w], row [(q : Int), w]]]) ql nx.way (last_at _ _)
  have er : (D.tup [.int (q : Nat), .int w]) = row [(q : Int), w] := rfl
  simp only [er, bl_repr, r2, ret_some, cmp_ne, eq_rep, opt_map, opt_some, Bool.not_true, w_c0, tru_bl, Bool.false_eq_true, if_false, w_ss0, then_nx]
  exact ⟨trivial, hU.ext (Ext.app _ _), _, _, _, _, _, _, _, _, _, _, _, _, rfl⟩
end N.K93
set_option autoImplicit false
set_option linter.all false
set_option maxRecDepth 100000
set_option maxHeartbeats 4000000
namespace N.K93
open N N.Mix
/-- and the state later -/
def LA (b : Nat) (ss : List Int) (p : Int) (e : Env) : Prop := ∃ a2 a4 a7 a8 a11 a12 a16 a17 a19 a20 a21, e = [some (.ref 0), some (.ref b), a2, some (row ss), a4, some (.int p), some (row (refl ss p)), a7, a8, some (row ss.reverse), some (rows (sta ss.reverse p)), a11, a12, some (.rep (row ss)), some (.int (prod ss)), some (row (refl ss (p + 1))), a16, a17, some (rows (sta ss.reverse (p + 1))), a19, a20, a21]
theorem LA.fo {b : Nat} {ss : List Int} {p : Int} {e : Env} (h : LA b ss p e) : FO b ss p e := by
  obtain ⟨a2, a4, a7, a8, a11, a12, a16, a17, a19, a20, a21, rfl⟩ := h
  exact ⟨_, _, _, _, _, _, _, _, _, _, _, _, _, rfl⟩
theorem t14b {b c : Nat} {e : Env} {S : Sto} {ss : List Int} {p : Int} (hB : Pot b c S) (h : Ok ss) (h0 : 0 ≤ p) (hw : p + 1 < prod ss) (hE : AF b ss p e) : Run (execSs [thn 5, thn 6] e S) fun f e' S' => f = .nx ∧ Pot b c S' ∧ LA b ss p e' := by
  obtain ⟨a2, a4, a7, a8, a11, a12, a16, a17, a18, a19, a20, a21, rfl⟩ := hE
  simp only [thn, tst, b_law, List.getD_cons_succ, List.getD_cons_zero]
  have pr : prod ss.reverse = prod ss := prod_rev _
  have tc : ∀ {S : Sto} {Q : D → Sto → Prop}, Q (rows (sta ss.reverse (p + 1))) S → Ret (callI f__law_told [row ss.reverse, rows (sta ss.reverse p)] S) Q := fun k => told_call h.rev h0 (by rw [pr]; omega) (fun _ => k) (fun q => absurd (by rw [pr]; exact hw) q)
  have oc : ∀ {S : Sto} {Q : D → Sto → Prop}, Q (rows (sta ss.reverse (p + 1))) S → Ret (callI f_focus_at [row ss.reverse, .int (p + 1)] S) Q := fun k => focus_call h.rev k
  generalize f__law_told = g1 at tc ⊢
  generalize f_focus_at = g2 at oc ⊢
  have i0 : idxI S (rows (sta ss.reverse (p + 1))) (.int 0) = some (row (gf ss.reverse (p + 1))) := idx_tup S (i := 0) rfl
  have sl : slcI S (row (refl ss (p + 1))) .non .non (.int (-1)) = some (row (gf ss.reverse (p + 1)), S) := by
    have := sl_rev (S := S) ((refl ss (p + 1)).map .int)
    rw [← List.map_reverse, refl_gf h.sz (by omega) hw, List.reverse_reverse] at this
    rw [refl_gf h.sz (by omega) hw]
    exact this
  refine step (P := fun e T => T = S ∧ e = [some (.ref 0), some (.ref b), a2, some (row ss), a4, some (.int p), some (row (refl ss p)), a7, a8, some (row ss.reverse), some (rows (sta ss.reverse p)), a11, a12, some (.rep (row ss)), some (.int (prod ss)), some (row (refl ss (p + 1))), a16, a17, some (rows (sta ss.reverse (p + 1))), a19, a20, a21]) ?_ ?_
  · simp only [w_asg, w_call, w_es1, w_es0, w_var, List.getElem?_cons_succ, List.getElem?_cons_zero, opt_some]
    refine tc ?_
    simp only [w_tgN, List.set_cons_succ, List.set_cons_zero]
    exact ⟨trivial, trivial, trivial⟩
  rintro e T ⟨rfl, rfl⟩
  simp only [w_ss1, w_ss0, w_ifs, w_or, w_cmp, w_var, List.getElem?_cons_succ, List.getElem?_cons_zero, opt_some, w_c1, w_c0, w_call, w_es1, w_es0, w_bin, w_int, b_add, ret_some]
  refine oc ?_
  simp only [cmp_ne, eq_rows, eq_row, opt_map, opt_some, decide_true, Bool.not_true, w_or1, w_or0, tru_bl, Bool.false_eq_true, if_false, w_cmp, w_idx, w_var, List.getElem?_cons_succ, List.getElem?_cons_zero, w_int, i0, w_c1, w_c0, w_slc, w_abs, w_neg, sl, ret_some, w_ss0, then_nx]
  exact ⟨trivial, hB, _, _, _, _, _, _, _, _, _, _, _, rfl⟩
end N.K93
set_option autoImplicit false
set_option linter.all false
set_option maxRecDepth 100000
set_option maxHeartbeats 4000000
namespace N.K93
open N N.Mix
theorem eq_word (S : Sto) (i : Int) : eqV S (.tup [.str word, .int i]) (.tup [.str word, .int i]) = some true := by
  show (match rd RD S (.tup [.str word, .int i]), rd RD S (.tup [.str word, .int i]) with
    | some a, some b => if D.okS a && D.okS b then some (D.pyeq a b) else none
    | _, _ => none) = _
  rw [flat_rd S (.tup [.str word, .int i]) RD rfl (show (D.tup [.str word, .int i]).deep ≤ RD from (by decide : (1 : Nat) ≤ 60))]
  have o : D.okS (.tup [.str word, .int i]) = true := rfl
  simp only [o, Bool.and_self, if_true]
  simp [D.pyeq, D.pyeqs]
theorem t14c {b c : Nat} {e : Env} {S : Sto} {ss : List Int} {p : Int} (hB : Pot b c S) (h : Ok ss) (h0 : 0 ≤ p) (hw : p + 1 < prod ss) (hE : LA b ss p e) : Run (execS (thn 7) e S) fun f e' S' => f = .nx ∧ Pot b c S' ∧ LA b ss p e' := by
  have hE' := hE
  obtain ⟨a2, a4, a7, a8, a11, a12, a16, a17, a19, a20, a21, rfl⟩ := hE
  simp only [thn, tst, b_law, List.getD_cons_succ, List.getD_cons_zero]
  have pr : prod ss.reverse = prod ss := prod_rev _
  have ec : ∀ {S : Sto} {Q : D → Sto → Prop}, Q (faultD ss.reverse p (ptrs (wt ss.reverse (p + 1))) (wy ss.reverse p)) S → Ret (callI f_focus_error [row ss.reverse, .tup [row (gf ss.reverse p), row (ptrs (wt ss.reverse (p + 1))), row (wy ss.reverse p)]] S) Q := fun k => error_call h.rev h0 (by rw [pr]; omega) (by rw [ptrs_len, wt_len]) (ptrs_wt_inn _ _) (wy_len _ _) (wy_inn _ _).1 (wy_inn _ _).2 k
  generalize f_focus_error = g2 at ec ⊢
  have i0 : ∀ S : Sto, idxI S (rows (sta ss.reverse p)) (.int 0) = some (row (gf ss.reverse p)) := fun S => idx_tup S (i := 0) rfl
  have i1 : ∀ S : Sto, idxI S (rows (sta ss.reverse p)) (.int 1) = some (row (ptrs (wt ss.reverse p))) := fun S => idx_tup S (i := 1) rfl
  have i2 : ∀ S : Sto, idxI S (rows (sta ss.reverse p)) (.int 2) = some (row (wy ss.reverse p)) := fun S => idx_tup S (i := 2) rfl
  have l1 : ∀ S : Sto, idxI S (rows (sta ss.reverse (p + 1))) (.int 1) = some (row (ptrs (wt ss.reverse (p + 1)))) := fun S => idx_tup S (i := 1) rfl
  simp only [w_ifs, w_cmp, w_call, w_es1, w_es0, w_tup, w_idx, w_var, List.getElem?_cons_succ, List.getElem?_cons_zero, opt_some, w_int, i0, i1, i2, l1]
  refine ec ?_
  simp only [w_c1, w_c0, w_ife, w_cmp, w_idx, w_var, List.getElem?_cons_succ, List.getElem?_cons_zero, opt_some, w_int, i1, l1, cmp_ne, eq_row, opt_map, tru_bl, w_tup, w_es1, w_es0, w_str, w_non]
  unfold faultD
  by_cases hp : ptrs (wt ss.reverse (p + 1)) = ptrs (wt ss.reverse p)
  · simp only [hp, if_true, decide_true, Bool.not_true, Bool.false_eq_true, if_false, w_ss0]
    have nn : eqV S .non .non = some true := rfl
    simp only [nn, opt_some, Bool.not_true, Bool.false_eq_true, if_false]
    exact ⟨trivial, hB, hE'⟩
  · simp only [hp, if_false, decide_false, Bool.not_false, if_true, w_tup, w_es1, w_es0, w_str, w_int, w_c0]
    have ew := eq_word S 1
    unfold word at ew ⊢
    simp only [ew, opt_some, opt_map, Bool.not_true, tru_bl, Bool.false_eq_true, if_false, w_ss0]
    exact ⟨trivial, hB, hE'⟩
end N.K93
set_option autoImplicit false
set_option linter.all false
set_option maxRecDepth 100000
set_option maxHeartbeats 4000000
namespace N.K93
open N N.Mix
theorem t14f {b c : Nat} {e : Env} {S : Sto} {ss : List Int} {p : Int} (hB : Pot b c S) (h : Ok ss) (h0 : 0 ≤ p) (hw : p + 1 < prod ss) (hE : LA b ss p e) : Run (execS (thn 10) e S) fun f e' S' => f = .nx ∧ Pot b c S' ∧ LA b ss p e' := by
  have hE' := hE
  obtain ⟨a2, a4, a7, a8, a11, a12, a16, a17, a19, a20, a21, rfl⟩ := hE
  simp only [thn, tst, b_law, List.getD_cons_succ, List.getD_cons_zero]
  have fc : ∀ {S : Sto} {Q : D → Sto → Prop} {n : Nat} {xs : List D}, S[n]? = some (.lst xs) → Q (.str [102, 111, 114, 109]) S → Ret (callI f_focus_error [row ss.reverse, .ref n] S) Q := fun a k => form_call a k
  generalize f_focus_error = g2 at fc ⊢
  have lt : lstB S [rows (sta ss.reverse p)] = some (.ref S.length, S ++ [.lst ((sta ss.reverse p).map row)]) := rfl
  simp only [w_ifs, w_cmp, w_call, w_es1, w_es0, w_blt, bl_list, w_var, List.getElem?_cons_succ, List.getElem?_cons_zero, opt_some, lt, ret_some]
  refine fc (last_at _ _) ?_
  simp only [w_c1, w_c0, w_str, cmp_ne, eq_str, opt_map, decide_true, Bool.not_true, opt_some, tru_bl, Bool.false_eq_true, if_false, w_ss0]
  exact ⟨trivial, hB.ext (Ext.app _ _), hE'⟩
end N.K93
set_option autoImplicit false
set_option linter.all false
set_option maxRecDepth 100000
set_option maxHeartbeats 4000000
namespace N.K93
open N N.Mix
theorem t14d {b c : Nat} {e : Env} {S : Sto} {ss : List Int} {p : Int} (hB : Pot b c S) (h : Ok ss) (hn : ss ≠ []) (h0 : 0 ≤ p) (hw : p + 1 < prod ss) (hE : LA b ss p e) : Run (execSs [thn 8, thn 9] e S) fun f e' S' => f = .nx ∧ Pot b c S' ∧ LA b ss p e' := by
  obtain ⟨a2, a4, a7, a8, a11, a12, a16, a17, a19, a20, a21, rfl⟩ := hE
  have h40 := h.len
  simp only [thn, tst, b_law, List.getD_cons_succ, List.getD_cons_zero]
  have pr : prod ss.reverse = prod ss := prod_rev _
  have ng : ∀ x ∈ (wy ss.reverse p).map (fun x => -x), x = 1 ∨ x = -1 := fun x hx => by
    obtain ⟨y, hy, rfl⟩ := List.mem_map.mp hx
    rcases wy_val _ _ _ hy with rfl | rfl <;> simp
  have ne : (wy ss.reverse p).map (fun x => -x) ≠ wy ss.reverse p := by
    have wl : (wy ss.reverse p).length = ss.length := by rw [wy_len]; simp
    have v := wy_val ss.reverse p
    generalize wy ss.reverse p = W at *
    cases W with
    | nil => exact absurd (List.length_eq_zero_iff.mp (by simpa using wl.symm)) hn
    | cons x t =>
      intro q
      have q1 : -x = x := by simpa using (List.cons.inj q).1
      rcases v x (by simp) with rfl | rfl <;> omega
  have wi : inn (-1) 1 ((wy ss.reverse p).map fun x => -x) = true := List.all_eq_true.mpr fun x hx => decide_eq_true (by rcases ng x hx with rfl | rfl <;> decide)
  have w0 : (0 : Int) ∉ (wy ss.reverse p).map fun x => -x := fun hx => by rcases ng 0 hx with q | q <;> simp at q
  have ec : ∀ {S : Sto} {Q : D → Sto → Prop}, Q (.tup [.str word, .int 2]) S → Ret (callI f_focus_error [row ss.reverse, .tup [row (gf ss.reverse p), row (ptrs (wt ss.reverse p)), row ((wy ss.reverse p).map fun x => -x)]] S) Q := fun k => error_call h.rev h0 (by rw [pr]; omega) (by rw [ptrs_len, wt_len]) (ptrs_wt_inn _ _) (by rw [List.length_map, wy_len]) wi w0 (by unfold faultD; rw [if_pos rfl, if_neg ne]; exact k)
  generalize f_focus_error = g2 at ec ⊢
  have i0 : ∀ S : Sto, idxI S (rows (sta ss.reverse p)) (.int 0) = some (row (gf ss.reverse p)) := fun S => idx_tup S (i := 0) rfl
  have i1 : ∀ S : Sto, idxI S (rows (sta ss.reverse p)) (.int 1) = some (row (ptrs (wt ss.reverse p))) := fun S => idx_tup S (i := 1) rfl
  have i2 : ∀ S : Sto, idxI S (rows (sta ss.reverse p)) (.int 2) = some (.tup ((wy ss.reverse p).map .int)) := fun S => idx_tup S (i := 2) rfl
  refine step (P := fun e T => Pot b c T ∧ e = [some (.ref 0), some (.ref b), a2, some (row ss), a4, some (.int p), some (row (refl ss p)), a7, a8, some (row ss.reverse), some (rows (sta ss.reverse p)), a11, a12, some (.rep (row ss)), some (.int (prod ss)), some (row (refl ss (p + 1))), a16, a17, some (rows (sta ss.reverse (p + 1))), some (row ((wy ss.reverse p).map fun x => -x)), a20, a21]) ?_ ?_
  · simp only [w_asg, w_blt, w_es1, w_es0, w_comp, w_wk, w_idx, w_var, List.getElem?_cons_succ, List.getElem?_cons_zero, opt_some, w_int, i2, walk_tup, List.length_map]
    refine ⟨by rw [wy_len]; simp; have : (line : Nat) = 16777216 := rfl; omega, ?_⟩
    rw [comp_all (fun x : Int => .int x) (fun x => .int (-x)) rfl (wy ss.reverse p) (fun y _ => by simp [bindT, N.wipe])]
    have tl := tup_lst (S := S ++ [O.lst ((wy ss.reverse p).map fun x => D.int (-x))]) (n := S.length) (last_at _ _)
    simp only [ret_some, bl_tuple, tl, w_tgN, List.set_cons_succ, List.set_cons_zero]
    exact ⟨trivial, hB.ext (Ext.app _ _), by simp [row, List.map_map, Function.comp_def]⟩
  rintro e T ⟨hB, rfl⟩
  have ew := eq_word T 2
  unfold word at ew ec
  simp only [w_ss1, w_ss0, w_ifs, w_cmp, w_call, w_es1, w_es0, w_tup, w_idx, w_var, List.getElem?_cons_succ, List.getElem?_cons_zero, opt_some, w_int, i0, i1]
  refine ec ?_
  simp only [w_c1, w_c0, w_tup, w_es1, w_es0, w_str, w_int, cmp_ne, ew, opt_map, opt_some, Bool.not_true, tru_bl, Bool.false_eq_true, if_false, w_ss0, then_nx]
  exact ⟨trivial, hB, _, _, _, _, _, _, _, _, _, _, _, rfl⟩
end N.K93
set_option autoImplicit false
set_option linter.all false
set_option maxRecDepth 100000
set_option maxHeartbeats 4000000
namespace N.K93
open N N.Mix
theorem t14 {b c : Nat} {e : Env} {S : Sto} {ss : List Int} {p : Int} (hB : Pot b c S) (h : Ok ss) (hn : ss ≠ []) (h0 : 0 ≤ p) (h1 : p < prod ss) (hE : FO b ss p e) : Run (execS (tst 14) e S) fun f e' S' => f = .nx ∧ Pot b c S' ∧ FO b ss p e' := by
  by_cases hw : p + 1 < prod ss
  case neg => exact t14e hB h hn h0 h1 hw hE
  have all : Run (execSs ([thn 0, thn 1, thn 2, thn 3, thn 4] ++ ([thn 5, thn 6] ++ (thn 7 :: ([thn 8, thn 9] ++ [thn 10])))) e S) fun f e' S' => f = .nx ∧ Pot b c S' ∧ FO b ss p e' := by
    refine run_app (P := fun e S => Pot b c S ∧ AF b ss p e) _ _ _ (t14a hB h hn h0 hw hE) ?_
    rintro e S ⟨hB, hE⟩
    refine run_app (P := fun e S => Pot b c S ∧ LA b ss p e) _ _ _ (t14b hB h h0 hw hE) ?_
    rintro e S ⟨hB, hE⟩
    refine step (P := fun e S => Pot b c S ∧ LA b ss p e) (t14c hB h h0 hw hE) ?_
    rintro e S ⟨hB, hE⟩
    refine run_app (P := fun e S => Pot b c S ∧ LA b ss p e) _ _ _ (t14d hB h hn h0 hw hE) ?_
    rintro e S ⟨hB, hE⟩
    refine step (P := fun e S => Pot b c S ∧ LA b ss p e) (t14f hB h h0 hw hE) ?_
    rintro e S ⟨hB, hE⟩
    rw [w_ss0]
    exact ⟨rfl, hB, hE.fo⟩
  have hw' : decide (p + 1 < prod ss) = true := by simpa using hw
  obtain ⟨a2, a4, a7, a8, a11, a12, a15, a16, a17, a18, a19, a20, a21, rfl⟩ := hE
  simp only [thn, tst, b_law, List.getD_cons_succ, List.getD_cons_zero, List.cons_append, List.nil_append] at all
  simp only [tst, b_law, List.getD_cons_succ, List.getD_cons_zero]
  rw [w_ifs]
  simp only [w_cmp, w_bin, w_int, w_var, List.getElem?_cons_succ, List.getElem?_cons_zero, opt_some, b_add, ret_some, w_c1, w_c0, cmp_lt, hw', tru_bl, if_true]
  exact all
end N.K93
set_option autoImplicit false
set_option linter.all false
set_option maxRecDepth 100000
set_option maxHeartbeats 4000000
namespace N.K93
open N N.Mix
theorem FO.en {b : Nat} {ss : List Int} {p : Int} {e : Env} (h : FO b ss p e) : En b e := by
  obtain ⟨a2, a4, a7, a8, a11, a12, a15, a16, a17, a18, a19, a20, a21, rfl⟩ := h
  exact ⟨_, _, _, _, _, _, _, _, _, _, _, _, _, _, _, _, _, _, _, _, rfl⟩
theorem turn {b c : Nat} {e : Env} {S : Sto} (hB : Pot b c S) (hE : En b e) : Run (execSs [tst 0, tst 1, tst 2, tst 3, tst 4, tst 5, tst 6, tst 7, tst 8, tst 9, tst 10, tst 11, tst 12, tst 13, tst 14, tst 15, tst 16, tst 17] e S) fun f e' S' => f = .nx ∧ Pot b c S' ∧ En b e' := by
  refine step _ (t0 hB hE) ?_
  rintro e S ⟨hB, m, t, m1, m2, s1, s2, hE⟩
  refine step _ (t1 hB m1 m2 s1 s2 hE) ?_
  rintro e S ⟨hB, ss, h, hn, hE⟩
  refine step _ (t2 h hE) ?_
  rintro e S' ⟨rfl, hE⟩
  refine step _ (t3 h hE) ?_
  rintro e S ⟨rfl, hE⟩
  refine step _ (t4 hB h hE) ?_
  rintro e S ⟨hB, p, h0, h1, hE⟩
  refine step _ (t5 h hE) ?_
  rintro e S' ⟨rfl, hE⟩
  refine run_app (ts := [tst 9, tst 10, tst 11, tst 12, tst 13, tst 14, tst 15, tst 16, tst 17]) [tst 6, tst 7, tst 8] _ _ (t678 hB h hn h0 h1 hE) ?_
  rintro e S ⟨hB, hE⟩
  refine run_app (ts := [tst 12, tst 13, tst 14, tst 15, tst 16, tst 17]) [tst 9, tst 10, tst 11] _ _ (t9 hB h h0 h1 hE) ?_
  rintro e S ⟨hB, hE⟩
  refine step _ (t12 hB h h0 h1 hE) ?_
  rintro e S ⟨hB, hE⟩
  refine step _ (t13 hB h h0 h1 hE) ?_
  rintro e S ⟨hB, hE⟩
  refine step _ (t14 hB h hn h0 h1 hE) ?_
  rintro e S ⟨hB, hE⟩
  refine step _ (t15 hB h h0 h1 hE) ?_
  rintro e S ⟨hB, hE⟩
  refine step _ (t16 hB h hn h0 h1 hE) ?_
  rintro e S ⟨hB, hE⟩
  refine step _ (t17 hB h hE) ?_
  rintro e S ⟨hB, hE⟩
  rw [w_ss0]
  exact ⟨rfl, hB, hE.en⟩
end N.K93
set_option autoImplicit false
set_option linter.all false
set_option maxRecDepth 100000
set_option maxHeartbeats 4000000
namespace N.K93
open N N.Mix
theorem law_ret (ns : List Int) (hn : ns.length ≤ 63) : Ret (f_law [.ref 0] [.scr ns]) fun d T => d = .bl true := by
  rw [w_runF]
  refine ⟨rfl, ?_⟩
  have tn : ∀ {b c : Nat} {e : Env} {S : Sto}, Pot b c S → En b e → _ := @turn
  simp only [tst, b_law, List.getD_cons_succ, List.getD_cons_zero] at tn
  have pc : ∀ {S : Sto} {Q : D → Sto → Prop}, S = [.scr ns] → (∀ b c T, Pot b c T → Q (.ref b) T) → Ret (callI f__law_pot [.ref 0] S) Q := fun h k => pot_call h hn k
  simp only [b_law, List.map_cons, List.map_nil, List.replicate, List.cons_append, List.nil_append]
  generalize f__law_pot = g1 at pc ⊢
  refine step (P := fun e S => ∃ b c, Pot b c S ∧ En b e) ?_ ?_
  · simp only [w_asg, w_call, w_es1, w_es0, w_var, List.getElem?_cons_succ, List.getElem?_cons_zero, opt_some]
    refine pc rfl fun b c T hT => ?_
    simp only [w_tgN, List.set_cons_succ, List.set_cons_zero]
    exact ⟨trivial, b, c, hT, _, _, _, _, _, _, _, _, _, _, _, _, _, _, _, _, _, _, _, _, rfl⟩
  rintro e S ⟨b, c, hB, hE⟩
  refine step (P := fun e S => True) ?_ ?_
  · rw [w_forS]
    simp only [w_rng, w_es1, w_es0, w_int, rng_ok (n := 2) (by decide), show rngI [.int 2] = some ((List.range 2).map fun k : Nat => .int k) from rng_ok (n := 2) (by decide), opt_some]
    refine for_range 2 (fun k : Nat => .int k) (fun i e S => Pot b c S ∧ En b e) (fun i e S hi hh => ?_) (fun e S hh => ⟨rfl, rfl, trivial⟩) ⟨hB, hE⟩
    obtain ⟨hB, a2, a3, a4, a5, a6, a7, a8, a9, a10, a11, a12, a13, a14, a15, a16, a17, a18, a19, a20, a21, rfl⟩ := hh
    refine ⟨rfl, ?_⟩
    simp only [bindT, w_tgN, List.set_cons_succ, List.set_cons_zero]
    exact tn hB ⟨_, _, _, _, _, _, _, _, _, _, _, _, _, _, _, _, _, _, _, _, rfl⟩
  rintro e S -
  simp only [w_ss1, w_ret, w_bl]
  exact rfl
theorem says (ns : List Int) (hn : ns.length ≤ 63) : ∃ S', f_law [.ref 0] [.scr ns] = some (.bl true, S') := by
  obtain ⟨d, T, e, rfl⟩ := (law_ret ns hn).get
  exact ⟨T, e⟩
end N.K93
set_option autoImplicit false
set_option Elab.async false
set_option linter.all false
set_option maxRecDepth 100000
set_option maxHeartbeats 0
namespace N
namespace K93
open PySem PySem.Spec PyProof.Rows L2
/-! the chain of defs, the head -/
def top (i : Nat) : Stmt := PySem.Challenge.pw_nearlists_k93_whole_focus_and_reflected.main.body.getD i (.Pass ⟨0, 0, 0, 0⟩)
def d_focus_begin : He.DefD := ⟨("focus_begin", none), "focus_begin", "focus_begin", C8.fnArgs (top 6), C8.fnBody (top 6), C8.fnScope (top 6), [], []⟩
def d_pointers_by : He.DefD := ⟨("pointers_by", none), "pointers_by", "pointers_by", C8.fnArgs (top 8), C8.fnBody (top 8), C8.fnScope (top 8), [], []⟩
def d_focus_at : He.DefD := ⟨("focus_at", none), "focus_at", "focus_at", C8.fnArgs (top 9), C8.fnBody (top 9), C8.fnScope (top 9), [], []⟩
def d_products_of : He.DefD := ⟨("products_of", none), "products_of", "products_of", C8.fnArgs (top 1), C8.fnBody (top 1), C8.fnScope (top 1), [], []⟩
def d_row_place : He.DefD := ⟨("row_place", none), "row_place", "row_place", C8.fnArgs (top 10), C8.fnBody (top 10), C8.fnScope (top 10), [], []⟩
def d_are_within : He.DefD := ⟨("are_within", none), "are_within", "are_within", C8.fnArgs (top 11), C8.fnBody (top 11), C8.fnScope (top 11), [], []⟩
def d_focus_error : He.DefD := ⟨("focus_error", none), "focus_error", "focus_error", C8.fnArgs (top 12), C8.fnBody (top 12), C8.fnScope (top 12), [], []⟩
def d_is_integer : He.DefD := ⟨("is_integer", none), "is_integer", "is_integer", C8.fnArgs (top 14), C8.fnBody (top 14), C8.fnScope (top 14), [], []⟩
def d_digit_row_error : He.DefD := ⟨("digit_row_error", none), "digit_row_error", "digit_row_error", C8.fnArgs (top 16), C8.fnBody (top 16), C8.fnScope (top 16), [], []⟩
def d_digit_rows_number : He.DefD := ⟨("digit_rows_number", none), "digit_rows_number", "digit_rows_number", C8.fnArgs (top 17), C8.fnBody (top 17), C8.fnScope (top 17), [], []⟩
def d_rests_of : He.DefD := ⟨("rests_of", none), "rests_of", "rests_of", C8.fnArgs (top 18), C8.fnBody (top 18), C8.fnScope (top 18), [], []⟩
def d_reflected_row : He.DefD := ⟨("reflected_row", none), "reflected_row", "reflected_row", C8.fnArgs (top 19), C8.fnBody (top 19), C8.fnScope (top 19), [], []⟩
def d_reflected_place : He.DefD := ⟨("reflected_place", none), "reflected_place", "reflected_place", C8.fnArgs (top 20), C8.fnBody (top 20), C8.fnScope (top 20), [], []⟩
def d_reflected_step : He.DefD := ⟨("reflected_step", none), "reflected_step", "reflected_step", C8.fnArgs (top 21), C8.fnBody (top 21), C8.fnScope (top 21), [], []⟩
def d__law_pot : He.DefD := ⟨("_law_pot", none), "_law_pot", "_law_pot", C8.fnArgs (top 27), C8.fnBody (top 27), C8.fnScope (top 27), [], []⟩
def d__law_of : He.DefD := ⟨("_law_of", none), "_law_of", "_law_of", C8.fnArgs (top 28), C8.fnBody (top 28), C8.fnScope (top 28), [], []⟩
def d__law_one : He.DefD := ⟨("_law_one", none), "_law_one", "_law_one", C8.fnArgs (top 29), C8.fnBody (top 29), C8.fnScope (top 29), [], []⟩
def d__law_unlike : He.DefD := ⟨("_law_unlike", none), "_law_unlike", "_law_unlike", C8.fnArgs (top 30), C8.fnBody (top 30), C8.fnScope (top 30), [], []⟩
def d__law_reflected : He.DefD := ⟨("_law_reflected", none), "_law_reflected", "_law_reflected", C8.fnArgs (top 31), C8.fnBody (top 31), C8.fnScope (top 31), [], []⟩
def d_focus_next : He.DefD := ⟨("focus_next", none), "focus_next", "focus_next", C8.fnArgs (top 7), C8.fnBody (top 7), C8.fnScope (top 7), [], []⟩
def d__law_told : He.DefD := ⟨("_law_told", none), "_law_told", "_law_told", C8.fnArgs (top 33), C8.fnBody (top 33), C8.fnScope (top 33), [], []⟩
def d_turned_row : He.DefD := ⟨("turned_row", none), "turned_row", "turned_row", C8.fnArgs (top 23), C8.fnBody (top 23), C8.fnScope (top 23), [], []⟩
def d_turned_row_place : He.DefD := ⟨("turned_row_place", none), "turned_row_place", "turned_row_place", C8.fnArgs (top 24), C8.fnBody (top 24), C8.fnScope (top 24), [], []⟩
def d_does_turned_close : He.DefD := ⟨("does_turned_close", none), "does_turned_close", "does_turned_close", C8.fnArgs (top 25), C8.fnBody (top 25), C8.fnScope (top 25), [], []⟩
def d__law_turned : He.DefD := ⟨("_law_turned", none), "_law_turned", "_law_turned", C8.fnArgs (top 32), C8.fnBody (top 32), C8.fnScope (top 32), [], []⟩
def d__law_is_turned_right : He.DefD := ⟨("_law_is_turned_right", none), "_law_is_turned_right", "_law_is_turned_right", C8.fnArgs (top 34), C8.fnBody (top 34), C8.fnScope (top 34), [], []⟩
def d_law : He.DefD := ⟨("law", none), "law", "law", C8.fnArgs (top 35), C8.fnBody (top 35), C8.fnScope (top 35), [], []⟩
def fn : List He.DefD := [d_focus_begin, d_pointers_by, d_focus_at, d_products_of, d_row_place, d_are_within, d_focus_error, d_is_integer, d_digit_row_error, d_digit_rows_number, d_rests_of, d_reflected_row, d_reflected_place, d_reflected_step, d__law_pot, d__law_of, d__law_one, d__law_unlike, d__law_reflected, d_focus_next, d__law_told, d_turned_row, d_turned_row_place, d_does_turned_close, d__law_turned, d__law_is_turned_right, d_law]
def fa : List He.Fa := [.glo "focus_begin", .glo "pointers_by", .glo "focus_at", .glo "products_of", .glo "row_place", .glo "are_within", .glo "focus_error", .glo "is_integer", .glo "digit_row_error", .glo "digit_rows_number", .glo "rests_of", .glo "reflected_row", .glo "reflected_place", .glo "reflected_step", .glo "_law_pot", .glo "_law_of", .glo "_law_one", .glo "_law_unlike", .glo "_law_reflected", .glo "focus_next", .glo "_law_told", .glo "turned_row", .glo "turned_row_place", .glo "does_turned_close", .glo "_law_turned", .glo "_law_is_turned_right", .glo "law", .free "len", .free "abs", .free "max", .free "min", .free "sum", .free "all", .free "any", .free "int", .free "str", .free "tuple", .free "list", .free "sorted", .free "repr", .free "isinstance", .free "set", .free "range", .free "enumerate", .free "zip", .free "bool", .free "super", .glo "Unfit", .glo "ListError"]
abbrev P : Program := PySem.Challenge.pw_nearlists_k93_whole_focus_and_reflected
def ex (K : PySem.W.Frag) : Bool := excB P K "Unfit" "ListError"
structure Fx (K : PySem.W.Frag) : Prop where
  d : He.SaysD fa fn K
  m : ex K = true
section
variable {w : World} {K : PySem.W.Frag} {h : Heap} {mg : Str → Option Value} {base : Heap}
theorem free (c : Fx K) (X : K.In h) (G : h.Ns mainGlobals mg) : ∀ x ∈ BN, mg x = none := by
  intro x hx
  simp only [BN, List.mem_cons, List.not_mem_nil, or_false] at hx
  rcases hx with rfl | rfl | rfl | rfl | rfl | rfl | rfl | rfl | rfl | rfl | rfl | rfl | rfl | rfl | rfl | rfl | rfl | rfl | rfl
  · exact He.free_ok X G (c.d.fact 27 (f := .free "len") rfl)
  · exact He.free_ok X G (c.d.fact 28 (f := .free "abs") rfl)
  · exact He.free_ok X G (c.d.fact 29 (f := .free "max") rfl)
  · exact He.free_ok X G (c.d.fact 30 (f := .free "min") rfl)
  · exact He.free_ok X G (c.d.fact 31 (f := .free "sum") rfl)
  · exact He.free_ok X G (c.d.fact 32 (f := .free "all") rfl)
  · exact He.free_ok X G (c.d.fact 33 (f := .free "any") rfl)
  · exact He.free_ok X G (c.d.fact 34 (f := .free "int") rfl)
  · exact He.free_ok X G (c.d.fact 35 (f := .free "str") rfl)
  · exact He.free_ok X G (c.d.fact 36 (f := .free "tuple") rfl)
  · exact He.free_ok X G (c.d.fact 37 (f := .free "list") rfl)
  · exact He.free_ok X G (c.d.fact 38 (f := .free "sorted") rfl)
  · exact He.free_ok X G (c.d.fact 39 (f := .free "repr") rfl)
  · exact He.free_ok X G (c.d.fact 40 (f := .free "isinstance") rfl)
  · exact He.free_ok X G (c.d.fact 41 (f := .free "set") rfl)
  · exact He.free_ok X G (c.d.fact 42 (f := .free "range") rfl)
  · exact He.free_ok X G (c.d.fact 43 (f := .free "enumerate") rfl)
  · exact He.free_ok X G (c.d.fact 44 (f := .free "zip") rfl)
  · exact He.free_ok X G (c.d.fact 45 (f := .free "bool") rfl)
theorem g_focus_begin (c : Fx K) (X : K.In h) (G : h.Ns mainGlobals mg) {fd : FuncData} (D : FunS K "focus_begin" (top 6) (He.fAd K ("focus_begin", none)) fd) : FnG P w (lessK K) mg base 1 (He.fAd K ("focus_begin", none)) fd ["sizes"] f_focus_begin := by
  have e : needsSs b_focus_begin = [] := by kernel_rfl
  exact def_G (ns := ["sizes", "m"]) D rfl (by decide +kernel) (by decide +kernel) (free c X G) (by rw [e]; exact all_nil)
theorem c_focus_begin (c : Fx K) (X : K.In h) (G : h.Ns mainGlobals mg) : CalG P w (lessK K) mg base 1 (sOf [102, 111, 99, 117, 115, 95, 98, 101, 103, 105, 110]) f_focus_begin := by
  obtain ⟨fd, D⟩ := c.d.def_ 0 (d := d_focus_begin) rfl
  exact cal_G (nm := "focus_begin") (st := top 6) D (g_focus_begin c X G D) (He.glo_ok X G (c.d.fact 0 (f := .glo "focus_begin") rfl)) (fun kV doc pm an cdv ct us hl => match us, hl with | [_], _ => rfl)
theorem g_pointers_by (c : Fx K) (X : K.In h) (G : h.Ns mainGlobals mg) {fd : FuncData} (D : FunS K "pointers_by" (top 8) (He.fAd K ("pointers_by", none)) fd) : FnG P w (lessK K) mg base 1 (He.fAd K ("pointers_by", none)) fd ["waits"] f_pointers_by := by
  have e : needsSs b_pointers_by = [] := by kernel_rfl
  exact def_G (ns := ["waits", "m", "found", "j", "begins", "k"]) D rfl (by decide +kernel) (by decide +kernel) (free c X G) (by rw [e]; exact all_nil)
theorem c_pointers_by (c : Fx K) (X : K.In h) (G : h.Ns mainGlobals mg) : CalG P w (lessK K) mg base 1 (sOf [112, 111, 105, 110, 116, 101, 114, 115, 95, 98, 121]) f_pointers_by := by
  obtain ⟨fd, D⟩ := c.d.def_ 1 (d := d_pointers_by) rfl
  exact cal_G (nm := "pointers_by") (st := top 8) D (g_pointers_by c X G D) (He.glo_ok X G (c.d.fact 1 (f := .glo "pointers_by") rfl)) (fun kV doc pm an cdv ct us hl => match us, hl with | [_], _ => rfl)
theorem g_focus_at (c : Fx K) (X : K.In h) (G : h.Ns mainGlobals mg) {fd : FuncData} (D : FunS K "focus_at" (top 9) (He.fAd K ("focus_at", none)) fd) : FnG P w (lessK K) mg base 2 (He.fAd K ("focus_at", none)) fd ["sizes", "place"] f_focus_at := by
  have e : needsSs b_focus_at = [.call [112, 111, 105, 110, 116, 101, 114, 115, 95, 98, 121] f_pointers_by] := by kernel_rfl
  exact def_G (ns := ["sizes", "place", "size", "row", "ways", "waits", "digit"]) D rfl (by decide +kernel) (by decide +kernel) (free c X G) (by rw [e]; exact all_cons ((c_pointers_by c X G).mono (by decide)) (all_nil))
theorem c_focus_at (c : Fx K) (X : K.In h) (G : h.Ns mainGlobals mg) : CalG P w (lessK K) mg base 2 (sOf [102, 111, 99, 117, 115, 95, 97, 116]) f_focus_at := by
  obtain ⟨fd, D⟩ := c.d.def_ 2 (d := d_focus_at) rfl
  exact cal_G (nm := "focus_at") (st := top 9) D (g_focus_at c X G D) (He.glo_ok X G (c.d.fact 2 (f := .glo "focus_at") rfl)) (fun kV doc pm an cdv ct us hl => match us, hl with | [_, _], _ => rfl)
theorem g_products_of (c : Fx K) (X : K.In h) (G : h.Ns mainGlobals mg) {fd : FuncData} (D : FunS K "products_of" (top 1) (He.fAd K ("products_of", none)) fd) : FnG P w (lessK K) mg base 1 (He.fAd K ("products_of", none)) fd ["sizes"] f_products_of := by
  have e : needsSs b_products_of = [] := by kernel_rfl
  exact def_G (ns := ["sizes", "found", "size"]) D rfl (by decide +kernel) (by decide +kernel) (free c X G) (by rw [e]; exact all_nil)
theorem c_products_of (c : Fx K) (X : K.In h) (G : h.Ns mainGlobals mg) : CalG P w (lessK K) mg base 1 (sOf [112, 114, 111, 100, 117, 99, 116, 115, 95, 111, 102]) f_products_of := by
  obtain ⟨fd, D⟩ := c.d.def_ 3 (d := d_products_of) rfl
  exact cal_G (nm := "products_of") (st := top 1) D (g_products_of c X G D) (He.glo_ok X G (c.d.fact 3 (f := .glo "products_of") rfl)) (fun kV doc pm an cdv ct us hl => match us, hl with | [_], _ => rfl)
theorem g_row_place (c : Fx K) (X : K.In h) (G : h.Ns mainGlobals mg) {fd : FuncData} (D : FunS K "row_place" (top 10) (He.fAd K ("row_place", none)) fd) : FnG P w (lessK K) mg base 2 (He.fAd K ("row_place", none)) fd ["sizes", "row"] f_row_place := by
  have e : needsSs b_row_place = [.call [112, 114, 111, 100, 117, 99, 116, 115, 95, 111, 102] f_products_of] := by kernel_rfl
  exact def_G (ns := ["sizes", "row", "j", "found", "products", "above", "digit"]) D rfl (by decide +kernel) (by decide +kernel) (free c X G) (by rw [e]; exact all_cons ((c_products_of c X G).mono (by decide)) (all_nil))
theorem c_row_place (c : Fx K) (X : K.In h) (G : h.Ns mainGlobals mg) : CalG P w (lessK K) mg base 2 (sOf [114, 111, 119, 95, 112, 108, 97, 99, 101]) f_row_place := by
  obtain ⟨fd, D⟩ := c.d.def_ 4 (d := d_row_place) rfl
  exact cal_G (nm := "row_place") (st := top 10) D (g_row_place c X G D) (He.glo_ok X G (c.d.fact 4 (f := .glo "row_place") rfl)) (fun kV doc pm an cdv ct us hl => match us, hl with | [_, _], _ => rfl)
theorem g_are_within (c : Fx K) (X : K.In h) (G : h.Ns mainGlobals mg) {fd : FuncData} (D : FunS K "are_within" (top 11) (He.fAd K ("are_within", none)) fd) : FnG P w (lessK K) mg base 1 (He.fAd K ("are_within", none)) fd ["value", "many", "least", "most"] f_are_within := by
  have e : needsSs b_are_within = [] := by kernel_rfl
  exact def_G (ns := ["value", "many", "least", "most", "own"]) D rfl (by decide +kernel) (by decide +kernel) (free c X G) (by rw [e]; exact all_nil)
theorem c_are_within (c : Fx K) (X : K.In h) (G : h.Ns mainGlobals mg) : CalG P w (lessK K) mg base 1 (sOf [97, 114, 101, 95, 119, 105, 116, 104, 105, 110]) f_are_within := by
  obtain ⟨fd, D⟩ := c.d.def_ 5 (d := d_are_within) rfl
  exact cal_G (nm := "are_within") (st := top 11) D (g_are_within c X G D) (He.glo_ok X G (c.d.fact 5 (f := .glo "are_within") rfl)) (fun kV doc pm an cdv ct us hl => match us, hl with | [_, _, _, _], _ => rfl)
theorem g_focus_error (c : Fx K) (X : K.In h) (G : h.Ns mainGlobals mg) {fd : FuncData} (D : FunS K "focus_error" (top 12) (He.fAd K ("focus_error", none)) fd) : FnG P w (lessK K) mg base 3 (He.fAd K ("focus_error", none)) fd ["sizes", "value"] f_focus_error := by
  have e : needsSs b_focus_error = [.call [97, 114, 101, 95, 119, 105, 116, 104, 105, 110] f_are_within, .call [97, 114, 101, 95, 119, 105, 116, 104, 105, 110] f_are_within, .call [97, 114, 101, 95, 119, 105, 116, 104, 105, 110] f_are_within, .call [102, 111, 99, 117, 115, 95, 97, 116] f_focus_at, .call [114, 111, 119, 95, 112, 108, 97, 99, 101] f_row_place] := by kernel_rfl
  exact def_G (ns := ["sizes", "value", "m", "due", "i", "own", "size"]) D rfl (by decide +kernel) (by decide +kernel) (free c X G) (by rw [e]; exact all_cons ((c_are_within c X G).mono (by decide)) (all_cons ((c_are_within c X G).mono (by decide)) (all_cons ((c_are_within c X G).mono (by decide)) (all_cons ((c_focus_at c X G).mono (by decide)) (all_cons ((c_row_place c X G).mono (by decide)) (all_nil))))))
theorem c_focus_error (c : Fx K) (X : K.In h) (G : h.Ns mainGlobals mg) : CalG P w (lessK K) mg base 3 (sOf [102, 111, 99, 117, 115, 95, 101, 114, 114, 111, 114]) f_focus_error := by
  obtain ⟨fd, D⟩ := c.d.def_ 6 (d := d_focus_error) rfl
  exact cal_G (nm := "focus_error") (st := top 12) D (g_focus_error c X G D) (He.glo_ok X G (c.d.fact 6 (f := .glo "focus_error") rfl)) (fun kV doc pm an cdv ct us hl => match us, hl with | [_, _], _ => rfl)
theorem g_is_integer (c : Fx K) (X : K.In h) (G : h.Ns mainGlobals mg) {fd : FuncData} (D : FunS K "is_integer" (top 14) (He.fAd K ("is_integer", none)) fd) : FnG P w (lessK K) mg base 1 (He.fAd K ("is_integer", none)) fd ["value"] f_is_integer := by
  have e : needsSs b_is_integer = [] := by kernel_rfl
  exact def_G (ns := ["value"]) D rfl (by decide +kernel) (by decide +kernel) (free c X G) (by rw [e]; exact all_nil)
theorem c_is_integer (c : Fx K) (X : K.In h) (G : h.Ns mainGlobals mg) : CalG P w (lessK K) mg base 1 (sOf [105, 115, 95, 105, 110, 116, 101, 103, 101, 114]) f_is_integer := by
  obtain ⟨fd, D⟩ := c.d.def_ 7 (d := d_is_integer) rfl
  exact cal_G (nm := "is_integer") (st := top 14) D (g_is_integer c X G D) (He.glo_ok X G (c.d.fact 7 (f := .glo "is_integer") rfl)) (fun kV doc pm an cdv ct us hl => match us, hl with | [_], _ => rfl)
theorem g_digit_row_error (c : Fx K) (X : K.In h) (G : h.Ns mainGlobals mg) {fd : FuncData} (D : FunS K "digit_row_error" (top 16) (He.fAd K ("digit_row_error", none)) fd) : FnG P w (lessK K) mg base 2 (He.fAd K ("digit_row_error", none)) fd ["sizes", "value"] f_digit_row_error := by
  have e : needsSs b_digit_row_error = [.call [105, 115, 95, 105, 110, 116, 101, 103, 101, 114] f_is_integer] := by kernel_rfl
  exact def_G (ns := ["sizes", "value", "i", "item"]) D rfl (by decide +kernel) (by decide +kernel) (free c X G) (by rw [e]; exact all_cons ((c_is_integer c X G).mono (by decide)) (all_nil))
theorem c_digit_row_error (c : Fx K) (X : K.In h) (G : h.Ns mainGlobals mg) : CalG P w (lessK K) mg base 2 (sOf [100, 105, 103, 105, 116, 95, 114, 111, 119, 95, 101, 114, 114, 111, 114]) f_digit_row_error := by
  obtain ⟨fd, D⟩ := c.d.def_ 8 (d := d_digit_row_error) rfl
  exact cal_G (nm := "digit_row_error") (st := top 16) D (g_digit_row_error c X G D) (He.glo_ok X G (c.d.fact 8 (f := .glo "digit_row_error") rfl)) (fun kV doc pm an cdv ct us hl => match us, hl with | [_, _], _ => rfl)
theorem g_digit_rows_number (c : Fx K) (X : K.In h) (G : h.Ns mainGlobals mg) {fd : FuncData} (D : FunS K "digit_rows_number" (top 17) (He.fAd K ("digit_rows_number", none)) fd) : FnG P w (lessK K) mg base 1 (He.fAd K ("digit_rows_number", none)) fd ["sizes"] f_digit_rows_number := by
  have e : needsSs b_digit_rows_number = [] := by kernel_rfl
  exact def_G (ns := ["sizes", "found", "size"]) D rfl (by decide +kernel) (by decide +kernel) (free c X G) (by rw [e]; exact all_nil)
theorem c_digit_rows_number (c : Fx K) (X : K.In h) (G : h.Ns mainGlobals mg) : CalG P w (lessK K) mg base 1 (sOf [100, 105, 103, 105, 116, 95, 114, 111, 119, 115, 95, 110, 117, 109, 98, 101, 114]) f_digit_rows_number := by
  obtain ⟨fd, D⟩ := c.d.def_ 9 (d := d_digit_rows_number) rfl
  exact cal_G (nm := "digit_rows_number") (st := top 17) D (g_digit_rows_number c X G D) (He.glo_ok X G (c.d.fact 9 (f := .glo "digit_rows_number") rfl)) (fun kV doc pm an cdv ct us hl => match us, hl with | [_], _ => rfl)
theorem g_rests_of (c : Fx K) (X : K.In h) (G : h.Ns mainGlobals mg) {fd : FuncData} (D : FunS K "rests_of" (top 18) (He.fAd K ("rests_of", none)) fd) : FnG P w (lessK K) mg base 1 (He.fAd K ("rests_of", none)) fd ["sizes"] f_rests_of := by
  have e : needsSs b_rests_of = [] := by kernel_rfl
  exact def_G (ns := ["sizes", "found", "size"]) D rfl (by decide +kernel) (by decide +kernel) (free c X G) (by rw [e]; exact all_nil)
theorem c_rests_of (c : Fx K) (X : K.In h) (G : h.Ns mainGlobals mg) : CalG P w (lessK K) mg base 1 (sOf [114, 101, 115, 116, 115, 95, 111, 102]) f_rests_of := by
  obtain ⟨fd, D⟩ := c.d.def_ 10 (d := d_rests_of) rfl
  exact cal_G (nm := "rests_of") (st := top 18) D (g_rests_of c X G D) (He.glo_ok X G (c.d.fact 10 (f := .glo "rests_of") rfl)) (fun kV doc pm an cdv ct us hl => match us, hl with | [_], _ => rfl)
theorem g_reflected_row (c : Fx K) (X : K.In h) (G : h.Ns mainGlobals mg) {fd : FuncData} (D : FunS K "reflected_row" (top 19) (He.fAd K ("reflected_row", none)) fd) : FnG P w (lessK K) mg base 2 (He.fAd K ("reflected_row", none)) fd ["sizes", "place"] f_reflected_row := by
  have e : needsSs b_reflected_row = [.call [114, 101, 115, 116, 115, 95, 111, 102] f_rests_of] := by kernel_rfl
  exact def_G (ns := ["sizes", "place", "found", "rest", "digit"]) D rfl (by decide +kernel) (by decide +kernel) (free c X G) (by rw [e]; exact all_cons ((c_rests_of c X G).mono (by decide)) (all_nil))
theorem c_reflected_row (c : Fx K) (X : K.In h) (G : h.Ns mainGlobals mg) : CalG P w (lessK K) mg base 2 (sOf [114, 101, 102, 108, 101, 99, 116, 101, 100, 95, 114, 111, 119]) f_reflected_row := by
  obtain ⟨fd, D⟩ := c.d.def_ 11 (d := d_reflected_row) rfl
  exact cal_G (nm := "reflected_row") (st := top 19) D (g_reflected_row c X G D) (He.glo_ok X G (c.d.fact 11 (f := .glo "reflected_row") rfl)) (fun kV doc pm an cdv ct us hl => match us, hl with | [_, _], _ => rfl)
theorem g_reflected_place (c : Fx K) (X : K.In h) (G : h.Ns mainGlobals mg) {fd : FuncData} (D : FunS K "reflected_place" (top 20) (He.fAd K ("reflected_place", none)) fd) : FnG P w (lessK K) mg base 2 (He.fAd K ("reflected_place", none)) fd ["sizes", "row"] f_reflected_place := by
  have e : needsSs b_reflected_place = [.call [114, 101, 115, 116, 115, 95, 111, 102] f_rests_of] := by kernel_rfl
  exact def_G (ns := ["sizes", "row", "place", "rest", "digit"]) D rfl (by decide +kernel) (by decide +kernel) (free c X G) (by rw [e]; exact all_cons ((c_rests_of c X G).mono (by decide)) (all_nil))
theorem c_reflected_place (c : Fx K) (X : K.In h) (G : h.Ns mainGlobals mg) : CalG P w (lessK K) mg base 2 (sOf [114, 101, 102, 108, 101, 99, 116, 101, 100, 95, 112, 108, 97, 99, 101]) f_reflected_place := by
  obtain ⟨fd, D⟩ := c.d.def_ 12 (d := d_reflected_place) rfl
  exact cal_G (nm := "reflected_place") (st := top 20) D (g_reflected_place c X G D) (He.glo_ok X G (c.d.fact 12 (f := .glo "reflected_place") rfl)) (fun kV doc pm an cdv ct us hl => match us, hl with | [_, _], _ => rfl)
theorem g_reflected_step (c : Fx K) (X : K.In h) (G : h.Ns mainGlobals mg) {fd : FuncData} (D : FunS K "reflected_step" (top 21) (He.fAd K ("reflected_step", none)) fd) : FnG P w (lessK K) mg base 3 (He.fAd K ("reflected_step", none)) fd ["sizes", "row"] f_reflected_step := by
  have e : needsSs b_reflected_step = [.call [114, 101, 102, 108, 101, 99, 116, 101, 100, 95, 112, 108, 97, 99, 101] f_reflected_place, .call [100, 105, 103, 105, 116, 95, 114, 111, 119, 115, 95, 110, 117, 109, 98, 101, 114] f_digit_rows_number, .call [114, 101, 102, 108, 101, 99, 116, 101, 100, 95, 114, 111, 119] f_reflected_row] := by kernel_rfl
  exact def_G (ns := ["sizes", "row", "place", "further", "i", "one", "other"]) D rfl (by decide +kernel) (by decide +kernel) (free c X G) (by rw [e]; exact all_cons ((c_reflected_place c X G).mono (by decide)) (all_cons ((c_digit_rows_number c X G).mono (by decide)) (all_cons ((c_reflected_row c X G).mono (by decide)) (all_nil))))
theorem c_reflected_step (c : Fx K) (X : K.In h) (G : h.Ns mainGlobals mg) : CalG P w (lessK K) mg base 3 (sOf [114, 101, 102, 108, 101, 99, 116, 101, 100, 95, 115, 116, 101, 112]) f_reflected_step := by
  obtain ⟨fd, D⟩ := c.d.def_ 13 (d := d_reflected_step) rfl
  exact cal_G (nm := "reflected_step") (st := top 21) D (g_reflected_step c X G D) (He.glo_ok X G (c.d.fact 13 (f := .glo "reflected_step") rfl)) (fun kV doc pm an cdv ct us hl => match us, hl with | [_, _], _ => rfl)
theorem g__law_pot (c : Fx K) (X : K.In h) (G : h.Ns mainGlobals mg) {fd : FuncData} (D : FunS K "_law_pot" (top 27) (He.fAd K ("_law_pot", none)) fd) : FnG P w (lessK K) mg base 1 (He.fAd K ("_law_pot", none)) fd ["script"] f__law_pot := by
  have e : needsSs b__law_pot = [] := by kernel_rfl
  exact def_G (ns := ["script", "cell", "cells", "mixed"]) D rfl (by decide +kernel) (by decide +kernel) (free c X G) (by rw [e]; exact all_nil)
theorem c__law_pot (c : Fx K) (X : K.In h) (G : h.Ns mainGlobals mg) : CalG P w (lessK K) mg base 1 (sOf [95, 108, 97, 119, 95, 112, 111, 116]) f__law_pot := by
  obtain ⟨fd, D⟩ := c.d.def_ 14 (d := d__law_pot) rfl
  exact cal_G (nm := "_law_pot") (st := top 27) D (g__law_pot c X G D) (He.glo_ok X G (c.d.fact 14 (f := .glo "_law_pot") rfl)) (fun kV doc pm an cdv ct us hl => match us, hl with | [_], _ => rfl)
theorem g__law_of (c : Fx K) (X : K.In h) (G : h.Ns mainGlobals mg) {fd : FuncData} (D : FunS K "_law_of" (top 28) (He.fAd K ("_law_of", none)) fd) : FnG P w (lessK K) mg base 1 (He.fAd K ("_law_of", none)) fd ["pot", "many"] f__law_of := by
  have e : needsSs b__law_of = [] := by kernel_rfl
  exact def_G (ns := ["pot", "many", "number", "cell"]) D rfl (by decide +kernel) (by decide +kernel) (free c X G) (by rw [e]; exact all_nil)
theorem c__law_of (c : Fx K) (X : K.In h) (G : h.Ns mainGlobals mg) : CalG P w (lessK K) mg base 1 (sOf [95, 108, 97, 119, 95, 111, 102]) f__law_of := by
  obtain ⟨fd, D⟩ := c.d.def_ 15 (d := d__law_of) rfl
  exact cal_G (nm := "_law_of") (st := top 28) D (g__law_of c X G D) (He.glo_ok X G (c.d.fact 15 (f := .glo "_law_of") rfl)) (fun kV doc pm an cdv ct us hl => match us, hl with | [_, _], _ => rfl)
theorem g__law_one (c : Fx K) (X : K.In h) (G : h.Ns mainGlobals mg) {fd : FuncData} (D : FunS K "_law_one" (top 29) (He.fAd K ("_law_one", none)) fd) : FnG P w (lessK K) mg base 2 (He.fAd K ("_law_one", none)) fd ["pot", "items"] f__law_one := by
  have e : needsSs b__law_one = [.call [95, 108, 97, 119, 95, 111, 102] f__law_of] := by kernel_rfl
  exact def_G (ns := ["pot", "items"]) D rfl (by decide +kernel) (by decide +kernel) (free c X G) (by rw [e]; exact all_cons ((c__law_of c X G).mono (by decide)) (all_nil))
theorem c__law_one (c : Fx K) (X : K.In h) (G : h.Ns mainGlobals mg) : CalG P w (lessK K) mg base 2 (sOf [95, 108, 97, 119, 95, 111, 110, 101]) f__law_one := by
  obtain ⟨fd, D⟩ := c.d.def_ 16 (d := d__law_one) rfl
  exact cal_G (nm := "_law_one") (st := top 29) D (g__law_one c X G D) (He.glo_ok X G (c.d.fact 16 (f := .glo "_law_one") rfl)) (fun kV doc pm an cdv ct us hl => match us, hl with | [_, _], _ => rfl)
theorem g__law_unlike (c : Fx K) (X : K.In h) (G : h.Ns mainGlobals mg) {fd : FuncData} (D : FunS K "_law_unlike" (top 30) (He.fAd K ("_law_unlike", none)) fd) : FnG P w (lessK K) mg base 1 (He.fAd K ("_law_unlike", none)) fd ["one", "other"] f__law_unlike := by
  have e : needsSs b__law_unlike = [] := by kernel_rfl
  exact def_G (ns := ["one", "other", "i"]) D rfl (by decide +kernel) (by decide +kernel) (free c X G) (by rw [e]; exact all_nil)
theorem c__law_unlike (c : Fx K) (X : K.In h) (G : h.Ns mainGlobals mg) : CalG P w (lessK K) mg base 1 (sOf [95, 108, 97, 119, 95, 117, 110, 108, 105, 107, 101]) f__law_unlike := by
  obtain ⟨fd, D⟩ := c.d.def_ 17 (d := d__law_unlike) rfl
  exact cal_G (nm := "_law_unlike") (st := top 30) D (g__law_unlike c X G D) (He.glo_ok X G (c.d.fact 17 (f := .glo "_law_unlike") rfl)) (fun kV doc pm an cdv ct us hl => match us, hl with | [_, _], _ => rfl)
theorem g__law_reflected (c : Fx K) (X : K.In h) (G : h.Ns mainGlobals mg) {fd : FuncData} (D : FunS K "_law_reflected" (top 31) (He.fAd K ("_law_reflected", none)) fd) : FnG P w (lessK K) mg base 1 (He.fAd K ("_law_reflected", none)) fd ["sizes", "place"] f__law_reflected := by
  have e : needsSs b__law_reflected = [] := by kernel_rfl
  exact def_G (ns := ["sizes", "place", "size", "whole", "found", "digit"]) D rfl (by decide +kernel) (by decide +kernel) (free c X G) (by rw [e]; exact all_nil)
theorem c__law_reflected (c : Fx K) (X : K.In h) (G : h.Ns mainGlobals mg) : CalG P w (lessK K) mg base 1 (sOf [95, 108, 97, 119, 95, 114, 101, 102, 108, 101, 99, 116, 101, 100]) f__law_reflected := by
  obtain ⟨fd, D⟩ := c.d.def_ 18 (d := d__law_reflected) rfl
  exact cal_G (nm := "_law_reflected") (st := top 31) D (g__law_reflected c X G D) (He.glo_ok X G (c.d.fact 18 (f := .glo "_law_reflected") rfl)) (fun kV doc pm an cdv ct us hl => match us, hl with | [_, _], _ => rfl)
theorem r_focus_next (c : Fx K) (X : K.In h) (G : h.Ns mainGlobals mg) {fd : FuncData} (D : FunS K "focus_next" (top 7) (He.fAd K ("focus_next", none)) fd) : FnR P w (lessK K) mg base 2 (He.fAd K ("focus_next", none)) fd ["sizes", "state"] (He.ga K "Unfit") (raiF 7 2 b_focus_next) := by
  have e : needsSs b_focus_next = [] := by kernel_rfl
  obtain ⟨e1, e2⟩ := band c.m
  obtain ⟨e3, e4⟩ := band e1
  exact def_R (cn := "Unfit") (k := 0) (ns := ["sizes", "state", "j", "row", "pointers", "ways", "own"]) D rfl (by decide +kernel) (by decide +kernel) (by decide +kernel) (free c X G) (by rw [e]; exact all_nil) (bareB_ok e3) (He.free_ok X G (c.d.fact 46 (f := .free "super") rfl)) (He.glo_ok X G (c.d.fact 47 (f := .glo "Unfit") rfl)) (by decide +kernel) (by kernel_rfl)
theorem cr_focus_next (c : Fx K) (X : K.In h) (G : h.Ns mainGlobals mg) : CalR P w (lessK K) mg base 2 "focus_next" (He.ga K "Unfit") (raiF 7 2 b_focus_next) := by
  obtain ⟨fd, D⟩ := c.d.def_ 19 (d := d_focus_next) rfl
  exact calR_G (nm := "focus_next") (st := top 7) D (r_focus_next c X G D) (He.glo_ok X G (c.d.fact 19 (f := .glo "focus_next") rfl)) (fun kV doc pm an cdv ct us hl => match us, hl with | [_, _], _ => rfl)
theorem g_focus_next (c : Fx K) (X : K.In h) (G : h.Ns mainGlobals mg) {fd : FuncData} (D : FunS K "focus_next" (top 7) (He.fAd K ("focus_next", none)) fd) : FnG P w (lessK K) mg base 1 (He.fAd K ("focus_next", none)) fd ["sizes", "state"] f_focus_next := by
  have e : needsSs b_focus_next = [] := by kernel_rfl
  exact def_G (ns := ["sizes", "state", "j", "row", "pointers", "ways", "own"]) D rfl (by decide +kernel) (by decide +kernel) (free c X G) (by rw [e]; exact all_nil)
theorem c_focus_next (c : Fx K) (X : K.In h) (G : h.Ns mainGlobals mg) : CalG P w (lessK K) mg base 1 (sOf [102, 111, 99, 117, 115, 95, 110, 101, 120, 116]) f_focus_next := by
  obtain ⟨fd, D⟩ := c.d.def_ 19 (d := d_focus_next) rfl
  exact cal_G (nm := "focus_next") (st := top 7) D (g_focus_next c X G D) (He.glo_ok X G (c.d.fact 19 (f := .glo "focus_next") rfl)) (fun kV doc pm an cdv ct us hl => match us, hl with | [_, _], _ => rfl)
theorem g__law_told (c : Fx K) (X : K.In h) (G : h.Ns mainGlobals mg) {fd : FuncData} (D : FunS K "_law_told" (top 33) (He.fAd K ("_law_told", none)) fd) : FnG P w (lessK K) mg base 3 (He.fAd K ("_law_told", none)) fd ["sizes", "state"] f__law_told := by
  have e : needss [.var 0, .var 1] = [] := by kernel_rfl
  obtain ⟨e1, e2⟩ := band c.m
  obtain ⟨e3, e4⟩ := band e1
  obtain ⟨e5, e6⟩ := band e2
  exact fn_T (k := 2) (i := 2) (fx := "focus_next") (cx := "Unfit") (ln := "ListError") (en := "error") (xs := [117, 110, 102, 105, 116]) (ys := [.var 0, .var 1]) (ns := ["sizes", "state", "error"]) rfl (by decide) (fun_less D) (C8.fnScope_by (by decide +kernel)) (by decide +kernel) ⟨by kernel_rfl, by kernel_rfl, by kernel_rfl, by kernel_rfl, by kernel_rfl, by kernel_rfl, by decide +kernel, by decide +kernel, by decide +kernel, by decide +kernel, by decide +kernel⟩ (free c X G) (by rw [e]; exact all_nil) ((c_focus_next c X G).mono (by decide)) ((cr_focus_next c X G).mono (by decide)) (He.glo_ok X G (c.d.fact 47 (f := .glo "Unfit") rfl)) (He.glo_ok X G (c.d.fact 48 (f := .glo "ListError") rfl)) (free c X G "isinstance" (by decide +kernel)) (askB_ok e4) (kitOne_less (of_decide_eq_true e5)) (exmOne_less (of_decide_eq_true e6))
theorem c__law_told (c : Fx K) (X : K.In h) (G : h.Ns mainGlobals mg) : CalG P w (lessK K) mg base 3 (sOf [95, 108, 97, 119, 95, 116, 111, 108, 100]) f__law_told := by
  obtain ⟨fd, D⟩ := c.d.def_ 20 (d := d__law_told) rfl
  exact calT_G (nm := "_law_told") (st := top 33) D (g__law_told c X G D) (He.glo_ok X G (c.d.fact 20 (f := .glo "_law_told") rfl)) (fun kV doc pm an cdv ct us hl => match us, hl with | [_, _], _ => rfl)
theorem g_turned_row (c : Fx K) (X : K.In h) (G : h.Ns mainGlobals mg) {fd : FuncData} (D : FunS K "turned_row" (top 23) (He.fAd K ("turned_row", none)) fd) : FnG P w (lessK K) mg base 2 (He.fAd K ("turned_row", none)) fd ["sizes", "place"] f_turned_row := by
  have e : needsSs b_turned_row = [.call [114, 101, 115, 116, 115, 95, 111, 102] f_rests_of] := by kernel_rfl
  exact def_G (ns := ["sizes", "place", "found", "ahead", "size", "rest", "often"]) D rfl (by decide +kernel) (by decide +kernel) (free c X G) (by rw [e]; exact all_cons ((c_rests_of c X G).mono (by decide)) (all_nil))
theorem c_turned_row (c : Fx K) (X : K.In h) (G : h.Ns mainGlobals mg) : CalG P w (lessK K) mg base 2 (sOf [116, 117, 114, 110, 101, 100, 95, 114, 111, 119]) f_turned_row := by
  obtain ⟨fd, D⟩ := c.d.def_ 21 (d := d_turned_row) rfl
  exact cal_G (nm := "turned_row") (st := top 23) D (g_turned_row c X G D) (He.glo_ok X G (c.d.fact 21 (f := .glo "turned_row") rfl)) (fun kV doc pm an cdv ct us hl => match us, hl with | [_, _], _ => rfl)
theorem g_turned_row_place (c : Fx K) (X : K.In h) (G : h.Ns mainGlobals mg) {fd : FuncData} (D : FunS K "turned_row_place" (top 24) (He.fAd K ("turned_row_place", none)) fd) : FnG P w (lessK K) mg base 1 (He.fAd K ("turned_row_place", none)) fd ["sizes", "row"] f_turned_row_place := by
  have e : needsSs b_turned_row_place = [] := by kernel_rfl
  exact def_G (ns := ["sizes", "row", "ahead", "size", "digit"]) D rfl (by decide +kernel) (by decide +kernel) (free c X G) (by rw [e]; exact all_nil)
theorem c_turned_row_place (c : Fx K) (X : K.In h) (G : h.Ns mainGlobals mg) : CalG P w (lessK K) mg base 1 (sOf [116, 117, 114, 110, 101, 100, 95, 114, 111, 119, 95, 112, 108, 97, 99, 101]) f_turned_row_place := by
  obtain ⟨fd, D⟩ := c.d.def_ 22 (d := d_turned_row_place) rfl
  exact cal_G (nm := "turned_row_place") (st := top 24) D (g_turned_row_place c X G D) (He.glo_ok X G (c.d.fact 22 (f := .glo "turned_row_place") rfl)) (fun kV doc pm an cdv ct us hl => match us, hl with | [_, _], _ => rfl)
theorem g_does_turned_close (c : Fx K) (X : K.In h) (G : h.Ns mainGlobals mg) {fd : FuncData} (D : FunS K "does_turned_close" (top 25) (He.fAd K ("does_turned_close", none)) fd) : FnG P w (lessK K) mg base 3 (He.fAd K ("does_turned_close", none)) fd ["sizes"] f_does_turned_close := by
  have e : needsSs b_does_turned_close = [.call [116, 117, 114, 110, 101, 100, 95, 114, 111, 119] f_turned_row, .call [100, 105, 103, 105, 116, 95, 114, 111, 119, 115, 95, 110, 117, 109, 98, 101, 114] f_digit_rows_number] := by kernel_rfl
  exact def_G (ns := ["sizes", "last", "others", "digit", "size"]) D rfl (by decide +kernel) (by decide +kernel) (free c X G) (by rw [e]; exact all_cons ((c_turned_row c X G).mono (by decide)) (all_cons ((c_digit_rows_number c X G).mono (by decide)) (all_nil)))
theorem c_does_turned_close (c : Fx K) (X : K.In h) (G : h.Ns mainGlobals mg) : CalG P w (lessK K) mg base 3 (sOf [100, 111, 101, 115, 95, 116, 117, 114, 110, 101, 100, 95, 99, 108, 111, 115, 101]) f_does_turned_close := by
  obtain ⟨fd, D⟩ := c.d.def_ 23 (d := d_does_turned_close) rfl
  exact cal_G (nm := "does_turned_close") (st := top 25) D (g_does_turned_close c X G D) (He.glo_ok X G (c.d.fact 23 (f := .glo "does_turned_close") rfl)) (fun kV doc pm an cdv ct us hl => match us, hl with | [_], _ => rfl)
theorem g__law_turned (c : Fx K) (X : K.In h) (G : h.Ns mainGlobals mg) {fd : FuncData} (D : FunS K "_law_turned" (top 32) (He.fAd K ("_law_turned", none)) fd) : FnG P w (lessK K) mg base 1 (He.fAd K ("_law_turned", none)) fd ["sizes", "place"] f__law_turned := by
  have e : needsSs b__law_turned = [] := by kernel_rfl
  exact def_G (ns := ["sizes", "place", "digits", "size", "found", "ahead", "digit"]) D rfl (by decide +kernel) (by decide +kernel) (free c X G) (by rw [e]; exact all_nil)
theorem c__law_turned (c : Fx K) (X : K.In h) (G : h.Ns mainGlobals mg) : CalG P w (lessK K) mg base 1 (sOf [95, 108, 97, 119, 95, 116, 117, 114, 110, 101, 100]) f__law_turned := by
  obtain ⟨fd, D⟩ := c.d.def_ 24 (d := d__law_turned) rfl
  exact cal_G (nm := "_law_turned") (st := top 32) D (g__law_turned c X G D) (He.glo_ok X G (c.d.fact 24 (f := .glo "_law_turned") rfl)) (fun kV doc pm an cdv ct us hl => match us, hl with | [_, _], _ => rfl)
theorem k_turned_row_1_0 (c : Fx K) (X : K.In h) (G : h.Ns mainGlobals mg) : CalK P w (lessK K) mg base 2 (sOf [116, 117, 114, 110, 101, 100, 95, 114, 111, 119]) (([[112, 108, 97, 99, 101], [115, 105, 122, 101, 115]] : List (List Nat)).map sOf) [1, 0] f_turned_row := by
  obtain ⟨fd, D⟩ := c.d.def_ 21 (d := d_turned_row) rfl
  exact calK_G (nm := "turned_row") (st := top 23) (ps := ["sizes", "place"]) D (g_turned_row c X G D) (He.glo_ok X G (c.d.fact 21 (f := .glo "turned_row") rfl)) rfl (by decide) (fun kV doc pm an cdv ct us hl => match us, hl with | [_, _], _ => rfl)
theorem k_turned_row_place_1_0 (c : Fx K) (X : K.In h) (G : h.Ns mainGlobals mg) : CalK P w (lessK K) mg base 1 (sOf [116, 117, 114, 110, 101, 100, 95, 114, 111, 119, 95, 112, 108, 97, 99, 101]) (([[114, 111, 119], [115, 105, 122, 101, 115]] : List (List Nat)).map sOf) [1, 0] f_turned_row_place := by
  obtain ⟨fd, D⟩ := c.d.def_ 22 (d := d_turned_row_place) rfl
  exact calK_G (nm := "turned_row_place") (st := top 24) (ps := ["sizes", "row"]) D (g_turned_row_place c X G D) (He.glo_ok X G (c.d.fact 22 (f := .glo "turned_row_place") rfl)) rfl (by decide) (fun kV doc pm an cdv ct us hl => match us, hl with | [_, _], _ => rfl)
theorem k_does_turned_close_0 (c : Fx K) (X : K.In h) (G : h.Ns mainGlobals mg) : CalK P w (lessK K) mg base 3 (sOf [100, 111, 101, 115, 95, 116, 117, 114, 110, 101, 100, 95, 99, 108, 111, 115, 101]) (([[115, 105, 122, 101, 115]] : List (List Nat)).map sOf) [0] f_does_turned_close := by
  obtain ⟨fd, D⟩ := c.d.def_ 23 (d := d_does_turned_close) rfl
  exact calK_G (nm := "does_turned_close") (st := top 25) (ps := ["sizes"]) D (g_does_turned_close c X G D) (He.glo_ok X G (c.d.fact 23 (f := .glo "does_turned_close") rfl)) rfl (by decide) (fun kV doc pm an cdv ct us hl => match us, hl with | [_], _ => rfl)
theorem g__law_is_turned_right (c : Fx K) (X : K.In h) (G : h.Ns mainGlobals mg) {fd : FuncData} (D : FunS K "_law_is_turned_right" (top 34) (He.fAd K ("_law_is_turned_right", none)) fd) : FnG P w (lessK K) mg base 4 (He.fAd K ("_law_is_turned_right", none)) fd ["sizes", "place", "whole"] f__law_is_turned_right := by
  have e : needsSs b__law_is_turned_right = [.call [95, 108, 97, 119, 95, 116, 117, 114, 110, 101, 100] f__law_turned, .call [116, 117, 114, 110, 101, 100, 95, 114, 111, 119] f_turned_row, .call [116, 117, 114, 110, 101, 100, 95, 114, 111, 119, 95, 112, 108, 97, 99, 101] f_turned_row_place, .call [100, 111, 101, 115, 95, 116, 117, 114, 110, 101, 100, 95, 99, 108, 111, 115, 101] f_does_turned_close, .callk [116, 117, 114, 110, 101, 100, 95, 114, 111, 119] [[112, 108, 97, 99, 101], [115, 105, 122, 101, 115]] f_turned_row [1, 0], .callk [116, 117, 114, 110, 101, 100, 95, 114, 111, 119, 95, 112, 108, 97, 99, 101] [[114, 111, 119], [115, 105, 122, 101, 115]] f_turned_row_place [1, 0], .callk [100, 111, 101, 115, 95, 116, 117, 114, 110, 101, 100, 95, 99, 108, 111, 115, 101] [[115, 105, 122, 101, 115]] f_does_turned_close [0], .call [95, 108, 97, 119, 95, 116, 117, 114, 110, 101, 100] f__law_turned, .call [95, 108, 97, 119, 95, 117, 110, 108, 105, 107, 101] f__law_unlike] := by kernel_rfl
  exact def_G (ns := ["sizes", "place", "whole", "size", "told", "named", "row", "product", "closes", "after", "bad"]) D rfl (by decide +kernel) (by decide +kernel) (free c X G) (by rw [e]; exact all_cons ((c__law_turned c X G).mono (by decide)) (all_cons ((c_turned_row c X G).mono (by decide)) (all_cons ((c_turned_row_place c X G).mono (by decide)) (all_cons ((c_does_turned_close c X G).mono (by decide)) (all_cons ((k_turned_row_1_0 c X G).mono (by decide)) (all_cons ((k_turned_row_place_1_0 c X G).mono (by decide)) (all_cons ((k_does_turned_close_0 c X G).mono (by decide)) (all_cons ((c__law_turned c X G).mono (by decide)) (all_cons ((c__law_unlike c X G).mono (by decide)) (all_nil))))))))))
theorem c__law_is_turned_right (c : Fx K) (X : K.In h) (G : h.Ns mainGlobals mg) : CalG P w (lessK K) mg base 4 (sOf [95, 108, 97, 119, 95, 105, 115, 95, 116, 117, 114, 110, 101, 100, 95, 114, 105, 103, 104, 116]) f__law_is_turned_right := by
  obtain ⟨fd, D⟩ := c.d.def_ 25 (d := d__law_is_turned_right) rfl
  exact cal_G (nm := "_law_is_turned_right") (st := top 34) D (g__law_is_turned_right c X G D) (He.glo_ok X G (c.d.fact 25 (f := .glo "_law_is_turned_right") rfl)) (fun kV doc pm an cdv ct us hl => match us, hl with | [_, _, _], _ => rfl)
theorem k_reflected_row_1_0 (c : Fx K) (X : K.In h) (G : h.Ns mainGlobals mg) : CalK P w (lessK K) mg base 2 (sOf [114, 101, 102, 108, 101, 99, 116, 101, 100, 95, 114, 111, 119]) (([[112, 108, 97, 99, 101], [115, 105, 122, 101, 115]] : List (List Nat)).map sOf) [1, 0] f_reflected_row := by
  obtain ⟨fd, D⟩ := c.d.def_ 11 (d := d_reflected_row) rfl
  exact calK_G (nm := "reflected_row") (st := top 19) (ps := ["sizes", "place"]) D (g_reflected_row c X G D) (He.glo_ok X G (c.d.fact 11 (f := .glo "reflected_row") rfl)) rfl (by decide) (fun kV doc pm an cdv ct us hl => match us, hl with | [_, _], _ => rfl)
theorem k_reflected_place_1_0 (c : Fx K) (X : K.In h) (G : h.Ns mainGlobals mg) : CalK P w (lessK K) mg base 2 (sOf [114, 101, 102, 108, 101, 99, 116, 101, 100, 95, 112, 108, 97, 99, 101]) (([[114, 111, 119], [115, 105, 122, 101, 115]] : List (List Nat)).map sOf) [1, 0] f_reflected_place := by
  obtain ⟨fd, D⟩ := c.d.def_ 12 (d := d_reflected_place) rfl
  exact calK_G (nm := "reflected_place") (st := top 20) (ps := ["sizes", "row"]) D (g_reflected_place c X G D) (He.glo_ok X G (c.d.fact 12 (f := .glo "reflected_place") rfl)) rfl (by decide) (fun kV doc pm an cdv ct us hl => match us, hl with | [_, _], _ => rfl)
theorem k_digit_rows_number_0 (c : Fx K) (X : K.In h) (G : h.Ns mainGlobals mg) : CalK P w (lessK K) mg base 1 (sOf [100, 105, 103, 105, 116, 95, 114, 111, 119, 115, 95, 110, 117, 109, 98, 101, 114]) (([[115, 105, 122, 101, 115]] : List (List Nat)).map sOf) [0] f_digit_rows_number := by
  obtain ⟨fd, D⟩ := c.d.def_ 9 (d := d_digit_rows_number) rfl
  exact calK_G (nm := "digit_rows_number") (st := top 17) (ps := ["sizes"]) D (g_digit_rows_number c X G D) (He.glo_ok X G (c.d.fact 9 (f := .glo "digit_rows_number") rfl)) rfl (by decide) (fun kV doc pm an cdv ct us hl => match us, hl with | [_], _ => rfl)
theorem k_focus_at_1_0 (c : Fx K) (X : K.In h) (G : h.Ns mainGlobals mg) : CalK P w (lessK K) mg base 2 (sOf [102, 111, 99, 117, 115, 95, 97, 116]) (([[112, 108, 97, 99, 101], [115, 105, 122, 101, 115]] : List (List Nat)).map sOf) [1, 0] f_focus_at := by
  obtain ⟨fd, D⟩ := c.d.def_ 2 (d := d_focus_at) rfl
  exact calK_G (nm := "focus_at") (st := top 9) (ps := ["sizes", "place"]) D (g_focus_at c X G D) (He.glo_ok X G (c.d.fact 2 (f := .glo "focus_at") rfl)) rfl (by decide) (fun kV doc pm an cdv ct us hl => match us, hl with | [_, _], _ => rfl)
theorem k_focus_error_1_0 (c : Fx K) (X : K.In h) (G : h.Ns mainGlobals mg) : CalK P w (lessK K) mg base 3 (sOf [102, 111, 99, 117, 115, 95, 101, 114, 114, 111, 114]) (([[118, 97, 108, 117, 101], [115, 105, 122, 101, 115]] : List (List Nat)).map sOf) [1, 0] f_focus_error := by
  obtain ⟨fd, D⟩ := c.d.def_ 6 (d := d_focus_error) rfl
  exact calK_G (nm := "focus_error") (st := top 12) (ps := ["sizes", "value"]) D (g_focus_error c X G D) (He.glo_ok X G (c.d.fact 6 (f := .glo "focus_error") rfl)) rfl (by decide) (fun kV doc pm an cdv ct us hl => match us, hl with | [_, _], _ => rfl)
theorem k_reflected_step_1_0 (c : Fx K) (X : K.In h) (G : h.Ns mainGlobals mg) : CalK P w (lessK K) mg base 3 (sOf [114, 101, 102, 108, 101, 99, 116, 101, 100, 95, 115, 116, 101, 112]) (([[114, 111, 119], [115, 105, 122, 101, 115]] : List (List Nat)).map sOf) [1, 0] f_reflected_step := by
  obtain ⟨fd, D⟩ := c.d.def_ 13 (d := d_reflected_step) rfl
  exact calK_G (nm := "reflected_step") (st := top 21) (ps := ["sizes", "row"]) D (g_reflected_step c X G D) (He.glo_ok X G (c.d.fact 13 (f := .glo "reflected_step") rfl)) rfl (by decide) (fun kV doc pm an cdv ct us hl => match us, hl with | [_, _], _ => rfl)
theorem g_law (c : Fx K) (X : K.In h) (G : h.Ns mainGlobals mg) {fd : FuncData} (D : FunS K "law" (top 35) (He.fAd K ("law", none)) fd) : FnG P w (lessK K) mg base 5 (He.fAd K ("law", none)) fd ["script"] f_law := by
  have e : needsSs b_law = [.call [95, 108, 97, 119, 95, 112, 111, 116] f__law_pot, .call [95, 108, 97, 119, 95, 111, 102] f__law_of, .call [95, 108, 97, 119, 95, 111, 110, 101] f__law_one, .call [95, 108, 97, 119, 95, 111, 110, 101] f__law_one, .call [95, 108, 97, 119, 95, 111, 102] f__law_of, .call [95, 108, 97, 119, 95, 111, 110, 101] f__law_one, .call [95, 108, 97, 119, 95, 111, 102] f__law_of, .call [95, 108, 97, 119, 95, 111, 102] f__law_of, .call [95, 108, 97, 119, 95, 111, 102] f__law_of, .call [95, 108, 97, 119, 95, 114, 101, 102, 108, 101, 99, 116, 101, 100] f__law_reflected, .call [114, 101, 102, 108, 101, 99, 116, 101, 100, 95, 114, 111, 119] f_reflected_row, .call [114, 101, 102, 108, 101, 99, 116, 101, 100, 95, 112, 108, 97, 99, 101] f_reflected_place, .call [100, 105, 103, 105, 116, 95, 114, 111, 119, 115, 95, 110, 117, 109, 98, 101, 114] f_digit_rows_number, .callk [114, 101, 102, 108, 101, 99, 116, 101, 100, 95, 114, 111, 119] [[112, 108, 97, 99, 101], [115, 105, 122, 101, 115]] f_reflected_row [1, 0], .callk [114, 101, 102, 108, 101, 99, 116, 101, 100, 95, 112, 108, 97, 99, 101] [[114, 111, 119], [115, 105, 122, 101, 115]] f_reflected_place [1, 0], .callk [100, 105, 103, 105, 116, 95, 114, 111, 119, 115, 95, 110, 117, 109, 98, 101, 114] [[115, 105, 122, 101, 115]] f_digit_rows_number [0], .call [100, 105, 103, 105, 116, 95, 114, 111, 119, 95, 101, 114, 114, 111, 114] f_digit_row_error, .call [102, 111, 99, 117, 115, 95, 97, 116] f_focus_at, .callk [102, 111, 99, 117, 115, 95, 97, 116] [[112, 108, 97, 99, 101], [115, 105, 122, 101, 115]] f_focus_at [1, 0], .call [102, 111, 99, 117, 115, 95, 101, 114, 114, 111, 114] f_focus_error, .callk [102, 111, 99, 117, 115, 95, 101, 114, 114, 111, 114] [[118, 97, 108, 117, 101], [115, 105, 122, 101, 115]] f_focus_error [1, 0], .call [95, 108, 97, 119, 95, 114, 101, 102, 108, 101, 99, 116, 101, 100] f__law_reflected, .call [95, 108, 97, 119, 95, 117, 110, 108, 105, 107, 101] f__law_unlike, .call [114, 101, 102, 108, 101, 99, 116, 101, 100, 95, 115, 116, 101, 112] f_reflected_step, .callk [114, 101, 102, 108, 101, 99, 116, 101, 100, 95, 115, 116, 101, 112] [[114, 111, 119], [115, 105, 122, 101, 115]] f_reflected_step [1, 0], .call [95, 108, 97, 119, 95, 116, 111, 108, 100] f__law_told, .call [102, 111, 99, 117, 115, 95, 97, 116] f_focus_at, .call [102, 111, 99, 117, 115, 95, 101, 114, 114, 111, 114] f_focus_error, .call [102, 111, 99, 117, 115, 95, 101, 114, 114, 111, 114] f_focus_error, .call [102, 111, 99, 117, 115, 95, 101, 114, 114, 111, 114] f_focus_error, .call [95, 108, 97, 119, 95, 116, 111, 108, 100] f__law_told, .call [114, 101, 102, 108, 101, 99, 116, 101, 100, 95, 115, 116, 101, 112] f_reflected_step, .call [102, 111, 99, 117, 115, 95, 98, 101, 103, 105, 110] f_focus_begin, .call [95, 108, 97, 119, 95, 105, 115, 95, 116, 117, 114, 110, 101, 100, 95, 114, 105, 103, 104, 116] f__law_is_turned_right] := by kernel_rfl
  exact def_G (ns := ["script", "pot", "turn", "sizes", "size", "place", "row", "told", "named", "back", "state", "m", "top", "kept", "whole", "after", "bad", "due", "later", "ways", "i", "own"]) D rfl (by decide +kernel) (by decide +kernel) (free c X G) (by rw [e]; exact all_cons ((c__law_pot c X G).mono (by decide)) (all_cons ((c__law_of c X G).mono (by decide)) (all_cons ((c__law_one c X G).mono (by decide)) (all_cons ((c__law_one c X G).mono (by decide)) (all_cons ((c__law_of c X G).mono (by decide)) (all_cons ((c__law_one c X G).mono (by decide)) (all_cons ((c__law_of c X G).mono (by decide)) (all_cons ((c__law_of c X G).mono (by decide)) (all_cons ((c__law_of c X G).mono (by decide)) (all_cons ((c__law_reflected c X G).mono (by decide)) (all_cons ((c_reflected_row c X G).mono (by decide)) (all_cons ((c_reflected_place c X G).mono (by decide)) (all_cons ((c_digit_rows_number c X G).mono (by decide)) (all_cons ((k_reflected_row_1_0 c X G).mono (by decide)) (all_cons ((k_reflected_place_1_0 c X G).mono (by decide)) (all_cons ((k_digit_rows_number_0 c X G).mono (by decide)) (all_cons ((c_digit_row_error c X G).mono (by decide)) (all_cons ((c_focus_at c X G).mono (by decide)) (all_cons ((k_focus_at_1_0 c X G).mono (by decide)) (all_cons ((c_focus_error c X G).mono (by decide)) (all_cons ((k_focus_error_1_0 c X G).mono (by decide)) (all_cons ((c__law_reflected c X G).mono (by decide)) (all_cons ((c__law_unlike c X G).mono (by decide)) (all_cons ((c_reflected_step c X G).mono (by decide)) (all_cons ((k_reflected_step_1_0 c X G).mono (by decide)) (all_cons ((c__law_told c X G).mono (by decide)) (all_cons ((c_focus_at c X G).mono (by decide)) (all_cons ((c_focus_error c X G).mono (by decide)) (all_cons ((c_focus_error c X G).mono (by decide)) (all_cons ((c_focus_error c X G).mono (by decide)) (all_cons ((c__law_told c X G).mono (by decide)) (all_cons ((c_reflected_step c X G).mono (by decide)) (all_cons ((c_focus_begin c X G).mono (by decide)) (all_cons ((c__law_is_turned_right c X G).mono (by decide)) (all_nil)))))))))))))))))))))))))))))))))))
theorem c_law (c : Fx K) (X : K.In h) (G : h.Ns mainGlobals mg) : CalG P w (lessK K) mg base 5 (sOf [108, 97, 119]) f_law := by
  obtain ⟨fd, D⟩ := c.d.def_ 26 (d := d_law) rfl
  exact cal_G (nm := "law") (st := top 35) D (g_law c X G D) (He.glo_ok X G (c.d.fact 26 (f := .glo "law") rfl)) (fun kV doc pm an cdv ct us hl => match us, hl with | [_], _ => rfl)
end
abbrev R : PySem.W.OpenRow := PySem.W.OpenLaw.row PySem.Challenge.rw_nearlists_k93_whole_focus_and_reflected
abbrev hk : PySem.W.Hook := hookY 4 fa fn ex
def ob (s : PySem.W.SharedT) : He.AlD × Bool := obsY 4 fa fn ex (HandSHeadRun.getT s)
theorem ob_eq (s : PySem.W.SharedT) : ob s = hk.obs s.abs := obsY_eq (HandSHeadRun.getT_eq s)
def ls0 : List Str := ["products_of", "ListError", "Unfit", "focus_begin", "focus_next", "pointers_by", "focus_at", "row_place", "are_within", "focus_error", "is_integer", "digit_row_error", "digit_rows_number", "rests_of", "reflected_row", "reflected_place", "reflected_step", "turned_row", "turned_row_place", "does_turned_close", "_law_pot", "_law_of", "_law_one", "_law_unlike", "_law_reflected", "_law_turned", "_law_told", "_law_is_turned_right"]
def ls : List Str := ls0
theorem run (w : World) : HandSHeadRun.RunEq R (PySem.W.view R.prog [35]) hk ob 1840 ls w := by
  intro os
  kernel_rfl
open PySem PySem.W PySem.Calls PyProof.Rows in
theorem holds (says : ∀ ns : List Int, ns.length ≤ 63 → (∀ z ∈ ns, Builtin.Int.intBits z ≤ 1048576) → ∃ S', f_law [.ref 0] [.scr ns] = some (.bl true, S')) : PySem.Challenge.rw_nearlists_k93_whole_focus_and_reflected.Holds := by
  w_on; o_law
  refine HandSHeadRun.head_any (r := OpenLaw.row PySem.Challenge.rw_nearlists_k93_whole_focus_and_reflected) (q := view (OpenLaw.row PySem.Challenge.rw_nearlists_k93_whole_focus_and_reflected).prog [35]) (H := hk) (ob := ob) (M := 1840) (loose := ls) (d := HandSHeadRun.topDef (OpenLaw.row PySem.Challenge.rw_nearlists_k93_whole_focus_and_reflected).prog 35) (kwd := []) ob_eq
    (by kernel_rfl) (fun s => by kernel_rfl) run (by kernel_rfl) (by kernel_rfl) (by kernel_rfl) (by rfl) (by first | assumption | decide +kernel) (by decide +kernel) ⟨rfl, rfl, rfl, rfl, rfl, by decide +kernel⟩ ?hw ?hc
  case hw => w_witness2
  case hc =>
    refine walk_G (l := PySem.Challenge.rw_nearlists_k93_whole_focus_and_reflected) (n := 63) (k := 5) (x := "script") rfl (by decide) (by kernel_rfl) ⟨rfl, by decide, by decide⟩ ?F
    intro w mg fad h Y G hmg0
    obtain ⟨K, KX, c0, c1⟩ := Y
    have c : Fx K := ⟨c0, c1⟩
    have hmg : mg ("law" : PySem.Str) = some (.ref fad) := by
      have e : (HandSHeadRun.topDef (OpenLaw.row PySem.Challenge.rw_nearlists_k93_whole_focus_and_reflected).prog 35).name = ("law" : PySem.Str) := by kernel_rfl
      rw [← e]
      exact hmg0
    obtain ⟨fd, D⟩ := c.d.def_ 26 (d := d_law) rfl
    have e := hmg.symm.trans (He.glo_ok KX G (c.d.fact 26 (f := .glo "law") rfl))
    cases e
    have b : BindP "law" (top 35) ["script"] := fun kV doc pm an cdv ct us hl => match us, hl with | [_], _ => rfl
    exact ⟨lessK K, fd, f_law, less_in KX, less_row K, fun s u => .of_eq (bindP_of (nm := "law") (st := top 35) D b [u] rfl), says, fun base _ _ => g_law c KX G D⟩
end K93
end N
theorem PySem.Challenge.cw_nearlists_k93_whole_focus_and_reflected_holds : PySem.Challenge.rw_nearlists_k93_whole_focus_and_reflected.Holds := by
  exact N.K93.holds fun ns h _ => N.K93.says ns h
