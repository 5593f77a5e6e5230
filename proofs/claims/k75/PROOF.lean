import PyProof.Rows.All
import Wide.All
import OpenK.AllK
import Wide.FinOn
import HandS.ForMost
import HandS.Wide
import HandS.WideBits
import HandS.TupAny
import HandS.TupMul
import HandS.Style
import HandS.Deep
import PyProof.ListMulRoad
import PyProof.FactsAll.tuple_2
import HandS.Flow
import HandS.NoneIn
import HandS.TupLen
import HandS.WordsDict
import HandS.IsInst
import HandS.RaiseMore
import KE.DataMinMax
import KE.DataAny
import KE.KTupSum
import KE.SortData
import PyProof.ReprBulk
import PyProof.Rows.TupReads
import HandS.Codes
import HandS.Zip
import HandS.Iter
import HandS.Comp
import HandS.Conv
import HandS.More
import HandS.SetFor
import HandS.TupSets
import KE.GoesMore
import KE.GoesEnum
import KE.KIndexWalk
import KE.KItemsList
import HandS.DictComp
import HandS.EndBits
import HandS.HeadHook2
import HandS.HeadEnd
import KE.KStateDown
import HandS.Head0
import HandS.Head1
import HandS.Head2
import HandS.Ends
import HandS.Words
import HandS.WordsExc
import HandS.Defaults
import HandS.HeadHook1
import PySem.Challenge.RW_nearlists_k75_whole_flipped_and_steps
set_option Elab.async false
/-! NSem: a small evaluator for the part of Python that the program and the laws are written in. Values are trees, lists and dicts stand in a store. Pure Lean. -/
set_option autoImplicit false
namespace N

/-- a value: scalars, tuples; ref n: the object n of the store; lst: a list told as a tree (never a live value); rep d: the text that repr gives of the tree d -/
inductive D where
  | non | bl (b : Bool) | int (i : Int) | str (s : List Nat) | tup (xs : List D) | lst (xs : List D) | ref (n : Nat) | rep (d : D)

mutual
def D.eqv : D → D → Bool
  | .non, .non => true
  | .bl a, .bl b => a == b
  | .int a, .int b => decide (a = b)
  | .str a, .str b => decide (a = b)
  | .tup a, .tup b => D.eqvs a b
  | .lst a, .lst b => D.eqvs a b
  | .ref a, .ref b => a == b
  | .rep a, .rep b => D.eqv a b
  | _, _ => false
def D.eqvs : List D → List D → Bool
  | [], [] => true
  | a :: as, b :: bs => D.eqv a b && D.eqvs as bs
  | _, _ => false
end
mutual
theorem D.eqv_iff : ∀ a b : D, D.eqv a b = true ↔ a = b
  | .non, b => by cases b <;> simp [D.eqv]
  | .bl a, b => by cases b <;> simp [D.eqv]
  | .int a, b => by cases b <;> simp [D.eqv]
  | .str a, b => by cases b <;> simp [D.eqv]
  | .ref a, b => by cases b <;> simp [D.eqv]
  | .tup a, b => by cases b <;> simp [D.eqv, D.eqvs_iff]
  | .lst a, b => by cases b <;> simp [D.eqv, D.eqvs_iff]
  | .rep a, b => by cases b <;> simp [D.eqv, D.eqv_iff]
theorem D.eqvs_iff : ∀ a b : List D, D.eqvs a b = true ↔ a = b
  | [], b => by cases b <;> simp [D.eqvs]
  | x :: xs, b => by cases b <;> simp [D.eqvs, D.eqv_iff, D.eqvs_iff]
end
instance : DecidableEq D := fun a b => decidable_of_iff _ (D.eqv_iff a b)

/-- what stands in the store. scr: the law's script, read only; ftp: a tuple that is known as an object, too -/
inductive O where
  | lst (xs : List D) | dct (kvs : List (D × D)) | set (xs : List D) | scr (ns : List Int) | ftp (xs : List D) | dead
  deriving DecidableEq

abbrev Sto := List O
abbrev Env := List (Option D)
abbrev Fn := List D → Sto → Option (D × Sto)

/-! ### references -/
mutual
/-- every reference in it is below n -/
def D.lo (n : Nat) : D → Bool
  | .ref m => decide (m < n)
  | .tup xs => D.los n xs
  | .lst xs => D.los n xs
  | _ => true
def D.los (n : Nat) : List D → Bool
  | [] => true
  | x :: xs => D.lo n x && D.los n xs
end
mutual
def D.shift (k : Nat) : D → D
  | .ref m => .ref (m + k)
  | .tup xs => .tup (D.shifts k xs)
  | .lst xs => .lst (D.shifts k xs)
  | d => d
def D.shifts (k : Nat) : List D → List D
  | [] => []
  | x :: xs => D.shift k x :: D.shifts k xs
end
def O.lo (n : Nat) : O → Bool
  | .lst xs => D.los n xs
  | .dct kvs => kvs.all fun p => D.lo n p.1 && D.lo n p.2
  | .set xs => D.los n xs
  | .ftp xs => D.los n xs
  | _ => true
def O.shift (k : Nat) : O → O
  | .lst xs => .lst (D.shifts k xs)
  | .dct kvs => .dct (kvs.map fun p => (D.shift k p.1, D.shift k p.2))
  | .set xs => .set (D.shifts k xs)
  | .ftp xs => .ftp (D.shifts k xs)
  | o => o

/-! ### trees of values -/
def mapO {α β : Type} (f : α → Option β) : List α → Option (List β)
  | [] => some []
  | x :: xs => match f x with
    | none => none
    | some y => match mapO f xs with
      | none => none
      | some ys => some (y :: ys)
/-- the tree of a value; n bounds the depth -/
def rd : Nat → Sto → D → Option D
  | _, _, .non => some .non
  | _, _, .bl b => some (.bl b)
  | _, _, .int i => some (.int i)
  | _, _, .str s => some (.str s)
  | n + 1, S, .tup xs => (mapO (rd n S) xs).map .tup
  | n + 1, S, .ref a => match S[a]? with
    | some (.lst xs) => (mapO (rd n S) xs).map .lst
    | some (.ftp xs) => (mapO (rd n S) xs).map .tup
    | _ => none
  | _, _, _ => none
/-- the depth to which trees are read -/
abbrev RD : Nat := 60
mutual
/-- == of trees as Python has it (True is 1) -/
def D.pyeq : D → D → Bool
  | .non, .non => true
  | .bl a, .bl b => a == b
  | .bl a, .int j => decide ((if a then 1 else 0) = j)
  | .int i, .bl b => decide (i = (if b then 1 else 0))
  | .int a, .int b => decide (a = b)
  | .str a, .str b => decide (a = b)
  | .tup a, .tup b => D.pyeqs a b
  | .lst a, .lst b => D.pyeqs a b
  | _, _ => false
def D.pyeqs : List D → List D → Bool
  | [], [] => true
  | a :: as, b :: bs => D.pyeq a b && D.pyeqs as bs
  | _, _ => false
end
/-- signs that a tree's texts may have -/
def okStr (s : List Nat) : Bool := s.all fun c => decide (c < 55296)
mutual
def D.okS : D → Bool
  | .str s => okStr s
  | .tup xs => D.okSs xs
  | .lst xs => D.okSs xs
  | _ => true
def D.okSs : List D → Bool
  | [] => true
  | x :: xs => D.okS x && D.okSs xs
end
mutual
/-- the size of a tree's text -/
def D.bulk : D → Nat
  | .str s => s.length
  | .tup xs => D.bulks xs
  | .lst xs => D.bulks xs
  | _ => 0
def D.bulks : List D → Nat
  | [] => 0
  | x :: xs => D.bulk x + 1 + D.bulks xs
end
mutual
/-- the ints are short -/
def D.shw : D → Bool
  | .int i => decide (i.natAbs.log2 < 320)
  | .tup xs => D.shws xs
  | .lst xs => D.shws xs
  | _ => true
def D.shws : List D → Bool
  | [] => true
  | x :: xs => D.shw x && D.shws xs
end
/-- a == b -/
def eqV (S : Sto) : D → D → Option Bool
  | .int i, .int j => some (decide (i = j))
  | .str x, .str y => some (decide (x = y))
  | .bl x, .bl y => some (decide (x = y))
  | .non, .non => some true
  | .rep x, .rep y => if D.eqv x y then some true else none
  | a, b => match rd RD S a, rd RD S b with
    | some x, some y => if D.okS x && D.okS y then some (D.pyeq x y) else none
    | _, _ => none

/-! ### operators -/
inductive Op2 | add | sub | mul | fdiv | mod | pow | shl | shr | band | bor | bxor
  deriving DecidableEq
inductive Cmp | eq | ne | lt | le | gt | ge | is | isnt | inn | nin
  deriving DecidableEq
abbrev line : Nat := 16777216
def new (S : Sto) (o : O) : Option (D × Sto) := some (.ref S.length, S ++ [o])
def mulOk (i j : Int) : Bool := decide (i.natAbs < 18446744073709551616) || (decide (j.natAbs < 18446744073709551616) || decide (i.natAbs.log2 + j.natAbs.log2 < 1000000))
def powOk (i j : Int) : Bool := decide (0 ≤ j) && (decide (j ≤ 1000000) && decide (i.natAbs < 18446744073709551616))
def divOk (j : Int) : Bool := decide (0 < j) && decide (j.natAbs.log2 < 9000)
def repL (k : Int) (xs : List D) : List D := (List.replicate k.toNat xs).flatten
def binI (S : Sto) : Op2 → D → D → Option (D × Sto)
  | .add, .int i, .int j => some (.int (i + j), S)
  | .add, .tup xs, .tup ys => if xs.length + ys.length ≤ line then some (.tup (xs ++ ys), S) else none
  | .add, .ref m, .ref n => match S[m]?, S[n]? with
    | some (.lst xs), some (.lst ys) => if xs.length + ys.length ≤ line then new S (.lst (xs ++ ys)) else none
    | _, _ => none
  | .add, .str x, .str y => if x.length + y.length ≤ line then some (.str (x ++ y), S) else none
  | .sub, .int i, .int j => some (.int (i - j), S)
  | .mul, .int i, .int j => if mulOk i j then some (.int (i * j), S) else none
  | .mul, .tup xs, .int k => if decide (xs.length ≤ 1000) && (decide (-1000000 ≤ k) && decide (k ≤ 1000)) then some (.tup (repL k xs), S) else none
  | .mul, .ref m, .int k => match S[m]? with
    | some (.lst xs) => if decide (k ≤ 1000000) && (decide (-1000000 ≤ k) && decide (xs.length * k.toNat ≤ line)) then new S (.lst (repL k xs)) else none
    | _ => none
  | .fdiv, .int i, .int j => if divOk j then some (.int (i / j), S) else none
  | .mod, .int i, .int j => if decide (0 < j) then some (.int (i % j), S) else none
  | .pow, .int i, .int j => if powOk i j then some (.int (i ^ j.toNat), S) else none
  | .shl, .int i, .int j => if powOk i j then some (.int (i * 2 ^ j.toNat), S) else none
  | .shr, .int i, .int j => if decide (0 ≤ j) then some (.int (i / 2 ^ j.toNat), S) else none
  | .band, .int i, .int j => if decide (0 ≤ i) && decide (0 ≤ j) then some (.int (i.toNat &&& j.toNat : Nat), S) else none
  | .bor, .int i, .int j => if decide (0 ≤ i) && decide (0 ≤ j) then some (.int (i.toNat ||| j.toNat : Nat), S) else none
  | .bxor, .int i, .int j => if decide (0 ≤ i) && decide (0 ≤ j) then some (.int (i.toNat ^^^ j.toNat : Nat), S) else none
  | _, _, _ => none

/-- truth -/
def tru (S : Sto) : D → Option Bool
  | .non => some false
  | .bl b => some b
  | .int i => some (decide (i ≠ 0))
  | .tup xs => some (!xs.isEmpty)
  | .ref n => match S[n]? with
    | some (.lst xs) => some (!xs.isEmpty)
    | _ => none
  | _ => none

/-- a dict's value -/
def dget (kvs : List (D × D)) (k : D) : Option D := (kvs.find? fun p => D.eqv p.1 k).map (·.2)
def dput (kvs : List (D × D)) (k v : D) : List (D × D) :=
  if kvs.any fun p => D.eqv p.1 k then kvs.map fun p => if D.eqv p.1 k then (p.1, v) else p else kvs ++ [(k, v)]
def pairsD : List D → Option (List (D × D))
  | [] => some []
  | [_] => none
  | x :: y :: r => (pairsD r).map ((x, y) :: ·)
def dputs (kvs ps : List (D × D)) : List (D × D) := ps.foldl (fun acc p => dput acc p.1 p.2) kvs
/-- a key of a dict: an int, a text; tuples of these -/
def keyK : D → Bool
  | .int _ => true
  | .str _ => true
  | _ => false
def keyT : D → Bool
  | .tup xs => xs.all keyK
  | _ => false
/-- the keys of a dict are all of one of both kinds, and so is k -/
def keysOk (kvs : List (D × D)) (k : D) : Bool := match kvs with
  | [] => keyK k || keyT k
  | p :: _ => (keyK p.1 && keyK k) || (keyT p.1 && keyT k)

def anyEq (S : Sto) (x : D) : List D → Option Bool
  | [] => some false
  | y :: ys => match eqV S y x with
    | none => none
    | some true => some true
    | some false => anyEq S x ys
/-- all trees of the items, and of x: x in items -/
def inI (S : Sto) (x c : D) : Option Bool := match c with
  | .tup _ => match rd RD S c, rd RD S x with
    | some (.tup ts), some t => if D.okSs ts && D.okS t then some (ts.any fun y => D.pyeq y t) else none
    | _, _ => none
  | .ref n => match S[n]? with
    | some (.lst _) => match rd RD S c, rd RD S x with
      | some (.lst ts), some t => if D.okSs ts && D.okS t then some (ts.any fun y => D.pyeq y t) else none
      | _, _ => none
    | some (.dct kvs) => if keysOk kvs x then some (dget kvs x).isSome else none
    | _ => none
  | _ => none
def cmpI (S : Sto) : Cmp → D → D → Option Bool
  | .eq, a, b => eqV S a b
  | .ne, a, b => (eqV S a b).map (!·)
  | .lt, .int i, .int j => some (decide (i < j))
  | .le, .int i, .int j => some (decide (i ≤ j))
  | .gt, .int i, .int j => some (decide (j < i))
  | .ge, .int i, .int j => some (decide (j ≤ i))
  | .is, a, .non => some (decide (a = .non))
  | .isnt, a, .non => some (!decide (a = .non))
  | .is, .bl a, .bl b => some (decide (a = b))
  | .isnt, .bl a, .bl b => some (!decide (a = b))
  | .inn, a, b => inI S a b
  | .nin, a, b => (inI S a b).map (!·)
  | _, _, _ => none

/-! ### subscripts, slices -/
def ixN (n : Nat) (i : Int) : Option Nat := if 0 ≤ i then (if i < n then some i.toNat else none) else if -(n : Int) ≤ i then some (i + n).toNat else none
def idxI (S : Sto) : D → D → Option D
  | .tup xs, .int i => (ixN xs.length i).bind fun j => xs[j]?
  | .ref n, .int i => match S[n]? with
    | some (.lst xs) => (ixN xs.length i).bind fun j => xs[j]?
    | some (.dct kvs) => if keysOk kvs (.int i) then dget kvs (.int i) else none
    | _ => none
  | .ref n, k => match S[n]? with
    | some (.dct kvs) => if keysOk kvs k then dget kvs k else none
    | _ => none
  | _, _ => none
/-- an end of a slice by ones, d where it is not written -/
def sIx (n d : Nat) : Option Int → Nat
  | none => d
  | some i => if i < 0 then (i + n).toNat else min i.toNat n
def cut {α : Type} (xs : List α) (lo hi : Option Int) : List α := (xs.drop (sIx xs.length 0 lo)).take (sIx xs.length xs.length hi - sIx xs.length 0 lo)
def optI : D → Option (Option Int)
  | .non => some none
  | .int i => some (some i)
  | _ => none
/-- xs[lo:hi:st]: by ones; from the end whole or down to a written place above 0 -/
def slc {α : Type} (xs : List α) (lo hi st : Option Int) : Option (List α) := match st with
  | none => some (cut xs lo hi)
  | some st => if st = 1 then some (cut xs lo hi) else if st = -1 then (match lo, hi with
    | none, none => some xs.reverse
    | none, some j => if 0 ≤ j then some (xs.drop (j.toNat + 1)).reverse else none
    | _, _ => none) else none
def slcI (S : Sto) (a lo hi st : D) : Option (D × Sto) := match optI lo, optI hi, optI st with
  | some lo, some hi, some st => match a with
    | .tup xs => match slc xs lo hi st with
      | some ys => some (.tup ys, S)
      | none => none
    | .ref n => match S[n]? with
      | some (.lst xs) => match slc xs lo hi st with
        | some ys => new S (.lst ys)
        | none => none
      | some (.scr ns) => match slc ns lo hi st with
        | some ys => new S (.lst (ys.map .int))
        | none => none
      | some (.ftp xs) => if decide (st = none) then (if decide (sIx xs.length 0 lo = 0 ∧ sIx xs.length xs.length hi = xs.length) then some (.ref n, S) else new S (.ftp (cut xs lo hi))) else none
      | _ => none
    | _ => none
  | _, _, _ => none
/-- o[i] = v -/
def setI (S : Sto) (o i v : D) : Option Sto := match o with
  | .ref n => match S[n]? with
    | some (.lst xs) => match i with
      | .int i => (ixN xs.length i).map fun j => S.set n (.lst (xs.set j v))
      | _ => none
    | some (.dct kvs) => if keysOk kvs i && decide (kvs.length < line) then some (S.set n (.dct (dput kvs i v))) else none
    | _ => none
  | _ => none

/-! ### built-ins -/
inductive Ty | int | bool | str | tuple | list
  deriving DecidableEq
inductive Blt | len | abs | max | min | sum | all | any | int | str | tuple | list | sorted | repr | isi (t : Ty) | set | ftuple
  deriving DecidableEq
def intsD : List D → Option (List Int)
  | [] => some []
  | .int i :: xs => (intsD xs).map (i :: ·)
  | _ :: _ => none
def boolsD : List D → Option (List Bool)
  | [] => some []
  | .bl i :: xs => (boolsD xs).map (i :: ·)
  | _ :: _ => none
def maxI : List Int → Int
  | [] => 0
  | x :: xs => xs.foldl (fun a b => if b > a then b else a) x
def minI : List Int → Int
  | [] => 0
  | x :: xs => xs.foldl (fun a b => if b < a then b else a) x
/-- the items of a list or a tuple -/
def itemsI (S : Sto) : D → Option (List D)
  | .tup xs => some xs
  | .ref n => match S[n]? with
    | some (.lst xs) => some xs
    | _ => none
  | _ => none
def isiI (S : Sto) : Ty → D → Option Bool
  | .int, .int _ => some true
  | .int, .bl _ => some true
  | .bool, .bl _ => some true
  | .str, .str _ => some true
  | .tuple, .tup _ => some true
  | .list, .ref n => match S[n]? with
    | some (.lst _) => some true
    | _ => none
  | _, .ref n => match S[n]? with
    | some (.lst _) => some false
    | _ => none
  | _, .rep _ => none
  | _, .lst _ => none
  | _, _ => some false
/-! the order of trees of one kind -/
mutual
def D.lt : D → D → Option Bool
  | .int i, .int j => some (decide (i < j))
  | .str x, .str y => some (decide (x < y))
  | .tup xs, .tup ys => D.lts xs ys
  | _, _ => none
def D.lts : List D → List D → Option Bool
  | [], [] => some false
  | [], _ :: _ => some true
  | _ :: _, [] => some false
  | x :: xs, y :: ys => if D.eqv x y then D.lts xs ys else D.lt x y
end
def lenI (S : Sto) : List D → Option (D × Sto)
  | [.str s] => if s.length ≤ line then some (.int s.length, S) else none
  | [.ref n] => match S[n]? with
    | some (.lst xs) => some (.int xs.length, S)
    | some (.scr xs) => some (.int xs.length, S)
    | some (.dct xs) => some (.int xs.length, S)
    | some (.set xs) => some (.int xs.length, S)
    | _ => none
  | [.tup xs] => some (.int xs.length, S)
  | _ => none
def absI (S : Sto) : List D → Option (D × Sto)
  | [.int i] => some (.int (if i < 0 then -i else i), S)
  | _ => none
def maxB (S : Sto) : List D → Option (D × Sto)
  | [.int i, .int j] => some (.int (if j > i then j else i), S)
  | [a] => match (itemsI S a).bind intsD with
    | some (x :: xs) => some (.int (maxI (x :: xs)), S)
    | _ => none
  | _ => none
def minB (S : Sto) : List D → Option (D × Sto)
  | [.int i, .int j] => some (.int (if j < i then j else i), S)
  | [a] => match (itemsI S a).bind intsD with
    | some (x :: xs) => some (.int (minI (x :: xs)), S)
    | _ => none
  | _ => none
def sumB (S : Sto) : List D → Option (D × Sto)
  | [a] => match (itemsI S a).bind intsD with
    | some xs => some (.int xs.sum, S)
    | none => none
  | _ => none
def allB (S : Sto) : List D → Option (D × Sto)
  | [a] => match (itemsI S a).bind boolsD with
    | some xs => some (.bl (xs.all id), S)
    | none => none
  | _ => none
def anyB (S : Sto) : List D → Option (D × Sto)
  | [a] => match (itemsI S a).bind boolsD with
    | some xs => some (.bl (xs.any id), S)
    | none => none
  | _ => none
def intB (S : Sto) : List D → Option (D × Sto)
  | [.int i] => some (.int i, S)
  | [.bl b] => some (.int (if b then 1 else 0), S)
  | _ => none
def tupB (S : Sto) : List D → Option (D × Sto)
  | [a] => match itemsI S a with
    | some xs => some (.tup xs, S)
    | none => none
  | _ => none
def lstB (S : Sto) : List D → Option (D × Sto)
  | [a] => match itemsI S a with
    | some xs => new S (.lst xs)
    | none => none
  | _ => none
def repB (S : Sto) : List D → Option (D × Sto)
  | [a] => match rd RD S a with
    | some t => if D.okS t && (D.shw t && decide (D.bulk t ≤ 50000)) then some (.rep t, S) else none
    | none => none
  | _ => none
def isiB (S : Sto) (t : Ty) : List D → Option (D × Sto)
  | [a] => match isiI S t a with
    | some b => some (.bl b, S)
    | none => none
  | _ => none
/-- tuple(xs) of a list: a tuple known as an object -/
def ftpB (S : Sto) : List D → Option (D × Sto)
  | [.ref n] => match S[n]? with
    | some (.lst xs) => new S (.ftp xs)
    | _ => none
  | _ => none
def insI (x : Int) : List Int → List Int
  | [] => [x]
  | y :: ys => if x ≤ y then x :: y :: ys else y :: insI x ys
/-- ints, ascending -/
def sortI (xs : List Int) : List Int := xs.foldr insI []
mutual
/-- the order of trees alike -/
def D.ltb : D → D → Bool
  | .int i, .int j => decide (i < j)
  | .tup xs, .tup ys => D.ltbs xs ys
  | _, _ => false
def D.ltbs : List D → List D → Bool
  | [], [] => false
  | [], _ :: _ => true
  | _ :: _, [] => false
  | x :: xs, y :: ys => if D.eqv x y then D.ltbs xs ys else D.ltb x y
end
mutual
/-- trees of ints that can be put in order -/
def D.alk : D → D → Bool
  | .int _, .int _ => true
  | .tup xs, .tup ys => D.alks xs ys
  | _, _ => false
def D.alks : List D → List D → Bool
  | [], _ => true
  | _, [] => true
  | x :: xs, y :: ys => D.alk x y && D.alks xs ys
end
/-- a row of ints, not bare -/
def rowD : D → Bool
  | .tup (x :: xs) => (intsD (x :: xs)).isSome
  | _ => false
/-- a tuple, not bare -/
def nbD : D → Bool
  | .tup (_ :: _) => true
  | _ => false
/-- trees, ascending -/
def sortD (xs : List D) : List D := xs.mergeSort fun a b => !D.ltb b a
def srtOk (xs : List D) : Bool := xs.all rowD || (xs.all nbD && xs.all fun x => xs.all fun y => D.alk x y)
/-- sorted(xs), xs a list -/
def srtB (S : Sto) : List D → Option (D × Sto)
  | [.ref n] => match S[n]? with
    | some (.lst xs) => match intsD xs with
      | some ns => new S (.lst ((sortI ns).map .int))
      | none => match mapO (rd RD S) xs with
        | none => none
        | some ts => if decide (ts = xs) && srtOk xs then new S (.lst (sortD xs)) else none
    | _ => none
  | _ => none
def bltI (S : Sto) (b : Blt) (ds : List D) : Option (D × Sto) := match b with
  | .len => lenI S ds
  | .abs => absI S ds
  | .max => maxB S ds
  | .min => minB S ds
  | .sum => sumB S ds
  | .all => allB S ds
  | .any => anyB S ds
  | .int => intB S ds
  | .tuple => tupB S ds
  | .list => lstB S ds
  | .repr => repB S ds
  | .isi t => isiB S t ds
  | .str => none
  | .sorted => srtB S ds
  | .set => none
  | .ftuple => ftpB S ds

def rowsD : List D → Option (List (List Int))
  | [] => some []
  | .tup xs :: r => match intsD xs with
    | none => none
    | some ns => (rowsD r).map (ns :: ·)
  | _ :: _ => none
/-- each once -/
def nub {α : Type} [DecidableEq α] : List α → List α
  | [] => []
  | x :: xs => if x ∈ xs then nub xs else x :: nub xs
/-- len(set(xs)): ints; a short list of rows of ints -/
def setlenI (S : Sto) (x : D) : Option Nat := match itemsI S x with
  | none => none
  | some xs => match intsD xs with
    | some ns => if decide (ns.length ≤ 4000) then some (nub ns).length else none
    | none => match x with
      | .ref _ => match rowsD xs with
        | some rs => if decide (rs.length < 64) then some (nub rs).length else none
        | none => none
      | _ => none
/-! ### the program's text -/
inductive Mth | append | extend | insert | pop | count | index | get | tcount | tindex
  deriving DecidableEq
inductive Ex where
  | abs | non | bl (b : Bool) | int (i : Int) | str (s : List Nat)
  | var (i : Nat) | glo (x : List Nat) (v : D)
  | bin (op : Op2) (a b : Ex) | neg (a : Ex) | not (a : Ex) | and (a : Ex) (es : List Ex) | or (a : Ex) (es : List Ex)
  | cmp (a : Ex) (os : List Cmp) (bs : List Ex) | ife (c a b : Ex)
  | tup (es : List Ex) | lst (es : List Ex) | idx (a i : Ex) | slc (a lo hi st : Ex)
  | call (x : List Nat) (f : Fn) (es : List Ex)
  | callk (x : List Nat) (ks : List (List Nat)) (f : Fn) (perm : List Nat) (es : List Ex)
  | blt (b : Blt) (es : List Ex) | setlen (a : Ex) | meth (m : Mth) (o : Ex) (es : List Ex)
  | rngT (es : List Ex) | rngL (es : List Ex)
  | comp (elt tg it c : Ex) (own : List Nat)
  | dcomp (k v tg it c : Ex) (own : List Nat)
  /-- key, value, key, value, .. -/
  | dict (kvs : List Ex)
  /- what is walked -/
  | wk (a : Ex) | rng (es : List Ex) | enum (a : Ex) | enumz (a b : Ex) | zip (a b : Ex) | items (a : Ex) | values (a : Ex)
  /- targets -/
  | tgN (i : Nat) | tgT (ts : List Ex) | tgS (o i : Ex)
inductive St where
  | asg (t : Ex) (e : Ex) | ex (e : Ex) | ife (c : Ex) (a b : List St) | forS (t it : Ex) (b : List St) | wh (fuel : Nat) (c : Ex) (b : List St)
  | ret (e : Ex) | retN | brk | pass | never

mutual
/-- the names that a target sets -/
def slots : Ex → List Nat
  | .tgN i => [i]
  | .tgT ts => slotss ts
  | _ => []
def slotss : List Ex → List Nat
  | [] => []
  | t :: ts => slots t ++ slotss ts
end
/-! ### runs -/
abbrev RE := Option (D × Sto)
/-- how a call is done: arguments without references run over an empty store -/
def callI (f : Fn) (ds : List D) (S : Sto) : RE :=
  if D.los 0 ds then
    match f ds [] with
    | some (d, S1) => if D.lo 0 d then some (d, S) else some (D.shift S.length d, S ++ S1.map (O.shift S.length))
    | none => none
  else match f ds S with
    | some (d, S1) => if D.lo S.length d && (S1.take S.length).all (O.lo S.length) then some (d, S1.take S.length) else some (d, S1)
    | none => none
def guardOk (S : Sto) (g : List (Nat × O)) : Bool := g.all fun p => decide (S[p.1]? = some p.2)
def wipe (e : Env) : List Nat → Env
  | [] => e
  | v :: vs => (wipe e vs).set v none
/-- [elt for tg in xs if c] -/
def compL (bind : D → Env → Sto → Option (Env × Sto)) (c : Env → Sto → Option (Bool × Sto)) (elt : Env → Sto → RE) (g : List (Nat × O)) (e : Env) : List D → Sto → Option (List D × Sto)
  | [], S => if guardOk S g then some ([], S) else none
  | x :: xs, S => if guardOk S g then
      match bind x e S with
      | none => none
      | some (e1, S1) => match c e1 S1 with
        | none => none
        | some (false, S2) => compL bind c elt g e xs S2
        | some (true, S2) => match elt e1 S2 with
          | none => none
          | some (y, S3) => match compL bind c elt g e xs S3 with
            | none => none
            | some (ys, S4) => some (y :: ys, S4)
    else none
/-- {k: v for tg in xs if c} -/
def dcompL (bind : D → Env → Sto → Option (Env × Sto)) (c : Env → Sto → Option (Bool × Sto)) (k v : Env → Sto → RE) (g : List (Nat × O)) (e : Env) : List D → List (D × D) → Sto → Option (List (D × D) × Sto)
  | [], a, S => if guardOk S g then some (a, S) else none
  | x :: xs, a, S => if guardOk S g then
      match bind x e S with
      | none => none
      | some (e1, S1) => match c e1 S1 with
        | none => none
        | some (false, S2) => dcompL bind c k v g e xs a S2
        | some (true, S2) => match k e1 S2 with
          | none => none
          | some (y, S3) => match v e1 S3 with
            | none => none
            | some (z, S4) => if keysOk a y && decide (a.length < line) then dcompL bind c k v g e xs (dput a y z) S4 else none
    else none
inductive Fl where
  | nx | brk | rt (d : D)
abbrev RS := Option (Fl × Env × Sto)
def forL (bind : D → Env → Sto → Option (Env × Sto)) (body : Env → Sto → RS) (g : List (Nat × O)) : List D → Env → Sto → RS
  | [], e, S => if guardOk S g then some (.nx, e, S) else none
  | x :: xs, e, S => if guardOk S g then
      match bind x e S with
      | none => none
      | some (e1, S1) => match body e1 S1 with
        | some (.nx, e2, S2) => forL bind body g xs e2 S2
        | some (.brk, e2, S2) => some (.nx, e2, S2)
        | some (.rt d, e2, S2) => some (.rt d, e2, S2)
        | none => none
    else none
def whL (c : Env → Sto → Option (Bool × Sto)) (body : Env → Sto → RS) : Nat → Env → Sto → RS
  | 0, _, _ => none
  | n + 1, e, S => match c e S with
    | none => none
    | some (false, S1) => some (.nx, e, S1)
    | some (true, S1) => match body e S1 with
      | some (.nx, e2, S2) => whL c body n e2 S2
      | some (.brk, e2, S2) => some (.nx, e2, S2)
      | some (.rt d, e2, S2) => some (.rt d, e2, S2)
      | none => none
def rngV (lo hi st : Int) : List D :=
  if st = 1 then (List.range (hi - lo).toNat).map fun k => .int (lo + (k : Nat)) else
  if st = -1 then (List.range (lo - hi).toNat).map fun k => .int (lo - (k : Nat)) else []
def rngI : List D → Option (List D)
  | [.int hi] => if decide (-1000000000 ≤ hi) && decide (hi ≤ line) then some (rngV 0 hi 1) else none
  | [.int lo, .int hi] => if decide (-1000000000 ≤ lo) && (decide (lo ≤ 1000000000) && (decide (-1000000000 ≤ hi) && (decide (hi ≤ 1000000000) && decide (hi - lo ≤ line)))) then some (rngV lo hi 1) else none
  | [.int lo, .int hi, .int st] => if decide (st = -1) && (decide (-1000000000 ≤ lo) && (decide (lo ≤ 1000000000) && (decide (-1000000000 ≤ hi) && (decide (hi ≤ 1000000000) && decide (lo - hi ≤ line))))) then some (rngV lo hi (-1)) else none
  | _ => none
def thenT (r : RE) : Option (Bool × Sto) := match r with
  | some (d, S) => (tru S d).map fun b => (b, S)
  | none => none
def pick (perm : List Nat) (ds : List D) : List D := perm.filterMap fun i => ds[i]?
/-- what a for walks: the items, what has to stay -/
abbrev RI := Option (List D × List (Nat × O) × Sto)
def rowV (n : Nat) (S : Sto) : Option (List D × List (Nat × O)) := match S[n]? with
  | some (.lst xs) => some (xs, [(n, .lst xs)])
  | some (.scr ns) => some (ns.map .int, [(n, .scr ns)])
  | _ => none
def walkV (d : D) (S : Sto) : Option (List D × List (Nat × O)) := match d with
  | .tup xs => some (xs, [])
  | .ref n => rowV n S
  | _ => none
def enumV (xs : List D) : List D := (xs.zipIdx).map fun p => .tup [.int (p.2 : Nat), p.1]
def zipV (xs ys : List D) : List D := (xs.zip ys).map fun p => .tup [p.1, p.2]
/-- enumerate of a list -/
def enumL (d : D) (S : Sto) : Option (List D × List (Nat × O)) := match d with
  | .ref n => match rowV n S with
    | none => none
    | some (xs, g) => some (enumV xs, g)
  | _ => none
/-- enumerate of a list, a tuple -/
def enumI (d : D) (S : Sto) : Option (List D × List (Nat × O)) := match d with
  | .tup xs => some (enumV xs, [])
  | d => enumL d S
/-- a dict that stays -/
def dictI (d : D) (S : Sto) : Option (List (D × D) × List (Nat × O)) := match d with
  | .ref n => match S[n]? with
    | some (.dct kvs) => some (kvs, [(n, .dct kvs)])
    | _ => none
  | _ => none
/-- zip of two lists or two tuples -/
def zipI (x y : D) (S : Sto) : Option (List D × List (Nat × O)) := match x, y with
  | .tup xs, .tup ys => some (zipV xs ys, [])
  | .ref m, .ref n => match rowV m S, rowV n S with
    | some (xs, g), some (ys, h) => some (zipV xs ys, g ++ h)
    | _, _ => none
  | _, _ => none
/-- zip of two tuples -/
def zipT : D → D → Option (List D)
  | .tup xs, .tup ys => some (zipV xs ys)
  | _, _ => none
def appM (S : Sto) : D → List D → RE
  | .ref n, [x] => match S[n]? with
    | some (.lst xs) => if decide (xs.length < line) then some (.non, S.set n (.lst (xs ++ [x]))) else none
    | _ => none
  | _, _ => none
def extM (S : Sto) : D → List D → RE
  | .ref n, [.ref m] => match S[n]?, S[m]? with
    | some (.lst xs), some (.lst ys) => if decide (xs.length + ys.length ≤ line) then some (.non, S.set n (.lst (xs ++ ys))) else none
    | _, _ => none
  | _, _ => none
def insM (S : Sto) : D → List D → RE
  | .ref n, [.int i, x] => match S[n]? with
    | some (.lst xs) => if decide (xs.length < line) && (decide (0 ≤ i) && decide (i < 9223372036854775808)) then some (.non, S.set n (.lst (xs.take i.toNat ++ [x] ++ xs.drop i.toNat))) else none
    | _ => none
  | _, _ => none
def popM (S : Sto) : D → List D → RE
  | .ref n, [] => match S[n]? with
    | some (.lst xs) => match xs.getLast? with
      | some x => some (x, S.set n (.lst xs.dropLast))
      | none => none
    | _ => none
  | .ref n, [.int i] => match S[n]? with
    | some (.lst xs) => match ixN xs.length i with
      | some j => match xs[j]? with
        | some x => some (x, S.set n (.lst (xs.eraseIdx j)))
        | none => none
      | none => none
    | _ => none
  | _, _ => none
def getM (S : Sto) : D → List D → RE
  | .ref n, [k] => match S[n]? with
    | some (.dct kvs) => if keysOk kvs k then some ((dget kvs k).getD .non, S) else none
    | _ => none
  | .ref n, [k, z] => match S[n]? with
    | some (.dct kvs) => if keysOk kvs k then some ((dget kvs k).getD z, S) else none
    | _ => none
  | _, _ => none
/-- xs.count(x) of a list of ints -/
def cntM (S : Sto) : D → List D → RE
  | .ref n, [.int i] => match S[n]? with
    | some (.lst xs) => match intsD xs with
      | some ns => some (.int (ns.count i : Nat), S)
      | none => none
    | _ => none
  | _, _ => none
/-- of a tuple of ints -/
def cntT (S : Sto) : D → List D → RE
  | .ref n, [.int i] => match S[n]? with
    | some (.ftp xs) => match intsD xs with
      | some ns => some (.int (ns.count i : Nat), S)
      | none => none
    | _ => none
  | _, _ => none
/-- xs.index(x) of a list of ints that has it -/
def idxM (S : Sto) : D → List D → RE
  | .ref n, [.int i] => match S[n]? with
    | some (.lst xs) => match intsD xs with
      | some ns => if decide (i ∈ ns) then some (.int (ns.idxOf i : Nat), S) else none
      | none => none
    | _ => none
  | _, _ => none
/-- of a tuple of ints -/
def idxT (S : Sto) : D → List D → RE
  | .ref n, [.int i] => match S[n]? with
    | some (.ftp xs) => match intsD xs with
      | some ns => if decide (i ∈ ns) then some (.int (ns.idxOf i : Nat), S) else none
      | none => none
    | _ => none
  | _, _ => none
/-- the thing whose method it is -/
def methT (S : Sto) (m : Mth) : D → Bool
  | .ref n => match S[n]? with
    | some (.lst _) => decide (m ≠ .get ∧ m ≠ .tcount ∧ m ≠ .tindex)
    | some (.ftp _) => decide (m = .tcount ∨ m = .tindex)
    | some (.dct _) => decide (m = .get)
    | _ => false
  | _ => false
def methI (S : Sto) (m : Mth) (o : D) (ds : List D) : RE := match m with
  | .append => appM S o ds
  | .extend => extM S o ds
  | .insert => insM S o ds
  | .pop => popM S o ds
  | .get => getM S o ds
  | .count => cntM S o ds
  | .index => idxM S o ds
  | .tcount => cntT S o ds
  | .tindex => idxT S o ds
mutual
def evalE : Ex → Env → Sto → RE
  | .abs, _, S => some (.non, S)
  | .non, _, S => some (.non, S)
  | .bl b, _, S => some (.bl b, S)
  | .int i, _, S => some (.int i, S)
  | .str x, _, S => some (.str x, S)
  | .var i, e, S => match e[i]? with
    | some (some d) => some (d, S)
    | _ => none
  | .glo _ v, _, S => some (v, S)
  | .bin op a b, e, S => match evalE a e S with
    | none => none
    | some (x, S1) => match evalE b e S1 with
      | none => none
      | some (y, S2) => binI S2 op x y
  | .neg a, e, S => match evalE a e S with
    | some (.int i, S1) => some (.int (-i), S1)
    | _ => none
  | .not a, e, S => match thenT (evalE a e S) with
    | some (b, S1) => some (.bl (!b), S1)
    | none => none
  | .and a es, e, S => match evalE a e S with
    | none => none
    | some (d, S1) => evalAnd es d e S1
  | .or a es, e, S => match evalE a e S with
    | none => none
    | some (d, S1) => evalOr es d e S1
  | .cmp a os bs, e, S => match evalE a e S with
    | none => none
    | some (x, S1) => match evalC os bs e x true S1 with
      | none => none
      | some (b, S2) => some (.bl b, S2)
  | .ife c a b, e, S => match thenT (evalE c e S) with
    | none => none
    | some (true, S1) => evalE a e S1
    | some (false, S1) => evalE b e S1
  | .tup es, e, S => match evalEs es e S with
    | none => none
    | some (ds, S1) => some (.tup ds, S1)
  | .lst es, e, S => match evalEs es e S with
    | none => none
    | some (ds, S1) => new S1 (.lst ds)
  | .idx a i, e, S => match evalE a e S with
    | none => none
    | some (x, S1) => match evalE i e S1 with
      | none => none
      | some (y, S2) => match idxI S2 x y with
        | none => none
        | some d => some (d, S2)
  | .slc a lo hi st, e, S => match evalE a e S with
    | none => none
    | some (x, S1) => match evalE lo e S1 with
      | none => none
      | some (l, S2) => match evalE hi e S2 with
        | none => none
        | some (h, S3) => match evalE st e S3 with
          | none => none
          | some (t, S4) => slcI S4 x l h t
  | .call _ f es, e, S => match evalEs es e S with
    | none => none
    | some (ds, S1) => callI f ds S1
  | .callk _ _ f perm es, e, S => match evalEs es e S with
    | none => none
    | some (ds, S1) => callI f (pick perm ds) S1
  | .blt b es, e, S => match evalEs es e S with
    | none => none
    | some (ds, S1) => bltI S1 b ds
  | .setlen a, e, S => match evalE a e S with
    | none => none
    | some (x, S1) => match setlenI S1 x with
      | none => none
      | some n => some (.int (n : Nat), S1)
  | .meth m o es, e, S => match evalE o e S with
    | none => none
    | some (x, S1) => if methT S1 m x then match evalEs es e S1 with
        | none => none
        | some (ds, S2) => methI S2 m x ds
      else none
  | .rngT es, e, S => match evalEs es e S with
    | none => none
    | some (ds, S1) => match rngI ds with
      | none => none
      | some xs => some (.tup xs, S1)
  | .rngL es, e, S => match evalEs es e S with
    | none => none
    | some (ds, S1) => match rngI ds with
      | none => none
      | some xs => new S1 (.lst xs)
  | .comp elt tg it c own, e, S => match evalIt it e S with
    | none => none
    | some (xs, g, S1) => if decide (xs.length ≤ line) then match compL (bindT tg) (fun e S => thenT (evalE c e S)) (evalE elt) g (wipe e own) xs S1 with
      | none => none
      | some (ys, S2) => new S2 (.lst ys)
      else none
  | .dcomp k v tg it c own, e, S => match evalIt it e S with
    | none => none
    | some (xs, g, S1) => if decide (xs.length ≤ line) then match dcompL (bindT tg) (fun e S => thenT (evalE c e S)) (evalE k) (evalE v) g (wipe e own) xs [] S1 with
      | none => none
      | some (kvs, S2) => new S2 (.dct kvs)
      else none
  | .dict kvs, e, S => match evalEs kvs e S with
    | none => none
    | some (ds, S1) => match pairsD ds with
      | none => none
      | some ps => if ps.all fun p => keyK p.1 then new S1 (.dct (dputs [] ps)) else none
  | _, _, _ => none
def evalEs : List Ex → Env → Sto → Option (List D × Sto)
  | [], _, S => some ([], S)
  | x :: xs, e, S => match evalE x e S with
    | none => none
    | some (d, S1) => match evalEs xs e S1 with
      | none => none
      | some (ds, S2) => some (d :: ds, S2)
def evalAnd : List Ex → D → Env → Sto → RE
  | [], d, _, S => some (d, S)
  | x :: xs, d, e, S => match tru S d with
    | none => none
    | some false => some (d, S)
    | some true => match evalE x e S with
      | none => none
      | some (d1, S1) => evalAnd xs d1 e S1
def evalOr : List Ex → D → Env → Sto → RE
  | [], d, _, S => some (d, S)
  | x :: xs, d, e, S => match tru S d with
    | none => none
    | some true => some (d, S)
    | some false => match evalE x e S with
      | none => none
      | some (d1, S1) => evalOr xs d1 e S1
def evalC : List Cmp → List Ex → Env → D → Bool → Sto → Option (Bool × Sto)
  | o :: os, b :: bs, e, x, c, S => match c with
    | false => some (false, S)
    | true => match evalE b e S with
      | none => none
      | some (y, S1) => match cmpI S1 o x y with
        | none => none
        | some c1 => evalC os bs e y c1 S1
  | [], [], _, _, c, S => some (c, S)
  | _, _, _, _, _, _ => none
def evalIt : Ex → Env → Sto → RI
  | .rng es, e, S => match evalEs es e S with
    | none => none
    | some (ds, S1) => match rngI ds with
      | none => none
      | some xs => some (xs, [], S1)
  | .enum a, e, S => match evalE a e S with
    | none => none
    | some (x, S1) => match enumI x S1 with
      | none => none
      | some (xs, g) => some (xs, g, S1)
  | .zip a b, e, S => match evalE a e S with
    | none => none
    | some (x, S1) => match evalE b e S1 with
      | none => none
      | some (y, S2) => match zipI x y S2 with
        | none => none
        | some (xs, g) => some (xs, g, S2)
  | .enumz a b, e, S => match evalE a e S with
    | none => none
    | some (x, S1) => match evalE b e S1 with
      | none => none
      | some (y, S2) => match zipT x y with
        | none => none
        | some xs => some (enumV xs, [], S2)
  | .items a, e, S => match evalE a e S with
    | none => none
    | some (x, S1) => match dictI x S1 with
      | none => none
      | some (kvs, g) => some (kvs.map fun p => .tup [p.1, p.2], g, S1)
  | .values a, e, S => match evalE a e S with
    | none => none
    | some (x, S1) => match dictI x S1 with
      | none => none
      | some (kvs, g) => some (kvs.map (·.2), g, S1)
  | .wk a, e, S => match evalE a e S with
    | none => none
    | some (x, S1) => match walkV x S1 with
      | none => none
      | some (xs, g) => some (xs, g, S1)
  | _, _, _ => none
def bindT : Ex → D → Env → Sto → Option (Env × Sto)
  | .tgN i, d, e, S => some (e.set i (some d), S)
  | .tgT ts, d, e, S => match itemsI S d with
    | none => none
    | some ds => bindTs ts ds e S
  | .tgS o i, d, e, S => match evalE o e S with
    | none => none
    | some (x, S1) => match evalE i e S1 with
      | none => none
      | some (y, S2) => match setI S2 x y d with
        | none => none
        | some S3 => some (e, S3)
  | _, _, _, _ => none
def bindTs : List Ex → List D → Env → Sto → Option (Env × Sto)
  | [], [], e, S => some (e, S)
  | t :: ts, d :: ds, e, S => match bindT t d e S with
    | none => none
    | some (e1, S1) => bindTs ts ds e1 S1
  | _, _, _, _ => none
end
mutual
def execS : St → Env → Sto → RS
  | .asg t x, e, S => match evalE x e S with
    | none => none
    | some (d, S1) => match bindT t d e S1 with
      | none => none
      | some (e1, S2) => some (.nx, e1, S2)
  | .ex x, e, S => match evalE x e S with
    | none => none
    | some (_, S1) => some (.nx, e, S1)
  | .ife c a b, e, S => match thenT (evalE c e S) with
    | none => none
    | some (true, S1) => execSs a e S1
    | some (false, S1) => execSs b e S1
  | .forS t it b, e, S => match evalIt it e S with
    | none => none
    | some (xs, g, S1) => forL (bindT t) (execSs b) g xs e S1
  | .wh fuel c b, e, S => whL (fun e S => thenT (evalE c e S)) (execSs b) fuel e S
  | .ret x, e, S => match evalE x e S with
    | none => none
    | some (d, S1) => some (.rt d, e, S1)
  | .retN, e, S => some (.rt .non, e, S)
  | .brk, e, S => some (.brk, e, S)
  | .pass, e, S => some (.nx, e, S)
  | .never, _, _ => none
def execSs : List St → Env → Sto → RS
  | [], e, S => some (.nx, e, S)
  | s :: ss, e, S => match execS s e S with
    | some (.nx, e1, S1) => execSs ss e1 S1
    | r => r
end
/-- a def with n names, the parameters first -/
def runF (n k : Nat) (body : List St) : Fn := fun ds S =>
  if ds.length = k then
    match execSs body (ds.map some ++ List.replicate (n - k) none) S with
    | some (.rt d, _, S1) => some (d, S1)
    | some (.nx, _, S1) => some (.non, S1)
    | _ => none
  else none
end N
set_option autoImplicit false
set_option Elab.async false
set_option linter.all false
set_option maxRecDepth 100000
namespace N
open PySem L2

def sOf (s : List Nat) : Str := ⟨s.toArray⟩
mutual
def toPy : D → PyData
  | .bl b => .bool b
  | .int i => .int i
  | .str s => .str (sOf s)
  | .tup xs => .tuple (toPys xs)
  | .lst xs => .list (toPys xs)
  | _ => .none
def toPys : List D → List PyData
  | [] => []
  | x :: xs => toPy x :: toPys xs
end

mutual
/-- the value v stands for d; ρ tells where the store's places lie -/
inductive VR (ρ : List Addr) (H : Hp) : D → V → Prop
  | non : VR ρ H .non .non
  | bl (b : Bool) : VR ρ H (.bl b) (.bl b)
  | int (i : Int) : VR ρ H (.int i) (.int i)
  | str (s : List Nat) : VR ρ H (.str s) (.str (sOf s))
  | tup {xs : List D} {a : Addr} {vs : List V} : H a = some (.tup vs) → VRs ρ H xs vs → VR ρ H (.tup xs) (.ref a)
  | ref {n : Nat} {a : Addr} : ρ[n]? = some a → VR ρ H (.ref n) (.ref a)
  | rep {d : D} : VR ρ H (.rep d) (.str (toPy d).shown)
inductive VRs (ρ : List Addr) (H : Hp) : List D → List V → Prop
  | nil : VRs ρ H [] []
  | cons {x : D} {v : V} {xs : List D} {vs : List V} : VR ρ H x v → VRs ρ H xs vs → VRs ρ H (x :: xs) (v :: vs)
end

/-- how the step from H to H' (places ρ, then ρ') went: what is not a mutable thing of ρ's is kept -/
structure Go (ρ : List Addr) (H : Hp) (ρ' : List Addr) (H' : Hp) : Prop where
  ext : ∃ δ, ρ' = ρ ++ δ ∧ ∀ p ∈ δ, H p = none
  fr : ∀ a o, H a = some o → ¬ (a ∈ ρ ∧ Mut (some o)) → H' a = some o
  th : ∀ a, H a ≠ none → H' a ≠ none

section
variable {ρ ρ' ρ1 ρ2 δ : List Addr} {H H' H1 H2 : Hp}
theorem Go.refl : Go ρ H ρ H := ⟨⟨[], by simp, by simp⟩, fun _ _ e _ => e, fun _ e => e⟩
theorem Go.trans (a : Go ρ H ρ1 H1) (b : Go ρ1 H1 ρ2 H2) : Go ρ H ρ2 H2 := by
  obtain ⟨δ1, e1, n1⟩ := a.ext
  obtain ⟨δ2, e2, n2⟩ := b.ext
  refine ⟨⟨δ1 ++ δ2, by rw [e2, e1, List.append_assoc], fun p hp => ?_⟩, fun c o h n => ?_, fun c h => b.th c (a.th c h)⟩
  · rcases List.mem_append.mp hp with z | z
    · exact n1 p z
    · cases q : H p with
      | none => rfl
      | some o => exact absurd (n2 p z) (a.th p (by rw [q]; simp))
  · refine b.fr c o (a.fr c o h n) fun ⟨z, m⟩ => ?_
    rw [e1] at z
    rcases List.mem_append.mp z with z | z
    · exact n ⟨z, m⟩
    · rw [n1 c z] at h; cases h
/-- a new thing stands at p -/
theorem Go.laid {p : Addr} {o : HO} (hp : H p = none) : Go ρ H ρ (upd H p o) :=
  ⟨⟨[], by simp, by simp⟩, fun a u e _ => by rw [upd_ne (ne_of_none e hp)]; exact e, fun a e => by
    by_cases h : a = p
    · rw [h, upd_same]; simp
    · rw [upd_ne h]; exact e⟩
theorem Go.more {p : Addr} {o : HO} (hp : H p = none) : Go ρ H (ρ ++ [p]) (upd H p o) :=
  ⟨⟨[p], rfl, by simpa using hp⟩, (Go.laid (ρ := ρ) hp).fr, (Go.laid (ρ := ρ) hp).th⟩
/-- a mutable thing of ρ's is changed -/
theorem Go.write {a : Addr} {o o' : HO} (ha : a ∈ ρ) (e : H a = some o) (m : Mut (some o)) : Go ρ H ρ (upd H a o') :=
  ⟨⟨[], by simp, by simp⟩, fun b u q n => by
    by_cases h : b = a
    · subst h; rw [e] at q; cases q; exact absurd ⟨ha, m⟩ n
    · rw [upd_ne h]; exact q, fun b q => by
    by_cases h : b = a
    · rw [h, upd_same]; simp
    · rw [upd_ne h]; exact q⟩

theorem Go.tup (g : Go ρ H ρ' H') {a : Addr} {vs : List V} (e : H a = some (.tup vs)) : H' a = some (.tup vs) := g.fr a _ e fun z => z.2
theorem Go.at_ (g : Go ρ H ρ' H') {n : Nat} {a : Addr} (e : ρ[n]? = some a) : ρ'[n]? = some a := by
  obtain ⟨δ, rfl, _⟩ := g.ext
  rw [List.getElem?_append_left (List.getElem?_eq_some_iff.mp e).1]; exact e
mutual
theorem VR.go (g : Go ρ H ρ' H') : ∀ {d : D} {v : V}, VR ρ H d v → VR ρ' H' d v
  | _, _, .non => .non
  | _, _, .bl b => .bl b
  | _, _, .int i => .int i
  | _, _, .str s => .str s
  | _, _, .tup e r => .tup (g.tup e) (VRs.go g r)
  | _, _, .ref e => .ref (g.at_ e)
  | _, _, .rep => .rep
theorem VRs.go (g : Go ρ H ρ' H') : ∀ {d : List D} {v : List V}, VRs ρ H d v → VRs ρ' H' d v
  | _, _, .nil => .nil
  | _, _, .cons a b => .cons (VR.go g a) (VRs.go g b)
end
mutual
/-- a value without references beyond n -/
theorem VR.lo : ∀ {d : D} {v : V}, VR (ρ ++ δ) H d v → D.lo ρ.length d = true → VR ρ H d v
  | _, _, .non, _ => .non
  | _, _, .bl b, _ => .bl b
  | _, _, .int i, _ => .int i
  | _, _, .str s, _ => .str s
  | _, _, .tup e r, h => .tup e (VRs.lo r (by simpa [D.lo] using h))
  | _, _, .ref (n := n) e, h => by
    have h' : n < ρ.length := by simpa [D.lo] using h
    rw [List.getElem?_append_left h'] at e
    exact .ref e
  | _, _, .rep, _ => .rep
theorem VRs.lo : ∀ {d : List D} {v : List V}, VRs (ρ ++ δ) H d v → D.los ρ.length d = true → VRs ρ H d v
  | _, _, .nil, _ => .nil
  | _, _, .cons a b, h => .cons (VR.lo a (Bool.and_eq_true_iff.mp (by simpa only [D.los] using h)).1) (VRs.lo b (Bool.and_eq_true_iff.mp (by simpa only [D.los] using h)).2)
end
mutual
theorem VR.shift : ∀ {d : D} {v : V}, VR δ H d v → VR (ρ ++ δ) H (D.shift ρ.length d) v
  | _, _, .non => .non
  | _, _, .bl b => .bl b
  | _, _, .int i => .int i
  | _, _, .str s => .str s
  | _, _, .tup e r => .tup e (VRs.shift r)
  | _, _, .ref (n := n) e => .ref (n := n + ρ.length) (by rw [List.getElem?_append_right (Nat.le_add_left _ _), Nat.add_sub_cancel]; exact e)
  | _, _, .rep => .rep
theorem VRs.shift : ∀ {d : List D} {v : List V}, VRs δ H d v → VRs (ρ ++ δ) H (D.shifts ρ.length d) v
  | _, _, .nil => .nil
  | _, _, .cons a b => .cons (VR.shift a) (VRs.shift b)
end
mutual
theorem VR.cat : ∀ {d : D} {v : V}, VR ρ H d v → VR (ρ ++ δ) H d v
  | _, _, .non => .non
  | _, _, .bl b => .bl b
  | _, _, .int i => .int i
  | _, _, .str s => .str s
  | _, _, .tup e r => .tup e (VRs.cat r)
  | _, _, .ref e => .ref (by rw [List.getElem?_append_left (List.getElem?_eq_some_iff.mp e).1]; exact e)
  | _, _, .rep => .rep
theorem VRs.cat : ∀ {d : List D} {v : List V}, VRs ρ H d v → VRs (ρ ++ δ) H d v
  | _, _, .nil => .nil
  | _, _, .cons a b => .cons (VR.cat a) (VRs.cat b)
end
/-- a value without references -/
theorem VR.pure {d : D} {v : V} (r : VR δ H d v) (h : D.lo 0 d = true) : VR ρ H d v := by
  have q : VR ([] ++ δ) H d v := r
  have q' : VR [] H d v := q.lo h
  exact q'.cat (δ := ρ)
theorem VRs.pure {d : List D} {v : List V} (r : VRs δ H d v) (h : D.los 0 d = true) : VRs ρ H d v := by
  have q : VRs ([] ++ δ) H d v := r
  have q' : VRs [] H d v := q.lo h
  exact q'.cat (δ := ρ)
end

/-! ### dicts, things of the store -/
def kD : Key → D
  | .inl i => .int i
  | .inr x => .str x.cps.toList
def kR (ρ : List Addr) (H : Hp) : List (D × D) → List (Key × V) → Prop
  | [], [] => True
  | p :: ps, q :: qs => p.1 = kD q.1 ∧ VR ρ H p.2 q.2 ∧ kR ρ H ps qs
  | _, _ => False
def tR (ρ : List Addr) (H : Hp) : List (D × D) → List (List Key × V) → Prop
  | [], [] => True
  | p :: ps, q :: qs => p.1 = .tup (q.1.map kD) ∧ VR ρ H p.2 q.2 ∧ tR ρ H ps qs
  | _, _ => False
/-- what the object o of the store is, at a -/
def OR (K : PySem.W.Frag) (ρ : List Addr) (H : Hp) (a : Addr) : O → Prop
  | .lst xs => ∃ vs, H a = some (.lst vs) ∧ VRs ρ H xs vs
  | .dct kvs => (∃ ks, H a = some (.dK ks) ∧ kR ρ H kvs ks) ∨ ∃ ks, H a = some (.dT ks) ∧ tR ρ H kvs ks
  | .set _ => False
  | .scr ns => ∃ o, H a = some (.frz o (.lst (ns.map V.int)))
  | .ftp xs => ∃ o vs, H a = some (.frz o (.tup vs)) ∧ o.cls = .type "tuple" ∧ o.dict = none ∧ VRs ρ H xs vs
  | .dead => False
def live : O → Bool
  | .lst _ => true
  | .dct _ => true
  | .set _ => true
  | _ => false
structure SR (K : PySem.W.Frag) (ρ : List Addr) (H : Hp) (S : Sto) : Prop where
  len : ρ.length = S.length
  at_ : ∀ (n : Nat) (o : O) (a : Addr), S[n]? = some o → ρ[n]? = some a → OR K ρ H a o
  nd : ∀ (m n : Nat) (a : Addr) (o u : O), ρ[m]? = some a → ρ[n]? = some a → S[m]? = some o → S[n]? = some u → live o = true → live u = true → m = n
section
variable {K : PySem.W.Frag} {ρ ρ' δ : List Addr} {H H' : Hp} {S S' : Sto} {a p : Addr} {o : O}
theorem kR.imp (f : ∀ d v, VR ρ H d v → VR ρ' H' d v) : ∀ {ps : List (D × D)} {qs : List (Key × V)}, kR ρ H ps qs → kR ρ' H' ps qs
  | [], [], _ => trivial
  | _ :: _, _ :: _, h => ⟨h.1, f _ _ h.2.1, kR.imp f h.2.2⟩
theorem tR.imp (f : ∀ d v, VR ρ H d v → VR ρ' H' d v) : ∀ {ps : List (D × D)} {qs : List (List Key × V)}, tR ρ H ps qs → tR ρ' H' ps qs
  | [], [], _ => trivial
  | _ :: _, _ :: _, h => ⟨h.1, f _ _ h.2.1, tR.imp f h.2.2⟩
theorem OR.live (h : OR K ρ H a o) (l : live o = true) : ∃ u, H a = some u ∧ Mut (some u) := by
  cases o with
  | lst xs => obtain ⟨vs, e, _⟩ := h; exact ⟨_, e, trivial⟩
  | dct kvs =>
    rcases h with ⟨ks, e, _⟩ | ⟨ks, e, _⟩
    · exact ⟨_, e, trivial⟩
    · exact ⟨_, e, trivial⟩
  | set xs => exact h.elim
  | scr ns => cases l
  | ftp xs => cases l
  | dead => cases l
/-- a thing that stands as it stood -/
theorem OR.same (h : OR K ρ H a o) (e : ∀ u, H a = some u → H' a = some u) (f : ∀ d v, VR ρ H d v → VR ρ' H' d v) (fs : ∀ d v, VRs ρ H d v → VRs ρ' H' d v) : OR K ρ' H' a o := by
  cases o with
  | lst xs => obtain ⟨vs, e1, r⟩ := h; exact ⟨vs, e _ e1, fs _ _ r⟩
  | dct kvs =>
    rcases h with ⟨ks, e1, r⟩ | ⟨ks, e1, r⟩
    · exact .inl ⟨ks, e _ e1, r.imp f⟩
    · exact .inr ⟨ks, e _ e1, r.imp f⟩
  | set xs => exact h.elim
  | scr ns => obtain ⟨o, e1⟩ := h; exact ⟨o, e _ e1⟩
  | ftp xs => obtain ⟨o, vs, e1, c, d, r⟩ := h; exact ⟨o, vs, e _ e1, c, d, fs _ _ r⟩
  | dead => exact h
/-- the store, where all of the heap is kept -/
theorem SR.keep (s : SR K ρ H S) (e : ∀ a u, H a = some u → H' a = some u) : SR K ρ H' S := by
  have g : Go ρ H ρ H' := ⟨⟨[], by simp, by simp⟩, fun a u q _ => e a u q, fun a q => by
    cases z : H a with
    | none => exact absurd z q
    | some u => rw [e a u z]; simp⟩
  exact ⟨s.len, fun n o a h1 h2 => (s.at_ n o a h1 h2).same (e a) (fun _ _ r => r.go g) fun _ _ r => r.go g, s.nd⟩
theorem SR.laid {u : HO} (s : SR K ρ H S) (hp : H p = none) : SR K ρ (upd H p u) S := s.keep fun a v e => by rw [upd_ne (ne_of_none e hp)]; exact e
/-- a new object of the store -/
theorem SR.more {u : HO} (s : SR K ρ H S) (hp : H p = none) (h : OR K ρ (upd H p u) p o) : SR K (ρ ++ [p]) (upd H p u) (S ++ [o]) := by
  have s1 := s.laid (u := u) hp
  have lt : ∀ {n : Nat} {b : Addr}, (ρ ++ [p])[n]? = some b → (n < ρ.length ∧ ρ[n]? = some b) ∨ (n = ρ.length ∧ b = p) := fun {n b} e => by
    by_cases h : n < ρ.length
    · rw [List.getElem?_append_left h] at e; exact .inl ⟨h, e⟩
    · rw [List.getElem?_append_right (by omega)] at e
      have h1 := (List.getElem?_eq_some_iff.mp e).1
      have h2 : n = ρ.length := by simp at h1; omega
      subst h2
      simp at e
      exact .inr ⟨rfl, e.symm⟩
  have lo : ∀ {n : Nat} {w : O}, n < ρ.length → (S ++ [o])[n]? = some w → S[n]? = some w := fun {n w} h e => by
    rw [List.getElem?_append_left (by rw [← s.len]; exact h)] at e; exact e
  have last : ∀ {w : O}, (S ++ [o])[ρ.length]? = some w → w = o := fun {w} e => by
    rw [s.len, List.getElem?_append_right (Nat.le_refl _)] at e; simp at e; exact e.symm
  refine ⟨by simp [s.len], fun n w b h1 h2 => ?_, fun m n b w z h1 h2 h3 h4 l1 l2 => ?_⟩
  · rcases lt h2 with ⟨hn, e⟩ | ⟨hn, e⟩
    · exact (s1.at_ n w b (lo hn h1) e).same (fun _ q => q) (fun _ _ r => r.cat) fun _ _ r => r.cat
    · subst e; subst hn
      rw [last h1]
      exact h.same (fun _ q => q) (fun _ _ r => r.cat) fun _ _ r => r.cat
  · rcases lt h1 with ⟨x1, e1⟩ | ⟨x1, e1⟩ <;> rcases lt h2 with ⟨x2, e2⟩ | ⟨x2, e2⟩
    · exact s.nd m n b w z e1 e2 (lo x1 h3) (lo x2 h4) l1 l2
    · obtain ⟨u1, q1, _⟩ := (s.at_ m w b (lo x1 h3) e1).live l1
      rw [e2, hp] at q1; cases q1
    · obtain ⟨u1, q1, _⟩ := (s.at_ n z b (lo x2 h4) e2).live l2
      rw [e1, hp] at q1; cases q1
    · rw [x1, x2]
/-- the object n is changed -/
theorem SR.write {n : Nat} {o' : O} {u : HO} (s : SR K ρ H S) (h1 : S[n]? = some o) (h2 : ρ[n]? = some a) (l : live o = true) (l' : live o' = true) (h : OR K ρ (upd H a u) a o') : SR K ρ (upd H a u) (S.set n o') := by
  obtain ⟨u0, e0, m0⟩ := (s.at_ n o a h1 h2).live l
  have g : Go ρ H ρ (upd H a u) := Go.write (List.mem_of_getElem? h2) e0 m0
  have hn := (List.getElem?_eq_some_iff.mp h1).1
  refine ⟨by simp [s.len], fun m w b q1 q2 => ?_, fun m k b w z q1 q2 q3 q4 l1 l2 => ?_⟩
  · by_cases hm : m = n
    · subst hm
      rw [h2] at q2; cases q2
      rw [List.getElem?_set_self hn] at q1; cases q1
      exact h
    · rw [List.getElem?_set_ne (Ne.symm hm)] at q1
      have r := s.at_ m w b q1 q2
      by_cases lw : live w = true
      · have hb : b ≠ a := fun z => hm (s.nd m n a w o (by rw [← z]; exact q2) h2 q1 h1 lw l)
        exact r.same (fun v q => by rw [upd_ne hb]; exact q) (fun _ _ r => r.go g) fun _ _ r => r.go g
      · cases w with
        | lst _ => exact absurd rfl lw
        | dct _ => exact absurd rfl lw
        | set _ => exact absurd rfl lw
        | scr ns => obtain ⟨ob, e⟩ := r; exact ⟨ob, g.fr _ _ e fun z => z.2⟩
        | ftp xs => obtain ⟨ob, vs, e, c, d, rs⟩ := r; exact ⟨ob, vs, g.fr _ _ e fun z => z.2, c, d, VRs.go g rs⟩
        | dead => exact r
  · have back : ∀ {j : Nat} {y : O}, (S.set n o')[j]? = some y → live y = true → ∃ y', S[j]? = some y' ∧ live y' = true := fun {j y} q ly => by
      by_cases hj : j = n
      · subst hj; exact ⟨o, h1, l⟩
      · rw [List.getElem?_set_ne (Ne.symm hj)] at q; exact ⟨y, q, ly⟩
    obtain ⟨w', e1, l1'⟩ := back q3 l1
    obtain ⟨z', e2, l2'⟩ := back q4 l2
    exact s.nd m k b w' z' q1 q2 e1 e2 l1' l2'
theorem OR.some (h : OR K ρ H a o) : H a ≠ none := by
  cases o with
  | lst xs => obtain ⟨vs, e, _⟩ := h; rw [e]; simp
  | dct kvs =>
    rcases h with ⟨ks, e, _⟩ | ⟨ks, e, _⟩
    · rw [e]; simp
    · rw [e]; simp
  | set xs => exact h.elim
  | scr ns => obtain ⟨o, e⟩ := h; rw [e]; simp
  | ftp xs => obtain ⟨o, vs, e, _⟩ := h; rw [e]; simp
  | dead => exact h.elim
/-- every place of the store is told -/
theorem SR.told (s : SR K ρ H S) (h : a ∈ ρ) : H a ≠ none := by
  obtain ⟨n, hn⟩ := List.getElem?_of_mem h
  have hl := (List.getElem?_eq_some_iff.mp hn).1
  rw [s.len] at hl
  exact (s.at_ n _ a (List.getElem?_eq_getElem hl) hn).some
theorem SR.nth (s : SR K ρ H S) {n : Nat} (h1 : S[n]? = some o) : ∃ a, ρ[n]? = some a := by
  have h := (List.getElem?_eq_some_iff.mp h1).1
  rw [← s.len] at h
  exact ⟨_, List.getElem?_eq_getElem h⟩
end
end N
set_option autoImplicit false
set_option Elab.async false
set_option linter.all false
set_option maxRecDepth 100000
namespace N
open PySem L2

/-! ### judgements -/
def ER (ρ : List Addr) (H : Hp) (e : Env) (σ : L2.St) : Prop := e.length = σ.length ∧ ∀ (i : Nat) (d : D), e[i]? = some (some d) → ∃ v, σ[i]? = some (some v) ∧ VR ρ H d v
/-- what is wanted behind: of every value that stands for d, wherever the step has gone -/
def Fin (K : PySem.W.Frag) (ρ : List Addr) (H : Hp) (d : D) (S' : Sto) (Q : VK) : Prop := ∀ ρ' H' v, Go ρ H ρ' H' → SR K ρ' H' S' → VR ρ' H' d v → Q v H'
def TEv (K : PySem.W.Frag) (x : Env → Sto → RE) : TE := fun σ H Q => ∃ ρ e S d S', ER ρ H e σ ∧ SR K ρ H S ∧ x e S = some (d, S') ∧ Fin K ρ H d S' Q
def SE (X : Cx) (e : Expr) (x : Env → Sto → RE) : Prop := PE X e (TEv X.K x)
/-- a two-place operation on values -/
def r2 (K : PySem.W.Frag) (g : Sto → D → D → RE) : R2 := fun x y H Q => ∃ ρ S da db d S', SR K ρ H S ∧ VR ρ H da x ∧ VR ρ H db y ∧ g S da db = some (d, S') ∧ Fin K ρ H d S' Q
def r1 (K : PySem.W.Frag) (g : Sto → D → RE) : V → Hp → VK → Prop := fun x H Q => ∃ ρ S da d S', SR K ρ H S ∧ VR ρ H da x ∧ g S da = some (d, S') ∧ Fin K ρ H d S' Q
/-- a call by values -/
def rN (K : PySem.W.Frag) (g : Sto → List D → RE) : List V → Hp → VK → Prop := fun xs H Q => ∃ ρ S ds d S', SR K ρ H S ∧ VRs ρ H ds xs ∧ g S ds = some (d, S') ∧ Fin K ρ H d S' Q

section
variable {X : Cx} {K : PySem.W.Frag} {ρ ρ' : List Addr} {H H' : Hp} {S S' : Sto} {d : D} {Q : VK} {v : V} {xs : List D} {vs : List V} {e : Env} {σ : L2.St}
theorem Fin.ret (f : Fin K ρ H d S Q) (s : SR K ρ H S) (r : VR ρ H d v) : Q v H := f ρ H v .refl s r
theorem Fin.tup (f : Fin K ρ H (.tup xs) S Q) (s : SR K ρ H S) (r : VRs ρ H xs vs) : ∀ p, H p = none → Q (.ref p) (upd H p (.tup vs)) :=
  fun p hp => f ρ _ _ (Go.laid hp) (s.laid hp) (.tup upd_same (VRs.go (Go.laid hp) r))
theorem Fin.new {o : O} {u : HO} (f : Fin K ρ H (.ref S.length) (S ++ [o]) Q) (s : SR K ρ H S) (r : ∀ p, H p = none → OR K ρ (upd H p u) p o) : ∀ p, H p = none → Q (.ref p) (upd H p u) :=
  fun p hp => f (ρ ++ [p]) _ _ (Go.more hp) (s.more hp (r p hp)) (.ref (by rw [← s.len]; simp))
theorem Fin.lst (f : Fin K ρ H (.ref S.length) (S ++ [.lst xs]) Q) (s : SR K ρ H S) (r : VRs ρ H xs vs) : ∀ p, H p = none → Q (.ref p) (upd H p (.lst vs)) :=
  f.new s fun p hp => ⟨vs, upd_same, VRs.go (Go.laid hp) r⟩
theorem Fin.go (f : Fin K ρ H d S' Q) (g : Go ρ H ρ' H') : Fin K ρ' H' d S' Q := fun ρ2 H2 w g2 s2 r2 => f ρ2 H2 w (g.trans g2) s2 r2
theorem ER.go (h : ER ρ H e σ) (g : Go ρ H ρ' H') : ER ρ' H' e σ := ⟨h.1, fun i d q => by
  obtain ⟨v, e1, r⟩ := h.2 i d q
  exact ⟨v, e1, r.go g⟩⟩
theorem VRs.len : ∀ {xs : List D} {vs : List V}, VRs ρ H xs vs → xs.length = vs.length
  | _, _, .nil => rfl
  | _, _, .cons _ t => congrArg Nat.succ (VRs.len t)
theorem VRs.app : ∀ {xs : List D} {vs : List V} {ys : List D} {ws : List V}, VRs ρ H xs vs → VRs ρ H ys ws → VRs ρ H (xs ++ ys) (vs ++ ws)
  | _, _, _, _, .nil, t => t
  | _, _, _, _, .cons r s, t => .cons r (VRs.app s t)
theorem VRs.get : ∀ {xs : List D} {vs : List V} {i : Nat} {d : D}, VRs ρ H xs vs → xs[i]? = some d → ∃ v, vs[i]? = some v ∧ VR ρ H d v
  | _, _, _, _, .nil, e => by simp at e
  | _, _, 0, _, .cons r _, e => by simp at e; subst e; exact ⟨_, rfl, r⟩
  | _, _, i + 1, _, .cons _ t, e => by
    obtain ⟨v, h1, h2⟩ := VRs.get (i := i) t (by simpa using e)
    exact ⟨v, by simpa using h1, h2⟩
theorem VRs.get' : ∀ {xs : List D} {vs : List V} {i : Nat} {v : V}, VRs ρ H xs vs → vs[i]? = some v → ∃ d, xs[i]? = some d ∧ VR ρ H d v
  | _, _, _, _, .nil, e => by simp at e
  | _, _, 0, _, .cons r _, e => by simp at e; subst e; exact ⟨_, rfl, r⟩
  | _, _, i + 1, _, .cons _ t, e => by
    obtain ⟨v, h1, h2⟩ := VRs.get' (i := i) t (by simpa using e)
    exact ⟨v, by simpa using h1, h2⟩
theorem VRs.drop : ∀ {xs : List D} {vs : List V} (n : Nat), VRs ρ H xs vs → VRs ρ H (xs.drop n) (vs.drop n)
  | _, _, 0, r => r
  | _, _, _ + 1, .nil => .nil
  | _, _, n + 1, .cons _ t => VRs.drop n t
theorem VRs.take : ∀ {xs : List D} {vs : List V} (n : Nat), VRs ρ H xs vs → VRs ρ H (xs.take n) (vs.take n)
  | _, _, 0, _ => .nil
  | _, _, _ + 1, .nil => .nil
  | _, _, n + 1, .cons r t => .cons r (VRs.take n t)
theorem VRs.rev : ∀ {xs : List D} {vs : List V}, VRs ρ H xs vs → VRs ρ H xs.reverse vs.reverse
  | _, _, .nil => .nil
  | _, _, .cons r t => by rw [List.reverse_cons, List.reverse_cons]; exact VRs.app (VRs.rev t) (.cons r .nil)
theorem VRs.set {d : D} {v : V} (r : VR ρ H d v) : ∀ {xs : List D} {vs : List V} (n : Nat), VRs ρ H xs vs → VRs ρ H (xs.set n d) (vs.set n v)
  | _, _, _, .nil => .nil
  | _, _, 0, .cons _ t => .cons r t
  | _, _, n + 1, .cons q t => .cons q (VRs.set r n t)
theorem VRs.rep : ∀ (k : Nat) {xs : List D} {vs : List V}, VRs ρ H xs vs → VRs ρ H (List.replicate k xs).flatten (List.replicate k vs).flatten
  | 0, _, _, _ => .nil
  | k + 1, _, _, r => by simp only [List.replicate_succ, List.flatten_cons]; exact VRs.app r (VRs.rep k r)
theorem SR.lst {n : Nat} {a : Addr} (s : SR K ρ H S) (e : S[n]? = some (.lst xs)) (h : ρ[n]? = some a) : ∃ vs, H a = some (.lst vs) ∧ VRs ρ H xs vs := s.at_ n _ a e h
theorem ints_app : ∀ {xs : List D} {ns : List Int}, intsD xs = some ns → xs = ns.map .int
  | [], _, h => by cases h; rfl
  | .int i :: xs, ns, h => by
    simp only [intsD] at h
    cases e : intsD xs with
    | none => rw [e] at h; cases h
    | some l => rw [e] at h; cases h; rw [ints_app e]; rfl
  | .non :: _, _, h => by cases h
  | .bl _ :: _, _, h => by cases h
  | .str _ :: _, _, h => by cases h
  | .tup _ :: _, _, h => by cases h
  | .lst _ :: _, _, h => by cases h
  | .ref _ :: _, _, h => by cases h
  | .rep _ :: _, _, h => by cases h
theorem VRs.toInts : ∀ {ns : List Int} {vs : List V}, VRs ρ H (ns.map .int) vs → vs = ns.map V.int
  | [], _, h => by cases h; rfl
  | n :: ns, _, h => by
    cases h with
    | cons r t => cases r; rw [VRs.toInts t]; rfl
theorem VRs.ofInts : ∀ (ns : List Int), VRs ρ H (ns.map .int) (ns.map V.int)
  | [] => .nil
  | n :: ns => .cons (.int n) (VRs.ofInts ns)

/-! ### sequences of readings -/
theorem SE.imp {E : Expr} {x y : Env → Sto → RE} (h : SE X E x) (i : ∀ e S r, y e S = some r → x e S = some r) : SE X E y :=
  ⟨fun pins s σ H Q I q => h.run pins s σ H Q I (by
    obtain ⟨ρ, e, S, d, S', h1, h2, h3, h4⟩ := q
    exact ⟨ρ, e, S, d, S', h1, h2, i _ _ _ h3, h4⟩)⟩
theorem PE.imp {E : Expr} {t u : TE} (h : PE X E t) (i : ∀ σ H Q, u σ H Q → t σ H Q) : PE X E u := ⟨fun pins s σ H Q I q => h.run pins s σ H Q I (i σ H Q q)⟩
/-- two parts in a row, then an operation -/
theorem seq2 {xa xb : Env → Sto → RE} {g : Sto → D → D → RE} {Q : VK} (h : TEv K (fun e S => match xa e S with
    | none => none
    | some (a, S1) => match xb e S1 with
      | none => none
      | some (b, S2) => g S2 a b) σ H Q) : TEv K xa σ H fun x H1 => TEv K xb σ H1 fun y H2 => r2 K g x y H2 Q := by
  obtain ⟨ρ, e, S, d, S', h1, h2, h3, h4⟩ := h
  simp only at h3
  split at h3
  · cases h3
  · rename_i a S1 e1
    split at h3
    · cases h3
    · rename_i b S2 e2
      exact ⟨ρ, e, S, a, S1, h1, h2, e1, fun ρ1 H1 v1 g1 s1 q1 => ⟨ρ1, e, S1, b, S2, h1.go g1, s1, e2, fun ρ2 H2 v2 g2 s2 q2 => ⟨ρ2, S2, a, b, d, S', s2, q1.go g2, q2, h3, h4.go (g1.trans g2)⟩⟩⟩
theorem seq1 {xa : Env → Sto → RE} {g : Sto → D → RE} {Q : VK} (h : TEv K (fun e S => match xa e S with
    | none => none
    | some (a, S1) => g S1 a) σ H Q) : TEv K xa σ H fun x H1 => r1 K g x H1 Q := by
  obtain ⟨ρ, e, S, d, S', h1, h2, h3, h4⟩ := h
  simp only at h3
  split at h3
  · cases h3
  · rename_i a S1 e1
    exact ⟨ρ, e, S, a, S1, h1, h2, e1, fun ρ1 H1 v1 g1 s1 q1 => ⟨ρ1, S1, a, d, S', s1, q1, h3, h4.go g1⟩⟩
end

theorem sOf_app (a b : List Nat) : sOf (a ++ b) = sOf a ++ sOf b := by
  show sOf (a ++ b) = (⟨a.toArray ++ b.toArray⟩ : Str)
  simp [sOf]
/-! ### operators -/
section
variable {X : Cx}
def o2 : Op2 → Operator
  | .add => .Add | .sub => .Sub | .mul => .Mult | .fdiv => .FloorDiv | .mod => .Mod | .pow => .Pow | .shl => .LShift | .shr => .RShift | .band => .BitAnd | .bor => .BitOr | .bxor => .BitXor
theorem op_addN : OpR X (binaryOp .Add) (r2 X.K fun S a b => binI S .add a b) := by
  intro pins s σ H x y v u Q I rx ry h
  obtain ⟨ρ, S, da, db, d, S', hS, ra, rb, hr, k⟩ := h
  cases ra <;> cases rb <;> simp only [binI] at hr <;> try (cases hr; done)
  · rename_i i j
    cases hr
    exact op_add pins s σ H _ _ v u Q I rx ry ⟨i, j, rfl, rfl, k.ret hS (.int _)⟩
  · rename_i a b
    split at hr
    · cases hr
      exact op_add_str pins s σ H _ _ v u Q I rx ry ⟨_, _, rfl, rfl, by simpa [sOf, Str.length, sizeLine_eq] using ‹_›, by
        have q := k.ret hS (.str (a ++ b))
        rw [sOf_app] at q
        exact q⟩
    · cases hr
  · rename_i xs a vs ea rs ys b ws eb rt
    split at hr
    · rename_i hl
      cases hr
      refine op_catA pins s σ H _ _ v u Q I rx ry ⟨a, b, vs, ws, rfl, rfl, .of ea, .of eb, by rw [← rs.len, ← rt.len, sizeLine_eq]; exact hl, fun z => ?_, fun _ z => ?_, fun _ _ => k.tup hS (rs.app rt)⟩
      · subst z; cases rs; exact k.ret hS (.tup eb rt)
      · subst z; cases rt; exact k.ret hS (.tup ea (by simpa using rs))
    · cases hr
  · rename_i m a ea n b eb
    split at hr
    · rename_i xs ys e1 e2
      split at hr
      · rename_i hl
        obtain ⟨vs, q1, r1⟩ := hS.lst e1 ea
        obtain ⟨ws, q2, r2⟩ := hS.lst e2 eb
        cases hr
        exact op_cat pins s σ H _ _ v u Q I rx ry ⟨a, b, vs, ws, rfl, rfl, q1, q2, by rw [← r1.len, ← r2.len, sizeLine_eq]; exact hl, k.lst hS (r1.app r2)⟩
      · cases hr
    · cases hr
end
end N
set_option autoImplicit false
set_option Elab.async false
set_option linter.all false
set_option maxRecDepth 100000
set_option maxHeartbeats 4000000
namespace N
open PySem L2 PySem.Spec PyProof.Rows
section
variable {X : Cx}
theorem op_subN : OpR X (binaryOp .Sub) (r2 X.K fun S a b => binI S .sub a b) := by
  intro pins s σ H x y v u Q I rx ry h
  obtain ⟨ρ, S, da, db, d, S', hS, ra, rb, hr, k⟩ := h
  cases ra <;> cases rb <;> simp only [binI] at hr <;> try (cases hr; done)
  cases hr
  exact op_sub pins s σ H _ _ v u Q I rx ry ⟨_, _, rfl, rfl, k.ret hS (.int _)⟩
theorem op_fdivN : OpR X (binaryOp .FloorDiv) (r2 X.K fun S a b => binI S .fdiv a b) := by
  intro pins s σ H x y v u Q I rx ry h
  obtain ⟨ρ, S, da, db, d, S', hS, ra, rb, hr, k⟩ := h
  cases ra <;> cases rb <;> simp only [binI] at hr <;> try (cases hr; done)
  split at hr
  · rename_i c
    simp only [divOk, Bool.and_eq_true, decide_eq_true_eq] at c
    cases hr
    exact op_fdivW pins s σ H _ _ v u Q I rx ry ⟨_, _, rfl, rfl, c, k.ret hS (.int _)⟩
  · cases hr
theorem op_modN' : OpR X (binaryOp .Mod) (r2 X.K fun S a b => binI S .mod a b) := by
  intro pins s σ H x y v u Q I rx ry h
  obtain ⟨ρ, S, da, db, d, S', hS, ra, rb, hr, k⟩ := h
  cases ra <;> cases rb <;> simp only [binI] at hr <;> try (cases hr; done)
  split at hr
  · rename_i c
    simp only [decide_eq_true_eq] at c
    cases hr
    exact op_mod pins s σ H _ _ v u Q I rx ry ⟨_, _, rfl, rfl, c, k.ret hS (.int _)⟩
  · cases hr
theorem op_powN : OpR X (binaryOp .Pow) (r2 X.K fun S a b => binI S .pow a b) := by
  intro pins s σ H x y v u Q I rx ry h
  obtain ⟨ρ, S, da, db, d, S', hS, ra, rb, hr, k⟩ := h
  cases ra <;> cases rb <;> simp only [binI] at hr <;> try (cases hr; done)
  split at hr
  · rename_i c
    simp only [powOk, Bool.and_eq_true, decide_eq_true_eq] at c
    cases hr
    exact op_pow pins s σ H _ _ v u Q I rx ry ⟨_, _, rfl, rfl, ⟨c.1, c.2.1, c.2.2⟩, k.ret hS (.int _)⟩
  · cases hr
theorem op_shlN' : OpR X (binaryOp .LShift) (r2 X.K fun S a b => binI S .shl a b) := by
  intro pins s σ H x y v u Q I rx ry h
  obtain ⟨ρ, S, da, db, d, S', hS, ra, rb, hr, k⟩ := h
  cases ra <;> cases rb <;> simp only [binI] at hr <;> try (cases hr; done)
  split at hr
  · rename_i c
    simp only [powOk, Bool.and_eq_true, decide_eq_true_eq] at c
    cases hr
    exact op_shl pins s σ H _ _ v u Q I rx ry ⟨_, _, rfl, rfl, ⟨c.1, c.2.1, c.2.2⟩, k.ret hS (.int _)⟩
  · cases hr
theorem op_shrN' : OpR X (binaryOp .RShift) (r2 X.K fun S a b => binI S .shr a b) := by
  intro pins s σ H x y v u Q I rx ry h
  obtain ⟨ρ, S, da, db, d, S', hS, ra, rb, hr, k⟩ := h
  cases ra <;> cases rb <;> simp only [binI] at hr <;> try (cases hr; done)
  split at hr
  · rename_i c
    simp only [decide_eq_true_eq] at c
    cases hr
    exact op_shr pins s σ H _ _ v u Q I rx ry ⟨_, _, rfl, rfl, c, k.ret hS (.int _)⟩
  · cases hr
theorem xor_and_or : ∀ a b : Nat, (a ^^^ b) + (a &&& b) = a ||| b := by
  intro a
  induction a using Nat.strongRecOn with
  | _ a ih =>
    intro b
    by_cases h : a = 0
    · subst h; simp
    · have e := ih (a / 2) (by omega) (b / 2)
      have x1 := Nat.xor_div_two (a := a) (b := b)
      have x2 := Nat.and_div_two (a := a) (b := b)
      have x3 := Nat.or_div_two (a := a) (b := b)
      have m : ((a ^^^ b) % 2) + ((a &&& b) % 2) = (a ||| b) % 2 := by
        have y1 := Nat.xor_mod_two_pow (n := 1) (a := a) (b := b)
        have y2 := Nat.and_mod_two_pow (n := 1) (a := a) (b := b)
        have y3 := Nat.or_mod_two_pow (n := 1) (a := a) (b := b)
        simp only [Nat.pow_one] at y1 y2 y3
        rw [y1, y2, y3]
        rcases Nat.mod_two_eq_zero_or_one a with p | p <;> rcases Nat.mod_two_eq_zero_or_one b with r | r <;> rw [p, r] <;> decide
      rw [← x1, ← x2, ← x3] at e
      omega
theorem bitAnd_nn {i j : Int} (h1 : 0 ≤ i) (h2 : 0 ≤ j) : Builtin.bitAnd i j = ((i.toNat &&& j.toNat : Nat) : Int) := by
  unfold Builtin.bitAnd
  rw [decide_eq_true h1, decide_eq_true h2]
theorem bitNot_eq (i : Int) : Builtin.bitNot i = -i - 1 := by
  unfold Builtin.bitNot
  omega
theorem bitOr_nn {i j : Int} (h1 : 0 ≤ i) (h2 : 0 ≤ j) : Builtin.bitOr i j = ((i.toNat ||| j.toNat : Nat) : Int) := by
  unfold Builtin.bitOr Builtin.bitAnd
  rw [bitNot_eq i, bitNot_eq j, decide_eq_false (by omega), decide_eq_false (by omega)]
  simp only [bitNot_eq]
  have e1 : -(-i - 1) - 1 = i := by omega
  have e2 : -(-j - 1) - 1 = j := by omega
  rw [e1, e2]
  omega
theorem bitXor_nn {i j : Int} (h1 : 0 ≤ i) (h2 : 0 ≤ j) : Builtin.bitXor i j = ((i.toNat ^^^ j.toNat : Nat) : Int) := by
  unfold Builtin.bitXor
  rw [bitOr_nn h1 h2, bitAnd_nn h1 h2]
  have := xor_and_or i.toNat j.toNat
  omega
theorem op_bandN : OpR X (binaryOp .BitAnd) (r2 X.K fun S a b => binI S .band a b) := by
  intro pins s σ H x y v u Q I rx ry h
  obtain ⟨ρ, S, da, db, d, S', hS, ra, rb, hr, k⟩ := h
  cases ra <;> cases rb <;> simp only [binI] at hr <;> try (cases hr; done)
  split at hr
  · rename_i c
    simp only [Bool.and_eq_true, decide_eq_true_eq] at c
    cases hr
    exact op_and pins s σ H _ _ v u Q I rx ry ⟨_, _, rfl, rfl, by show Q (V.int (Builtin.bitAnd _ _)) H; rw [bitAnd_nn c.1 c.2]; exact k.ret hS (.int _)⟩
  · cases hr
theorem op_borN : OpR X (binaryOp .BitOr) (r2 X.K fun S a b => binI S .bor a b) := by
  intro pins s σ H x y v u Q I rx ry h
  obtain ⟨ρ, S, da, db, d, S', hS, ra, rb, hr, k⟩ := h
  cases ra <;> cases rb <;> simp only [binI] at hr <;> try (cases hr; done)
  split at hr
  · rename_i c
    simp only [Bool.and_eq_true, decide_eq_true_eq] at c
    cases hr
    exact op_or pins s σ H _ _ v u Q I rx ry ⟨_, _, rfl, rfl, by show Q (V.int (Builtin.bitOr _ _)) H; rw [bitOr_nn c.1 c.2]; exact k.ret hS (.int _)⟩
  · cases hr
theorem op_bxorN : OpR X (binaryOp .BitXor) (r2 X.K fun S a b => binI S .bxor a b) := by
  intro pins s σ H x y v u Q I rx ry h
  obtain ⟨ρ, S, da, db, d, S', hS, ra, rb, hr, k⟩ := h
  cases ra <;> cases rb <;> simp only [binI] at hr <;> try (cases hr; done)
  split at hr
  · rename_i c
    simp only [Bool.and_eq_true, decide_eq_true_eq] at c
    cases hr
    exact op_xor pins s σ H _ _ v u Q I rx ry ⟨_, _, rfl, rfl, by show Q (V.int (Builtin.bitXor _ _)) H; rw [bitXor_nn c.1 c.2]; exact k.ret hS (.int _)⟩
  · cases hr

/-! tuple * int where the tuple itself or the empty one is given -/
theorem tuple_mul_self (l : Addr) (items : Array Value) (n : Nat) (dd : Option Addr) (sl : Array (Option Value)) (x : Int) (u : Tok) (c0 : (decide (x < -(2 ^ 63)) || decide (x ≥ 2 ^ 63)) = false) (c1 : (items.isEmpty || x == 1) = true) :
    Meets (Builtin.«tuple.__mul__» ⟨[.ref l, .int x u], []⟩) (fun _ R s => s.heap.get? l = some { cls := .type "tuple", dict := dd, data := .seq items n, slots := sl } ∧ R (.ok (.ret (Value.ref l))) s) :=
  .of_wp fun prog w A R s h => by
    obtain ⟨hp, g, d, tk, os⟩ := s
    obtain ⟨hl, h⟩ := h
    have f1 := AutoSeq1.idx_int
    wp_walk using wpAny_loadPart' hl
    repeat (first
      | (refine wpAny_ite_false (decide_eq_false (by rw [c0]; exact Bool.false_ne_true)) ?_; wp_walk using wpAny_loadPart' hl)
      | (refine wpAny_ite_true (decide_eq_true c1) ?_; wp_walk using wpAny_loadPart' hl))
    exact ⟨_, rfl, h⟩
theorem tuple_mul_none (l : Addr) (items : Array Value) (n : Nat) (dd : Option Addr) (sl : Array (Option Value)) (x : Int) (u : Tok) (c0 : (decide (x < -(2 ^ 63)) || decide (x ≥ 2 ^ 63)) = false) (c1 : (items.isEmpty || x == 1) = false) (c2 : (decide (x ≤ 0) || items.isEmpty) = true) :
    Meets (Builtin.«tuple.__mul__» ⟨[.ref l, .int x u], []⟩) (fun _ R s => s.heap.get? l = some { cls := .type "tuple", dict := dd, data := .seq items n, slots := sl } ∧
      R (.ok (.ret (Value.ref s.heap.objs.size))) { s with heap := s.heap.push { cls := Value.type "tuple", data := Data.seq #[] }, toks := s.toks }) :=
  .of_wp fun prog w A R s h => by
    obtain ⟨hp, g, d, tk, os⟩ := s
    obtain ⟨hl, h⟩ := h
    have f1 := AutoSeq1.idx_int
    wp_walk using wpAny_loadPart' hl
    repeat (first
      | (refine wpAny_ite_false (decide_eq_false (by rw [c0]; exact Bool.false_ne_true)) ?_; wp_walk using wpAny_loadPart' hl)
      | (refine wpAny_ite_false (decide_eq_false (by rw [c1]; exact Bool.false_ne_true)) ?_; wp_walk using wpAny_loadPart' hl)
      | (refine wpAny_ite_true (decide_eq_true c2) ?_; wp_walk using wpAny_loadPart' hl))
    exact ⟨_, rfl, h⟩
theorem rep1 (xs : List D) : repL 1 xs = xs := by simp [repL]
theorem rep0 {k : Int} (h : k ≤ 0) (xs : List D) : repL k xs = [] := by
  have e : k.toNat = 0 := by omega
  simp [repL, e]
theorem repE (k : Int) : repL k [] = [] := by
  unfold repL
  induction k.toNat with
  | zero => rfl
  | succ n ih => simp [List.replicate_succ, ih]
theorem op_mulN : OpR X (binaryOp .Mult) (r2 X.K fun S a b => binI S .mul a b) := by
  intro pins s σ H x y v u Q I rx ry h
  obtain ⟨ρ, S, da, db, d, S', hS, ra, rb, hr, k⟩ := h
  cases ra <;> cases rb <;> simp only [binI] at hr <;> try (cases hr; done)
  · rename_i i j
    split at hr
    · rename_i c
      simp only [mulOk, Bool.or_eq_true, decide_eq_true_eq] at c
      cases hr
      rcases c with c | c | c
      · exact op_mul pins s σ H _ _ v u Q I rx ry ⟨i, j, rfl, rfl, .inl ⟨by omega, by omega⟩, k.ret hS (.int _)⟩
      · exact op_mul pins s σ H _ _ v u Q I rx ry ⟨i, j, rfl, rfl, .inr ⟨by omega, by omega⟩, k.ret hS (.int _)⟩
      · exact op_mulW pins s σ H _ _ v u Q I rx ry ⟨i, j, rfl, rfl, c, k.ret hS (.int _)⟩
    · cases hr
  · rename_i xs a vs ea rs m
    split at hr
    · rename_i c
      simp only [Bool.and_eq_true, decide_eq_true_eq] at c
      cases hr
      have hl := rs.len
      by_cases e1 : xs ≠ [] ∧ 2 ≤ m
      · have hne : vs ≠ [] := fun z => e1.1 (List.eq_nil_of_length_eq_zero (by rw [hl, z]; rfl))
        exact op_repT pins s σ H _ _ v u Q I rx ry ⟨a, m, vs, rfl, rfl, .of ea, hne, e1.2, c.2.2, by omega, k.tup hS (rs.rep m.toNat)⟩
      · cases rx
        obtain ⟨t, rfl⟩ := ry
        obtain ⟨its, r, ⟨⟨cls, dd, data, sl⟩, ho, hc, n, hd⟩, hs⟩ := I.tuple (SqT.of ea)
        simp only at hc hd
        subst hc hd
        have hle := r.length
        by_cases hm : -(2 ^ 63) ≤ m
        · have c0 : (decide (m < -(2 ^ 63)) || decide (m ≥ 2 ^ 63)) = false := by
            rw [decide_eq_false (by omega), decide_eq_false (by omega)] <;> rfl
          by_cases e2 : (its.toArray.isEmpty || m == 1) = true
          · refine wpAny_binaryOp_repeat_ref (T := "tuple") (U := "int") (by decide) ⟨_, ho, rfl⟩ (fun s' => typeIs_int s' m t) noFill_tuple_mul F.fills_int_mul F.slot_int_rmul repeat_tuple F.slot_int_index.lookup
              (call_meets F.slot_int_rmul (typeIs_int s m t) F.entry_int_rmul (F.args_int_rmul_2 _ _) (int_rmul_tuple m t a its.toArray n dd sl)
                ⟨ho, rfl, ⟨_, ho, rfl⟩, call_meets F.slot_tuple_mul ⟨_, ho, rfl⟩ F.entry_tuple_mul (F.args_tuple_mul_2 _ _) (tuple_mul_self a its.toArray n dd sl m t c0 e2) ⟨ho, ?_⟩⟩)
            refine ⟨.ref a, H, I, rfl, k.ret hS ?_⟩
            rw [Bool.or_eq_true] at e2
            rcases e2 with e2 | e2
            · have : its = [] := by simpa using e2
              subst this
              have hv : vs = [] := List.eq_nil_of_length_eq_zero (by simpa using hle)
              subst hv
              cases rs
              rw [repE]
              exact .tup ea .nil
            · have : m = 1 := by simpa using e2
              subst this
              rw [rep1]
              exact .tup ea rs
          · have e2' : (its.toArray.isEmpty || m == 1) = false := by simpa using e2
            have hm0 : m ≤ 0 := by
              rw [Bool.or_eq_false_iff] at e2'
              have h1 : m ≠ 1 := by simpa using e2'.2
              by_cases h2 : 2 ≤ m
              · exact absurd ⟨fun z => by
                  subst z
                  cases rs
                  have : its = [] := List.eq_nil_of_length_eq_zero (by simpa using hle.symm)
                  subst this
                  simp at e2', h2⟩ e1
              · omega
            have c2 : (decide (m ≤ 0) || its.toArray.isEmpty) = true := by rw [decide_eq_true hm0]; rfl
            refine wpAny_binaryOp_repeat_ref (T := "tuple") (U := "int") (by decide) ⟨_, ho, rfl⟩ (fun s' => typeIs_int s' m t) noFill_tuple_mul F.fills_int_mul F.slot_int_rmul repeat_tuple F.slot_int_index.lookup
              (call_meets F.slot_int_rmul (typeIs_int s m t) F.entry_int_rmul (F.args_int_rmul_2 _ _) (int_rmul_tuple m t a its.toArray n dd sl)
                ⟨ho, rfl, ⟨_, ho, rfl⟩, call_meets F.slot_tuple_mul ⟨_, ho, rfl⟩ F.entry_tuple_mul (F.args_tuple_mul_2 _ _) (tuple_mul_none a its.toArray n dd sl m t c0 e2' c2) ⟨ho, ?_⟩⟩)
            rw [rep0 hm0] at k
            refine ⟨.ref s.heap.objs.size, _, I.laid (t' := s.toks) (o := .tup []) (fun b ob q => Heap.get?_push_of_some _ q) (Nat.le_refl _) ?_, rfl, k.tup hS .nil _ (I.hok.fresh (Nat.le_refl _))⟩
            exact ⟨Nat.zero_le _, [], .nil, IsTup.new _ _⟩
        · exact absurd (by omega) hm
    · cases hr
  · rename_i n a ea m
    split at hr
    · rename_i xs e1
      split at hr
      · rename_i c
        simp only [Bool.and_eq_true, decide_eq_true_eq] at c
        obtain ⟨vs, q1, r1⟩ := hS.lst e1 ea
        cases hr
        exact op_rep pins s σ H _ _ v u Q I rx ry ⟨a, m, vs, rfl, rfl, q1, by omega, by omega, by rw [← r1.len, sizeLine_eq]; exact c.2.2, k.lst hS (r1.rep m.toNat)⟩
      · cases hr
    · cases hr
theorem op_binN (op : Op2) : OpR X (binaryOp (o2 op)) (r2 X.K fun S a b => binI S op a b) := by
  cases op
  · exact op_addN
  · exact op_subN
  · exact op_mulN
  · exact op_fdivN
  · exact op_modN'
  · exact op_powN
  · exact op_shlN'
  · exact op_shrN'
  · exact op_bandN
  · exact op_borN
  · exact op_bxorN
theorem se_bin {op : Op2} {a b : Expr} {xa xb : Env → Sto → RE} {pos : Pos} (ha : SE X a xa) (hb : SE X b xb) : SE X (.BinOp a (o2 op) b pos) (fun e S => match xa e S with
    | none => none
    | some (x, S1) => match xb e S1 with
      | none => none
      | some (y, S2) => binI S2 op x y) := PE.imp (pe_op (op_binN op) ha hb) fun _ _ _ h => seq2 h
end
end N
set_option autoImplicit false
set_option Elab.async false
set_option linter.all false
set_option maxRecDepth 100000
set_option maxHeartbeats 4000000
namespace N
open PySem L2 PySem.Spec PyProof.Rows
/-! ### trees -/
mutual
def D.real : D → Bool
  | .ref _ => false
  | .rep _ => false
  | .tup xs => D.reals xs
  | .lst xs => D.reals xs
  | _ => true
def D.reals : List D → Bool
  | [] => true
  | x :: xs => D.real x && D.reals xs
end
theorem mapO_some {α β : Type} {f : α → Option β} {x : α} {xs : List α} {ts : List β} (h : mapO f (x :: xs) = some ts) : ∃ y ys, f x = some y ∧ mapO f xs = some ys ∧ ts = y :: ys := by
  unfold mapO at h
  split at h
  · cases h
  · rename_i y e
    split at h
    · cases h
    · rename_i ys e2
      cases h
      exact ⟨y, ys, e, e2, rfl⟩
theorem toPys_real : ∀ (n : Nat) (S : Sto) (d t : D), rd n S d = some t → D.real t = true ∧ (toPy t).depth ≤ n
  | _, _, .non, t, h => by simp only [rd] at h; cases h; exact ⟨rfl, Nat.zero_le _⟩
  | _, _, .bl b, t, h => by simp only [rd] at h; cases h; exact ⟨rfl, Nat.zero_le _⟩
  | _, _, .int b, t, h => by simp only [rd] at h; cases h; exact ⟨rfl, Nat.zero_le _⟩
  | _, _, .str b, t, h => by simp only [rd] at h; cases h; exact ⟨rfl, Nat.zero_le _⟩
  | 0, _, .tup xs, t, h => by simp only [rd] at h; cases h
  | 0, _, .ref a, t, h => by simp only [rd] at h; cases h
  | n + 1, S, .tup xs, t, h => by
    simp only [rd] at h
    obtain ⟨ts, e, rfl⟩ := Option.map_eq_some_iff.mp h
    have q : ∀ (xs ts : List D), mapO (rd n S) xs = some ts → D.reals ts = true ∧ PyData.depthAll (toPys ts) ≤ n := by
      intro xs
      induction xs with
      | nil => intro ts h; simp only [mapO] at h; cases h; exact ⟨rfl, Nat.zero_le _⟩
      | cons x xs ih =>
        intro ts h
        obtain ⟨y, ys, e1, e2, rfl⟩ := mapO_some h
        obtain ⟨a1, a2⟩ := toPys_real n S x y e1
        obtain ⟨b1, b2⟩ := ih ys e2
        exact ⟨by simp [D.reals, a1, b1], Nat.max_le.mpr ⟨a2, b2⟩⟩
    obtain ⟨a, b⟩ := q xs ts e
    exact ⟨a, Nat.succ_le_succ b⟩
  | n + 1, S, .ref a, t, h => by
    simp only [rd] at h
    split at h
    · rename_i xs _
      obtain ⟨ts, e, rfl⟩ := Option.map_eq_some_iff.mp h
      have q : ∀ (xs ts : List D), mapO (rd n S) xs = some ts → D.reals ts = true ∧ PyData.depthAll (toPys ts) ≤ n := by
        intro xs
        induction xs with
        | nil => intro ts h; simp only [mapO] at h; cases h; exact ⟨rfl, Nat.zero_le _⟩
        | cons x xs ih =>
          intro ts h
          obtain ⟨y, ys, e1, e2, rfl⟩ := mapO_some h
          obtain ⟨a1, a2⟩ := toPys_real n S x y e1
          obtain ⟨b1, b2⟩ := ih ys e2
          exact ⟨by simp [D.reals, a1, b1], Nat.max_le.mpr ⟨a2, b2⟩⟩
      obtain ⟨a, b⟩ := q xs ts e
      exact ⟨a, Nat.succ_le_succ b⟩
    · rename_i xs _
      obtain ⟨ts, e, rfl⟩ := Option.map_eq_some_iff.mp h
      have q : ∀ (xs ts : List D), mapO (rd n S) xs = some ts → D.reals ts = true ∧ PyData.depthAll (toPys ts) ≤ n := by
        intro xs
        induction xs with
        | nil => intro ts h; simp only [mapO] at h; cases h; exact ⟨rfl, Nat.zero_le _⟩
        | cons x xs ih =>
          intro ts h
          obtain ⟨y, ys, e1, e2, rfl⟩ := mapO_some h
          obtain ⟨a1, a2⟩ := toPys_real n S x y e1
          obtain ⟨b1, b2⟩ := ih ys e2
          exact ⟨by simp [D.reals, a1, b1], Nat.max_le.mpr ⟨a2, b2⟩⟩
      obtain ⟨a, b⟩ := q xs ts e
      exact ⟨a, Nat.succ_le_succ b⟩
    · cases h
  | 0, _, .lst _, t, h => by simp only [rd] at h; cases h
  | n + 1, _, .lst _, t, h => by simp only [rd] at h; cases h
  | 0, _, .rep _, t, h => by simp only [rd] at h; cases h
  | n + 1, _, .rep _, t, h => by simp only [rd] at h; cases h
section
variable {X : Cx} {K : PySem.W.Frag} {ρ : List Addr} {H : Hp} {S : Sto}
theorem rd_dp (s : SR K ρ H S) : ∀ (n : Nat) (d t : D) (v : V), VR ρ H d v → rd n S d = some t → Dp K H v (toPy t)
  | _, .non, t, v, r, h => by simp only [rd] at h; cases h; cases r; exact .non
  | _, .bl b, t, v, r, h => by simp only [rd] at h; cases h; cases r; exact .bl b
  | _, .int b, t, v, r, h => by simp only [rd] at h; cases h; cases r; exact .int b
  | _, .str b, t, v, r, h => by simp only [rd] at h; cases h; cases r; exact .str _
  | 0, .tup xs, t, v, r, h => by simp only [rd] at h; cases h
  | 0, .ref a, t, v, r, h => by simp only [rd] at h; cases h
  | n + 1, .tup xs, t, v, r, h => by
    simp only [rd] at h
    obtain ⟨ts, e, rfl⟩ := Option.map_eq_some_iff.mp h
    cases r with
    | tup ea rs =>
      have q : ∀ (xs ts : List D) (vs : List V), VRs ρ H xs vs → mapO (rd n S) xs = some ts → DpAll K H vs (toPys ts) := by
        intro xs
        induction xs with
        | nil => intro ts vs r h; simp only [mapO] at h; cases h; cases r; exact .nil
        | cons x xs ih =>
          intro ts vs r h
          obtain ⟨y, ys, e1, e2, rfl⟩ := mapO_some h
          cases r with
          | cons r1 r2 => exact .cons (rd_dp s n x y _ r1 e1) (ih ys _ r2 e2)
      exact .tup (.of ea) (q xs ts _ rs e)
  | n + 1, .ref a, t, v, r, h => by
    simp only [rd] at h
    split at h
    · rename_i xs e0
      obtain ⟨ts, e, rfl⟩ := Option.map_eq_some_iff.mp h
      cases r with
      | ref ea =>
        obtain ⟨vs, e1, rs⟩ := s.lst e0 ea
        have q : ∀ (xs ts : List D) (vs : List V), VRs ρ H xs vs → mapO (rd n S) xs = some ts → DpAll K H vs (toPys ts) := by
          intro xs
          induction xs with
          | nil => intro ts vs r h; simp only [mapO] at h; cases h; cases r; exact .nil
          | cons x xs ih =>
            intro ts vs r h
            obtain ⟨y, ys, e1, e2, rfl⟩ := mapO_some h
            cases r with
            | cons r1 r2 => exact .cons (rd_dp s n x y _ r1 e1) (ih ys _ r2 e2)
        exact .lst (.of e1) (q xs ts _ rs e)
    · rename_i xs e0
      obtain ⟨ts, e, rfl⟩ := Option.map_eq_some_iff.mp h
      cases r with
      | ref ea =>
        obtain ⟨o, vs, e1, _, _, rs⟩ := s.at_ _ _ _ e0 ea
        have q : ∀ (xs ts : List D) (vs : List V), VRs ρ H xs vs → mapO (rd n S) xs = some ts → DpAll K H vs (toPys ts) := by
          intro xs
          induction xs with
          | nil => intro ts vs r h; simp only [mapO] at h; cases h; cases r; exact .nil
          | cons x xs ih =>
            intro ts vs r h
            obtain ⟨y, ys, e1, e2, rfl⟩ := mapO_some h
            cases r with
            | cons r1 r2 => exact .cons (rd_dp s n x y _ r1 e1) (ih ys _ r2 e2)
        exact .tup (.inl (.inr ⟨o, e1⟩)) (q xs ts _ rs e)
    · cases h
  | 0, .lst _, t, v, r, h => by simp only [rd] at h; cases h
  | n + 1, .lst _, t, v, r, h => by simp only [rd] at h; cases h
  | 0, .rep _, t, v, r, h => by simp only [rd] at h; cases h
  | n + 1, .rep _, t, v, r, h => by simp only [rd] at h; cases h
end
theorem sOf_eq {a b : List Nat} : (sOf a == sOf b) = decide (a = b) := by
  by_cases h : a = b
  · subst h; simp
  · have h2 : sOf a ≠ sOf b := fun z => h (by
      have : (sOf a).cps.toList = (sOf b).cps.toList := by rw [z]
      simpa [sOf] using this)
    rw [beq_eq_false_iff_ne.mpr h2, decide_eq_false h]
mutual
theorem canLay_py : ∀ t : D, D.okS t = true → (toPy t).canLay0 = true
  | .non, _ => rfl
  | .bl _, _ => rfl
  | .int _, _ => rfl
  | .str s, h => by
    show PyData.strOk (sOf s) = true
    have h' : (s.all fun c => decide (c < 55296)) = true := h
    unfold PyData.strOk sOf
    simp only [List.all_toArray', List.all_eq_true, decide_eq_true_eq] at h' ⊢
    intro c hc
    have := h' c hc
    omega
  | .tup xs, h => canLays_py xs h
  | .lst xs, h => canLays_py xs h
  | .ref _, _ => rfl
  | .rep _, _ => rfl
theorem canLays_py : ∀ ts : List D, D.okSs ts = true → PyData.canLayAll0 (toPys ts) = true
  | [], _ => rfl
  | x :: xs, h => by
    have h' := Bool.and_eq_true_iff.mp (show (D.okS x && D.okSs xs) = true from h)
    show ((toPy x).canLay0 && PyData.canLayAll0 (toPys xs)) = true
    rw [canLay_py x h'.1, canLays_py xs h'.2] <;> rfl
end
theorem shaped_py {n : Nat} {S : Sto} {d t : D} (h : rd n S d = some t) (hn : n ≤ 64) (ok : D.okS t = true) : SeqAt.shaped (toPy t) = true := by
  have h1 := (toPys_real n S d t h).2
  show ((toPy t).canLay0 && decide ((toPy t).depth ≤ 64)) = true
  rw [canLay_py t ok, decide_eq_true (by omega)] <;> rfl
mutual
theorem pyeq_eqv : ∀ a b : D, D.real a = true → D.real b = true → D.pyeq a b = PyData.eqv (toPy a) (toPy b)
  | .non, b, _, hb => by cases b <;> first | rfl | cases hb
  | .bl x, b, _, hb => by
    cases b <;> first | rfl | (cases hb; done)
  | .int x, b, _, hb => by
    cases b <;> first | rfl | (cases hb; done) | skip
  | .str x, b, _, hb => by
    cases b <;> first | rfl | (cases hb; done) | skip
    rename_i y
    show decide (x = y) = (sOf x == sOf y)
    rw [sOf_eq]
  | .tup x, b, ha, hb => by
    cases b <;> first | rfl | (cases hb; done) | skip
    rename_i y
    exact pyeqs_eqv x y ha hb
  | .lst x, b, ha, hb => by
    cases b <;> first | rfl | (cases hb; done) | skip
    rename_i y
    exact pyeqs_eqv x y ha hb
  | .ref _, _, h, _ => by cases h
  | .rep _, _, h, _ => by cases h
theorem pyeqs_eqv : ∀ a b : List D, D.reals a = true → D.reals b = true → D.pyeqs a b = PyData.eqvAll (toPys a) (toPys b)
  | [], [], _, _ => rfl
  | [], _ :: _, _, _ => rfl
  | _ :: _, [], _, _ => rfl
  | x :: xs, y :: ys, ha, hb => by
    have h1 := Bool.and_eq_true_iff.mp (show (D.real x && D.reals xs) = true from ha)
    have h2 := Bool.and_eq_true_iff.mp (show (D.real y && D.reals ys) = true from hb)
    show (D.pyeq x y && D.pyeqs xs ys) = (PyData.eqv (toPy x) (toPy y) && PyData.eqvAll (toPys xs) (toPys ys))
    rw [pyeq_eqv x y h1.1 h2.1, pyeqs_eqv xs ys h1.2 h2.2]
end
end N
set_option autoImplicit false
set_option Elab.async false
set_option linter.all false
set_option maxRecDepth 100000
set_option maxHeartbeats 4000000
namespace N
open PySem L2 PySem.Spec PyProof.Rows
def oc : Cmp → CmpOp
  | .eq => .Eq | .ne => .NotEq | .lt => .Lt | .le => .LtE | .gt => .Gt | .ge => .GtE | .is => .Is | .isnt => .IsNot | .inn => .In | .nin => .NotIn
def cmpR (S : Sto) (o : Cmp) (a b : D) : RE := (cmpI S o a b).map fun c => (.bl c, S)
theorem cmpR_some {S S' : Sto} {o : Cmp} {a b d : D} (h : cmpR S o a b = some (d, S')) : ∃ c, cmpI S o a b = some c ∧ d = .bl c ∧ S' = S := by
  obtain ⟨c, e, q⟩ := Option.map_eq_some_iff.mp h
  cases q
  exact ⟨c, e, rfl, rfl⟩
section
variable {X : Cx}
/-- == by the tree rules -/
theorem eq_rd {S : Sto} {a b : D} {x y : D} {c : Bool} {K : PySem.W.Frag} {ρ : List Addr} {H : Hp} {v u : V} (s : SR K ρ H S) (ra : VR ρ H a v) (rb : VR ρ H b u) (e1 : rd RD S a = some x) (e2 : rd RD S b = some y) (ok : (D.okS x && D.okS y) = true) (ec : D.pyeq x y = c) :
    ∃ d e, Dp K H v d ∧ Dp K H u e ∧ SeqAt.shaped d = true ∧ SeqAt.shaped e = true ∧ PyData.eqv d e = c := by
  have k := Bool.and_eq_true_iff.mp ok
  exact ⟨_, _, rd_dp s RD a x v ra e1, rd_dp s RD b y u rb e2, shaped_py e1 (by decide) k.1, shaped_py e2 (by decide) k.2, by rw [← pyeq_eqv x y (toPys_real _ _ _ _ e1).1 (toPys_real _ _ _ _ e2).1]; exact ec⟩
/-- what == says, either by the scalars' rule or by the trees' -/
theorem eqV_says {S : Sto} {a b : D} {c : Bool} {K : PySem.W.Frag} {ρ : List Addr} {H : Hp} {v u : V} (s : SR K ρ H S) (ra : VR ρ H a v) (rb : VR ρ H b u) (h : eqV S a b = some c) :
    (scal v u = true ∧ decide (v = u) = c) ∨ ∃ d e, Dp K H v d ∧ Dp K H u e ∧ SeqAt.shaped d = true ∧ SeqAt.shaped e = true ∧ PyData.eqv d e = c := by
  unfold eqV at h
  split at h
  · cases ra; cases rb; cases h
    refine .inl ⟨rfl, ?_⟩
    rename_i i j
    by_cases e : i = j
    · subst e; simp
    · rw [decide_eq_false e, decide_eq_false (fun q => e (V.int.inj q))]
  · cases ra; cases rb; cases h
    refine .inl ⟨rfl, ?_⟩
    rename_i i j
    by_cases e : i = j
    · subst e; simp
    · have : sOf i ≠ sOf j := fun z => by
        have q := sOf_eq (a := i) (b := j)
        rw [z, decide_eq_false e] at q
        simp at q
      rw [decide_eq_false e, decide_eq_false (fun q => this (V.str.inj q))]
  · cases ra; cases rb; cases h
    refine .inl ⟨rfl, ?_⟩
    rename_i i j
    by_cases e : i = j
    · subst e; simp
    · rw [decide_eq_false e, decide_eq_false (fun q => e (V.bl.inj q))]
  · cases ra; cases rb; cases h
    exact .inl ⟨rfl, by simp⟩
  · cases ra; cases rb
    split at h
    · rename_i x y e
      cases h
      rw [D.eqv_iff] at e
      subst e
      exact .inl ⟨rfl, by simp⟩
    · cases h
  · split at h
    · rename_i x y e1 e2
      split at h
      · rename_i ok
        cases h
        exact .inr (eq_rd s ra rb e1 e2 ok rfl)
      · cases h
    · cases h
theorem op_eqN (hu : X.A.units + 64 < cLine) : OpR X (compareOp .Eq) (r2 X.K fun S a b => cmpR S .eq a b) := by
  intro pins s σ H x y v u Q I rx ry h
  obtain ⟨ρ, S, da, db, d, S', hS, ra, rb, hr, k⟩ := h
  obtain ⟨c, hc, rfl, rfl⟩ := cmpR_some hr
  rcases eqV_says hS ra rb hc with ⟨e1, e2⟩ | ⟨d, e, h1, h2, h3, h4, h5⟩
  · exact op_eq pins s σ H _ _ v u Q I rx ry ⟨e1, by rw [e2]; exact k.ret hS (.bl c)⟩
  · exact op_eqD hu pins s σ H _ _ v u Q I rx ry ⟨d, e, h1, h2, h3, h4, by rw [h5]; exact k.ret hS (.bl c)⟩
theorem op_neN (hu : X.A.units + 64 < cLine) : OpR X (compareOp .NotEq) (r2 X.K fun S a b => cmpR S .ne a b) := by
  intro pins s σ H x y v u Q I rx ry h
  obtain ⟨ρ, S, da, db, d, S', hS, ra, rb, hr, k⟩ := h
  obtain ⟨c, hc, rfl, rfl⟩ := cmpR_some hr
  obtain ⟨c', hc', rfl⟩ := Option.map_eq_some_iff.mp (show (eqV _ da db).map (!·) = some c from hc)
  rcases eqV_says hS ra rb hc' with ⟨e1, e2⟩ | ⟨d, e, h1, h2, h3, h4, h5⟩
  · exact op_ne pins s σ H _ _ v u Q I rx ry ⟨e1, by rw [e2]; exact k.ret hS (.bl _)⟩
  · exact op_neD hu pins s σ H _ _ v u Q I rx ry ⟨d, e, h1, h2, h3, h4, by rw [h5]; exact k.ret hS (.bl _)⟩
theorem op_ltN : OpR X (compareOp .Lt) (r2 X.K fun S a b => cmpR S .lt a b) := by
  intro pins s σ H x y v u Q I rx ry h
  obtain ⟨ρ, S, da, db, d, S', hS, ra, rb, hr, k⟩ := h
  obtain ⟨c, hc, rfl, rfl⟩ := cmpR_some hr
  cases ra <;> cases rb <;> simp only [cmpI] at hc <;> try (cases hc; done)
  cases hc
  exact op_lt pins s σ H _ _ v u Q I rx ry ⟨_, _, rfl, rfl, k.ret hS (.bl _)⟩
theorem op_leN : OpR X (compareOp .LtE) (r2 X.K fun S a b => cmpR S .le a b) := by
  intro pins s σ H x y v u Q I rx ry h
  obtain ⟨ρ, S, da, db, d, S', hS, ra, rb, hr, k⟩ := h
  obtain ⟨c, hc, rfl, rfl⟩ := cmpR_some hr
  cases ra <;> cases rb <;> simp only [cmpI] at hc <;> try (cases hc; done)
  cases hc
  exact op_le pins s σ H _ _ v u Q I rx ry ⟨_, _, rfl, rfl, k.ret hS (.bl _)⟩
theorem op_gtN : OpR X (compareOp .Gt) (r2 X.K fun S a b => cmpR S .gt a b) := by
  intro pins s σ H x y v u Q I rx ry h
  obtain ⟨ρ, S, da, db, d, S', hS, ra, rb, hr, k⟩ := h
  obtain ⟨c, hc, rfl, rfl⟩ := cmpR_some hr
  cases ra <;> cases rb <;> simp only [cmpI] at hc <;> try (cases hc; done)
  cases hc
  exact op_gt pins s σ H _ _ v u Q I rx ry ⟨_, _, rfl, rfl, k.ret hS (.bl _)⟩
theorem op_geN : OpR X (compareOp .GtE) (r2 X.K fun S a b => cmpR S .ge a b) := by
  intro pins s σ H x y v u Q I rx ry h
  obtain ⟨ρ, S, da, db, d, S', hS, ra, rb, hr, k⟩ := h
  obtain ⟨c, hc, rfl, rfl⟩ := cmpR_some hr
  cases ra <;> cases rb <;> simp only [cmpI] at hc <;> try (cases hc; done)
  cases hc
  exact op_ge pins s σ H _ _ v u Q I rx ry ⟨_, _, rfl, rfl, k.ret hS (.bl _)⟩
theorem VR.isNon {ρ : List Addr} {H : Hp} {d : D} {v : V} (r : VR ρ H d v) : decide (v = V.non) = decide (d = D.non) := by
  cases r <;> rfl
theorem op_isN' : OpR X (compareOp .Is) (r2 X.K fun S a b => cmpR S .is a b) := by
  intro pins s σ H x y v u Q I rx ry h
  obtain ⟨ρ, S, da, db, d, S', hS, ra, rb, hr, k⟩ := h
  obtain ⟨c, hc, rfl, rfl⟩ := cmpR_some hr
  cases rb with
  | non =>
    simp only [cmpI] at hc
    cases hc
    exact op_isN pins s σ H _ _ v u Q I rx ry ⟨rfl, by rw [ra.isNon]; exact k.ret hS (.bl _)⟩
  | bl b =>
    cases ra <;> simp only [cmpI] at hc <;> try (cases hc; done)
    cases hc
    exact op_isBl pins s σ H _ _ v u Q I rx ry ⟨_, _, rfl, rfl, k.ret hS (.bl _)⟩
  | _ => cases ra <;> simp only [cmpI] at hc <;> cases hc
theorem op_isntN : OpR X (compareOp .IsNot) (r2 X.K fun S a b => cmpR S .isnt a b) := by
  intro pins s σ H x y v u Q I rx ry h
  obtain ⟨ρ, S, da, db, d, S', hS, ra, rb, hr, k⟩ := h
  obtain ⟨c, hc, rfl, rfl⟩ := cmpR_some hr
  cases rb with
  | non =>
    simp only [cmpI] at hc
    cases hc
    exact op_notN pins s σ H _ _ v u Q I rx ry ⟨rfl, by rw [ra.isNon]; exact k.ret hS (.bl _)⟩
  | bl b =>
    cases ra <;> simp only [cmpI] at hc <;> try (cases hc; done)
    cases hc
    exact op_notBl pins s σ H _ _ v u Q I rx ry ⟨_, _, rfl, rfl, k.ret hS (.bl _)⟩
  | _ => cases ra <;> simp only [cmpI] at hc <;> cases hc

/-! ### dicts: keys, values -/
theorem kD_inj {a b : Key} (h : kD a = kD b) : a = b := by
  cases a <;> cases b <;> simp only [kD] at h
  · rw [D.int.inj h]
  · cases h
  · cases h
  · rename_i x y
    have q := D.str.inj h
    obtain ⟨⟨x⟩⟩ := x
    obtain ⟨⟨y⟩⟩ := y
    have : x = y := by simpa using q
    rw [this]
theorem kDs_inj : ∀ {a b : List Key}, a.map kD = b.map kD → a = b
  | [], [], _ => rfl
  | [], _ :: _, h => by cases h
  | _ :: _, [], h => by cases h
  | x :: xs, y :: ys, h => by
    simp only [List.map_cons, List.cons.injEq] at h
    rw [kD_inj h.1, kDs_inj h.2]
theorem keyK_kD {d : D} (h : keyK d = true) : ∃ k, d = kD k := by
  cases d <;> simp only [keyK] at h <;> try (cases h; done)
  · exact ⟨.inl _, rfl⟩
  · rename_i s; exact ⟨.inr (sOf s), by simp [kD, sOf]⟩
theorem keyK_of (k : Key) : keyK (kD k) = true := by cases k <;> rfl
theorem keyT_kD {d : D} (h : keyT d = true) : ∃ ks : List Key, d = .tup (ks.map kD) := by
  cases d <;> simp only [keyT] at h <;> try (cases h; done)
  rename_i xs
  have : ∀ xs : List D, xs.all keyK = true → ∃ ks : List Key, xs = ks.map kD := by
    intro xs
    induction xs with
    | nil => intro _; exact ⟨[], rfl⟩
    | cons x xs ih =>
      intro h
      have h' := Bool.and_eq_true_iff.mp (show (keyK x && xs.all keyK) = true from h)
      obtain ⟨k, rfl⟩ := keyK_kD h'.1
      obtain ⟨ks, rfl⟩ := ih h'.2
      exact ⟨k :: ks, rfl⟩
  obtain ⟨ks, rfl⟩ := this xs h
  exact ⟨ks, rfl⟩
theorem keyK_tup (ks : List Key) : keyK (.tup (ks.map kD)) = false := rfl
theorem keyT_kD' (k : Key) : keyT (kD k) = false := by cases k <;> rfl
section
variable {K : PySem.W.Frag} {ρ ρ' : List Addr} {H H' : Hp}
theorem VR.key {k : Key} {v : V} (r : VR ρ H (kD k) v) : v = kV k := by
  cases k with
  | inl i => cases r; rfl
  | inr x =>
    have r' : VR ρ H (.str x.cps.toList) v := r
    cases r'
    obtain ⟨⟨x⟩⟩ := x
    rfl
theorem VR.keyOf (k : Key) : VR ρ H (kD k) (kV k) := by
  cases k with
  | inl i => exact .int i
  | inr x =>
    have : VR ρ H (.str x.cps.toList) (.str (sOf x.cps.toList)) := .str _
    obtain ⟨⟨x⟩⟩ := x
    exact this
theorem VRs.keys : ∀ {ks : List Key} {vs : List V}, VRs ρ H (ks.map kD) vs → vs = ks.map kV
  | [], _, h => by cases h; rfl
  | k :: ks, _, h => by
    cases h with
    | cons r t => rw [r.key, VRs.keys t]; rfl
theorem eqv_kD (a b : Key) : D.eqv (kD a) (kD b) = decide (a = b) := by
  by_cases h : a = b
  · subst h; rw [decide_eq_true rfl]; exact (D.eqv_iff _ _).mpr rfl
  · rw [decide_eq_false h]
    cases q : D.eqv (kD a) (kD b) with
    | false => rfl
    | true => exact absurd (kD_inj ((D.eqv_iff _ _).mp q)) h
theorem eqv_kDs (a b : List Key) : D.eqv (.tup (a.map kD)) (.tup (b.map kD)) = decide (a = b) := by
  by_cases h : a = b
  · subst h; rw [decide_eq_true rfl]; exact (D.eqv_iff _ _).mpr rfl
  · rw [decide_eq_false h]
    cases q : D.eqv (.tup (a.map kD)) (.tup (b.map kD)) with
    | false => rfl
    | true => exact absurd (kDs_inj (D.tup.inj ((D.eqv_iff _ _).mp q))) h
def oR (ρ : List Addr) (H : Hp) : Option D → Option V → Prop
  | some d, some v => VR ρ H d v
  | none, none => True
  | _, _ => False
theorem kR.get (k : Key) : ∀ {ps : List (D × D)} {qs : List (Key × V)}, kR ρ H ps qs → oR ρ H (dget ps (kD k)) (valV qs k)
  | [], [], _ => trivial
  | p :: ps, q :: qs, h => by
    have ih := kR.get k h.2.2
    unfold dget valV at *
    rw [List.find?_cons, List.find?_cons, h.1, eqv_kD]
    by_cases e : q.1 = k
    · rw [decide_eq_true e]; exact h.2.1
    · rw [decide_eq_false e]; exact ih
theorem tR.get (k : List Key) : ∀ {ps : List (D × D)} {qs : List (List Key × V)}, tR ρ H ps qs → oR ρ H (dget ps (.tup (k.map kD))) (valV qs k)
  | [], [], _ => trivial
  | p :: ps, q :: qs, h => by
    have ih := tR.get k h.2.2
    unfold dget valV at *
    rw [List.find?_cons, List.find?_cons, h.1, eqv_kDs]
    by_cases e : q.1 = k
    · rw [decide_eq_true e]; exact h.2.1
    · rw [decide_eq_false e]; exact ih
theorem kR.any (k : Key) : ∀ {ps : List (D × D)} {qs : List (Key × V)}, kR ρ H ps qs → (ps.any fun p => D.eqv p.1 (kD k)) = qs.any fun q => decide (q.1 = k)
  | [], [], _ => rfl
  | p :: ps, q :: qs, h => by rw [List.any_cons, List.any_cons, kR.any k h.2.2, h.1, eqv_kD]
theorem tR.any (k : List Key) : ∀ {ps : List (D × D)} {qs : List (List Key × V)}, tR ρ H ps qs → (ps.any fun p => D.eqv p.1 (.tup (k.map kD))) = qs.any fun q => decide (q.1 = k)
  | [], [], _ => rfl
  | p :: ps, q :: qs, h => by rw [List.any_cons, List.any_cons, tR.any k h.2.2, h.1, eqv_kDs]
theorem kR.map (k : Key) {d : D} {v : V} (r : VR ρ H d v) : ∀ {ps : List (D × D)} {qs : List (Key × V)}, kR ρ H ps qs → kR ρ H (ps.map fun p => if D.eqv p.1 (kD k) then (p.1, d) else p) (qs.map fun q => if q.1 = k then (q.1, v) else q)
  | [], [], _ => trivial
  | p :: ps, q :: qs, h => by
    have ih := kR.map k r h.2.2
    rw [List.map_cons, List.map_cons]
    have e1 : D.eqv p.1 (kD k) = decide (q.1 = k) := by rw [h.1, eqv_kD]
    by_cases e : q.1 = k
    · rw [e1, decide_eq_true e, if_pos rfl, if_pos e]; exact ⟨h.1, r, ih⟩
    · rw [e1, decide_eq_false e, if_neg Bool.false_ne_true, if_neg e]; exact ⟨h.1, h.2.1, ih⟩
theorem tR.map (k : List Key) {d : D} {v : V} (r : VR ρ H d v) : ∀ {ps : List (D × D)} {qs : List (List Key × V)}, tR ρ H ps qs → tR ρ H (ps.map fun p => if D.eqv p.1 (.tup (k.map kD)) then (p.1, d) else p) (qs.map fun q => if q.1 = k then (q.1, v) else q)
  | [], [], _ => trivial
  | p :: ps, q :: qs, h => by
    have ih := tR.map k r h.2.2
    rw [List.map_cons, List.map_cons]
    have e1 : D.eqv p.1 (.tup (k.map kD)) = decide (q.1 = k) := by rw [h.1, eqv_kDs]
    by_cases e : q.1 = k
    · rw [e1, decide_eq_true e, if_pos rfl, if_pos e]; exact ⟨h.1, r, ih⟩
    · rw [e1, decide_eq_false e, if_neg Bool.false_ne_true, if_neg e]; exact ⟨h.1, h.2.1, ih⟩
theorem kR.snoc (k : Key) {d : D} {v : V} (r : VR ρ H d v) : ∀ {ps : List (D × D)} {qs : List (Key × V)}, kR ρ H ps qs → kR ρ H (ps ++ [(kD k, d)]) (qs ++ [(k, v)])
  | [], [], _ => ⟨rfl, r, trivial⟩
  | _ :: _, _ :: _, h => ⟨h.1, h.2.1, kR.snoc k r h.2.2⟩
theorem tR.snoc (k : List Key) {d : D} {v : V} (r : VR ρ H d v) : ∀ {ps : List (D × D)} {qs : List (List Key × V)}, tR ρ H ps qs → tR ρ H (ps ++ [(.tup (k.map kD), d)]) (qs ++ [(k, v)])
  | [], [], _ => ⟨rfl, r, trivial⟩
  | _ :: _, _ :: _, h => ⟨h.1, h.2.1, tR.snoc k r h.2.2⟩
theorem kR.put (k : Key) {d : D} {v : V} (r : VR ρ H d v) {ps : List (D × D)} {qs : List (Key × V)} (h : kR ρ H ps qs) : kR ρ H (dput ps (kD k) d) (putK qs k v) := by
  unfold dput putK
  rw [h.any k]
  split
  · exact h.map k r
  · exact h.snoc k r
theorem tR.put (k : List Key) {d : D} {v : V} (r : VR ρ H d v) {ps : List (D × D)} {qs : List (List Key × V)} (h : tR ρ H ps qs) : tR ρ H (dput ps (.tup (k.map kD)) d) (putK qs k v) := by
  unfold dput putK
  rw [h.any k]
  split
  · exact h.map k r
  · exact h.snoc k r
theorem kR.len : ∀ {ps : List (D × D)} {qs : List (Key × V)}, kR ρ H ps qs → ps.length = qs.length
  | [], [], _ => rfl
  | _ :: _, _ :: _, h => congrArg Nat.succ (kR.len h.2.2)
theorem tR.len : ∀ {ps : List (D × D)} {qs : List (List Key × V)}, tR ρ H ps qs → ps.length = qs.length
  | [], [], _ => rfl
  | _ :: _, _ :: _, h => congrArg Nat.succ (tR.len h.2.2)
end
end
end N
set_option autoImplicit false
set_option Elab.async false
set_option linter.all false
set_option maxRecDepth 100000
set_option maxHeartbeats 4000000
namespace N
open PySem L2 PySem.Spec PyProof.Rows
section
variable {X : Cx} {pins : List (Addr × Obj)} {σ : L2.St} {H : Hp} {s : Shared} {a : Addr}
/-- the empty dict may be told with either sort of keys -/
theorem emptyT (I : L2.Inv X pins σ H s) (h : H a = some (.dK [])) : L2.Inv X pins σ (upd H a (.dT [])) s := by
  have ok := I.hok a _ h
  obtain ⟨z, y, vs, r, ob, es, ep, e, ed, ep2, ks, eq, nd⟩ := ok
  have hv : vs = [] := by cases r; rfl
  subst hv
  have he : es.toList = [] := by
    generalize es.toList = l at eq
    cases eq; rfl
  have new : ObjOk X.prog X.w (upd H a (.dT [])) s.heap a (.dT []) := ⟨z, y, [], .nil, ob, es, ep, e, ed, ep2, he, by simp⟩
  exact I.write (t' := s.toks) (x := a) (e := a) (by rw [h]; trivial) (.inl rfl) (fun b u _ q => q) ⟨ob, e⟩ new
theorem emptyK (I : L2.Inv X pins σ H s) (h : H a = some (.dT [])) : L2.Inv X pins σ (upd H a (.dK [])) s := by
  have ok := I.hok a _ h
  obtain ⟨z, y, xs, r, ob, es, ep, e, ed, ep2, eq, nd⟩ := ok
  have hv : xs = [] := by cases r; rfl
  subst hv
  have he : es.toList = [] := eq
  have hk : PySem.KeysOf (mixKind X.prog X.w) es := fun x hx => by
    rw [← Array.mem_toList_iff, he] at hx
    cases hx
  have new : ObjOk X.prog X.w (upd H a (.dK [])) s.heap a (.dK []) := ⟨z, y, [], .nil, ob, es, ep, e, ed, ep2, hk, by rw [he]; exact .nil, by simp⟩
  exact I.write (t' := s.toks) (x := a) (e := a) (by rw [h]; trivial) (.inl rfl) (fun b u _ q => q) ⟨ob, e⟩ new
/-- a dict of the store, told for the sort of a key: the state, the heap (perhaps told anew) -/
theorem dict_for {K : PySem.W.Frag} {ρ : List Addr} {S : Sto} {n : Nat} {kvs : List (D × D)} {k : D} {kv : V} (I : L2.Inv X pins σ H s) (hS : SR K ρ H S) (e : S[n]? = some (.dct kvs)) (ea : ρ[n]? = some a) (rk : VR ρ H k kv) (hk : keysOk kvs k = true) :
    ∃ H', L2.Inv X pins σ H' s ∧ SR K ρ H' S ∧ Go ρ H ρ H' ∧
      ((∃ (q : Key) (ks : List (Key × V)), k = kD q ∧ kv = kV q ∧ H' a = some (.dK ks) ∧ kR ρ H' kvs ks) ∨ ∃ (q : List Key) (ks : List (List Key × V)) (b : Addr), k = .tup (q.map kD) ∧ kv = .ref b ∧ H' b = some (.tup (q.map kV)) ∧ H' a = some (.dT ks) ∧ tR ρ H' kvs ks) := by
  have keyCase : keyK k = true → ∃ q, k = kD q ∧ kv = kV q := fun h => by
    obtain ⟨q, rfl⟩ := keyK_kD h
    exact ⟨q, rfl, rk.key⟩
  have tupCase : keyT k = true → ∃ (q : List Key) (b : Addr), k = .tup (q.map kD) ∧ kv = .ref b ∧ H b = some (.tup (q.map kV)) := fun h => by
    obtain ⟨q, rfl⟩ := keyT_kD h
    cases rk with
    | tup eb rs => exact ⟨q, _, rfl, rfl, by rw [eb, rs.keys]⟩
  have re : ∀ {o u : HO}, H a = some o → Mut (some o) → OR K ρ (upd H a u) a (.dct kvs) → SR K ρ (upd H a u) S ∧ Go ρ H ρ (upd H a u) := fun {o u} h m r => by
    refine ⟨?_, Go.write (List.mem_of_getElem? ea) h m⟩
    have q := hS.write (o' := .dct kvs) (u := u) e ea rfl rfl r
    have hn := (List.getElem?_eq_some_iff.mp e)
    rw [show S.set n (.dct kvs) = S from by
      obtain ⟨h1, h2⟩ := hn
      rw [← h2]; simp] at q
    exact q
  cases kvs with
  | nil =>
    have hk' := Bool.or_eq_true_iff.mp (show (keyK k || keyT k) = true from hk)
    rcases hS.at_ n _ a e ea with ⟨ks, e1, r⟩ | ⟨ks, e1, r⟩
    · have : ks = [] := by cases ks; rfl; cases r
      subst this
      rcases hk' with h | h
      · obtain ⟨q, rfl, rfl⟩ := keyCase h
        exact ⟨H, I, hS, .refl, .inl ⟨q, [], rfl, rfl, e1, trivial⟩⟩
      · obtain ⟨q, b, rfl, rfl, eb⟩ := tupCase h
        obtain ⟨s1, g1⟩ := re (u := .dT []) e1 trivial (.inr ⟨[], upd_same, trivial⟩)
        exact ⟨_, emptyT I e1, s1, g1, .inr ⟨q, [], b, rfl, rfl, g1.tup eb, upd_same, trivial⟩⟩
    · have : ks = [] := by cases ks; rfl; cases r
      subst this
      rcases hk' with h | h
      · obtain ⟨q, rfl, rfl⟩ := keyCase h
        obtain ⟨s1, g1⟩ := re (u := .dK []) e1 trivial (.inl ⟨[], upd_same, trivial⟩)
        exact ⟨_, emptyK I e1, s1, g1, .inl ⟨q, [], rfl, rfl, upd_same, trivial⟩⟩
      · obtain ⟨q, b, rfl, rfl, eb⟩ := tupCase h
        exact ⟨H, I, hS, .refl, .inr ⟨q, [], b, rfl, rfl, eb, e1, trivial⟩⟩
  | cons p ps =>
    have hk' := Bool.or_eq_true_iff.mp (show ((keyK p.1 && keyK k) || (keyT p.1 && keyT k)) = true from hk)
    rcases hS.at_ n _ a e ea with ⟨ks, e1, r⟩ | ⟨ks, e1, r⟩
    · cases ks with
      | nil => cases r
      | cons c cs =>
        rcases hk' with h | h
        · obtain ⟨q, rfl, rfl⟩ := keyCase (Bool.and_eq_true_iff.mp h).2
          exact ⟨H, I, hS, .refl, .inl ⟨q, _, rfl, rfl, e1, r⟩⟩
        · have := (Bool.and_eq_true_iff.mp h).1
          rw [r.1, keyT_kD'] at this; cases this
    · cases ks with
      | nil => cases r
      | cons c cs =>
        rcases hk' with h | h
        · have := (Bool.and_eq_true_iff.mp h).1
          rw [r.1, keyK_tup] at this; cases this
        · obtain ⟨q, b, rfl, rfl, eb⟩ := tupCase (Bool.and_eq_true_iff.mp h).2
          exact ⟨H, I, hS, .refl, .inr ⟨q, _, b, rfl, rfl, eb, e1, r⟩⟩
/-- what is found under the key -/
theorem dict_get {K : PySem.W.Frag} {ρ : List Addr} {S : Sto} {n : Nat} {kvs : List (D × D)} {k : D} {kv : V} (I : L2.Inv X pins σ H s) (hS : SR K ρ H S) (e : S[n]? = some (.dct kvs)) (ea : ρ[n]? = some a) (rk : VR ρ H k kv) (hk : keysOk kvs k = true) :
    ∃ H' r, L2.Inv X pins σ H' s ∧ SR K ρ H' S ∧ Go ρ H ρ H' ∧ DGet H' a kv r ∧ oR ρ H' (dget kvs k) r := by
  obtain ⟨H', I', S', g, h⟩ := dict_for I hS e ea rk hk
  rcases h with ⟨q, ks, rfl, rfl, e1, r⟩ | ⟨q, ks, b, rfl, rfl, eb, e1, r⟩
  · exact ⟨H', _, I', S', g, DGet.k e1, r.get q⟩
  · exact ⟨H', _, I', S', g, DGet.t e1 eb, r.get q⟩
end
section
variable {X : Cx}
theorem oR.isSome {ρ : List Addr} {H : Hp} {o : Option D} {r : Option V} (h : oR ρ H o r) : o.isSome = r.isSome := by
  cases o <;> cases r <;> first | rfl | cases h
theorem los_any {S : Sto} {xs : List D} : ∀ {ts : List D} {n : Nat}, mapO (rd n S) xs = some ts → ts.length = xs.length := by
  induction xs with
  | nil => intro ts n h; simp only [mapO] at h; cases h; rfl
  | cons x xs ih =>
    intro ts n h
    obtain ⟨y, ys, e1, e2, rfl⟩ := mapO_some h
    rw [List.length_cons, List.length_cons, ih e2]
theorem any_py : ∀ (ts : List D) (t : D), D.reals ts = true → D.real t = true → ((toPys ts).any fun z => PyData.eqv z (toPy t)) = ts.any fun y => D.pyeq y t
  | [], _, _, _ => rfl
  | x :: xs, t, h1, h2 => by
    have h := Bool.and_eq_true_iff.mp (show (D.real x && D.reals xs) = true from h1)
    show ((PyData.eqv (toPy x) (toPy t)) || (toPys xs).any _) = _
    rw [any_py xs t h.2 h2, ← pyeq_eqv x t h.1 h2]
    rfl
/-- the row of a text that may stand behind in -/
theorem inI_seq {K : PySem.W.Frag} {ρ : List Addr} {H : Hp} {S : Sto} {x c : D} {v u : V} {ts : List D} {t : D} {f : List D → D} {g : List PyData → PyData} (s : SR K ρ H S) (rx : VR ρ H x v) (rc : VR ρ H c u)
    (hg : toPy (f ts) = g (toPys ts)) (hf : D.real (f ts) = D.reals ts) (e1 : rd RD S c = some (f ts)) (e2 : rd RD S x = some t) (ok : (D.okSs ts && D.okS t) = true) :
    Dp K H v (toPy t) ∧ Dp K H u (g (toPys ts)) ∧ SeqAt.shaped (toPy t) = true ∧ PyData.canLayAll0 (toPys ts) = true ∧ ((toPys ts).any fun z => PyData.eqv z (toPy t)) = ts.any fun y => D.pyeq y t := by
  have k := Bool.and_eq_true_iff.mp ok
  have h1 := rd_dp s RD c _ u rc e1
  rw [hg] at h1
  have r1 := (toPys_real _ _ _ _ e1).1
  rw [hf] at r1
  exact ⟨rd_dp s RD x t v rx e2, h1, shaped_py e2 (by decide) k.2, canLays_py ts k.1, any_py ts t r1 (toPys_real _ _ _ _ e2).1⟩
theorem op_inN (hu : X.A.units + 65 < cLine) : OpR X (compareOp .In) (r2 X.K fun S a b => cmpR S .inn a b) := by
  intro pins s σ H x y v u Q I rx ry h
  obtain ⟨ρ, S, da, db, d, S', hS, ra, rb, hr, k⟩ := h
  obtain ⟨c, hc, rfl, rfl⟩ := cmpR_some hr
  have hc' : inI S' da db = some c := hc
  unfold inI at hc'
  split at hc'
  · rename_i xs
    split at hc'
    · rename_i ts t e1 e2
      split at hc'
      · rename_i ok
        cases hc'
        obtain ⟨h1, h2, h3, h4, h5⟩ := inI_seq (f := D.tup) (g := PyData.tuple) hS ra rb rfl rfl e1 e2 ok
        obtain ⟨as, q1⟩ := Dp.reads I _ _ v h1 rx
        obtain ⟨bs, q2⟩ := Dp.reads I _ _ u h2 ry
        exact SeqAt.in_tuple_reads q2 q1 h4 (SeqAt.canLay_of_shaped h3) (PyProof.Rows.room_in_shaped h3 hu) ⟨.bl _, H, I, rfl, by rw [h5]; exact k.ret hS (.bl _)⟩
      · cases hc'
    · cases hc'
  · rename_i n
    split at hc'
    · split at hc'
      · rename_i ts t e1 e2
        split at hc'
        · rename_i ok
          cases hc'
          obtain ⟨h1, h2, h3, h4, h5⟩ := inI_seq (f := D.lst) (g := PyData.list) hS ra rb rfl rfl e1 e2 ok
          obtain ⟨as, q1⟩ := Dp.reads I _ _ v h1 rx
          obtain ⟨bs, q2⟩ := Dp.reads I _ _ u h2 ry
          exact SeqAt.in_list_reads q2 q1 h4 (SeqAt.canLay_of_shaped h3) (PyProof.Rows.room_in_shaped h3 hu) ⟨.bl _, H, I, rfl, by rw [h5]; exact k.ret hS (.bl _)⟩
        · cases hc'
      · cases hc'
    · rename_i kvs e1
      split at hc'
      · rename_i hk
        cases hc'
        cases rb with
        | ref ea =>
          cases ry
          obtain ⟨H', r, I', S1, g, dg, o⟩ := dict_get I hS e1 ea ra hk
          refine d_in (by omega) I' dg rx fun s1 I1 => ⟨.bl _, H', I1, rfl, ?_⟩
          rw [← o.isSome]
          exact k ρ H' _ g S1 (.bl _)
      · cases hc'
    · cases hc'
  · cases hc'
theorem op_ninN (hu : X.A.units + 65 < cLine) : OpR X (compareOp .NotIn) (r2 X.K fun S a b => cmpR S .nin a b) := by
  intro pins s σ H x y v u Q I rx ry h
  obtain ⟨ρ, S, da, db, d, S', hS, ra, rb, hr, k⟩ := h
  obtain ⟨c0, hc, rfl, rfl⟩ := cmpR_some hr
  obtain ⟨c, hc', rfl⟩ := Option.map_eq_some_iff.mp (show (inI S' da db).map (!·) = some c0 from hc)
  unfold inI at hc'
  split at hc'
  · rename_i xs
    split at hc'
    · rename_i ts t e1 e2
      split at hc'
      · rename_i ok
        cases hc'
        obtain ⟨h1, h2, h3, h4, h5⟩ := inI_seq (f := D.tup) (g := PyData.tuple) hS ra rb rfl rfl e1 e2 ok
        obtain ⟨as, q1⟩ := Dp.reads I _ _ v h1 rx
        obtain ⟨bs, q2⟩ := Dp.reads I _ _ u h2 ry
        exact SeqAt.notIn_tuple_reads q2 q1 h4 (SeqAt.canLay_of_shaped h3) (PyProof.Rows.room_in_shaped h3 hu) ⟨.bl _, H, I, rfl, by rw [h5]; exact k.ret hS (.bl _)⟩
      · cases hc'
    · cases hc'
  · rename_i n
    split at hc'
    · split at hc'
      · rename_i ts t e1 e2
        split at hc'
        · rename_i ok
          cases hc'
          obtain ⟨h1, h2, h3, h4, h5⟩ := inI_seq (f := D.lst) (g := PyData.list) hS ra rb rfl rfl e1 e2 ok
          obtain ⟨as, q1⟩ := Dp.reads I _ _ v h1 rx
          obtain ⟨bs, q2⟩ := Dp.reads I _ _ u h2 ry
          exact SeqAt.notIn_list_reads q2 q1 h4 (SeqAt.canLay_of_shaped h3) (PyProof.Rows.room_in_shaped h3 hu) ⟨.bl _, H, I, rfl, by rw [h5]; exact k.ret hS (.bl _)⟩
        · cases hc'
      · cases hc'
    · rename_i kvs e1
      split at hc'
      · rename_i hk
        cases hc'
        cases rb with
        | ref ea =>
          cases ry
          obtain ⟨H', r, I', S1, g, dg, o⟩ := dict_get I hS e1 ea ra hk
          refine d_notIn (by omega) I' dg rx fun s1 I1 => ⟨.bl _, H', I1, rfl, ?_⟩
          rw [← o.isSome]
          exact k ρ H' _ g S1 (.bl _)
      · cases hc'
    · cases hc'
  · cases hc'
theorem op_cmpN (hu : X.A.units + 65 < cLine) (o : Cmp) : OpR X (compareOp (oc o)) (r2 X.K fun S a b => cmpR S o a b) := by
  cases o
  · exact op_eqN (by omega)
  · exact op_neN (by omega)
  · exact op_ltN
  · exact op_leN
  · exact op_gtN
  · exact op_geN
  · exact op_isN'
  · exact op_isntN
  · exact op_inN hu
  · exact op_ninN hu
end
end N
set_option autoImplicit false
set_option Elab.async false
set_option linter.all false
set_option maxRecDepth 100000
set_option maxHeartbeats 4000000
namespace N
open PySem L2 PySem.Spec PyProof.Rows
/-! ### tests, argument lists -/
def TTv (K : PySem.W.Frag) (x : Env → Sto → RE) : TT := fun σ H Q => ∃ ρ e S d S' b, ER ρ H e σ ∧ SR K ρ H S ∧ x e S = some (d, S') ∧ tru S' d = some b ∧ ∀ ρ' H', Go ρ H ρ' H' → SR K ρ' H' S' → Q b H'
def ST (X : Cx) (e : Expr) (x : Env → Sto → RE) : Prop := PT X e (TTv X.K x)
abbrev REs := Option (List D × Sto)
def TAv (K : PySem.W.Frag) (x : Env → Sto → REs) : TA := fun σ H Q => ∃ ρ e S ds S', ER ρ H e σ ∧ SR K ρ H S ∧ x e S = some (ds, S') ∧ ∀ ρ' H' vs, Go ρ H ρ' H' → SR K ρ' H' S' → VRs ρ' H' ds vs → Q vs H'
def SA (X : Cx) (es : List Expr) (x : Env → Sto → REs) : Prop := PA X es (TAv X.K x)
section
variable {X : Cx} {K : PySem.W.Frag} {ρ ρ' : List Addr} {H H' : Hp} {S S' : Sto} {d : D} {v : V} {e : Env} {σ : L2.St}
theorem tru_V {b : Bool} (s : SR K ρ H S) (r : VR ρ H d v) (h : tru S d = some b) : TruV K v H b := by
  cases r <;> simp only [tru] at h <;> try (cases h; done)
  · cases h; rfl
  · cases h; rfl
  · cases h
    show _ = _
    rename_i i
    by_cases z : i = 0
    · subst z; rfl
    · rw [decide_eq_true z]; simp [z]
  · rename_i xs a vs ea rs
    cases h
    refine .inr (.inl ⟨vs, .of ea, ?_⟩)
    cases rs <;> rfl
  · rename_i n a ea
    split at h
    · rename_i xs e1
      cases h
      obtain ⟨vs, q, rs⟩ := s.lst e1 ea
      refine .inl ⟨vs, .of q, ?_⟩
      cases rs <;> rfl
    · cases h
/-- a test whose value is looked at -/
theorem st_of {E : Expr} {x : Env → Sto → RE} (h : SE X E x) (he : ∀ whole, isTrue E X.env whole = (do let v ← whole; standAt E.pos; holding [v] (truthy v))) : ST X E x :=
  ⟨fun pins s σ H Q I q => (pt_truth h he).run pins s σ H Q I (by
    obtain ⟨ρ, e, S, d, S', b, h1, h2, h3, h4, h5⟩ := q
    exact ⟨ρ, e, S, d, S', h1, h2, h3, fun ρ' H' v g s r => ⟨b, tru_V s r h4, h5 ρ' H' g s⟩⟩)⟩
theorem PT.imp {E : Expr} {t u : TT} (h : PT X E t) (i : ∀ σ H Q, u σ H Q → t σ H Q) : PT X E u := ⟨fun pins s σ H Q I q => h.run pins s σ H Q I (i σ H Q q)⟩
theorem PA.imp {E : List Expr} {t u : TA} (h : PA X E t) (i : ∀ σ H Q, u σ H Q → t σ H Q) : PA X E u := ⟨fun pos pins s σ H Q I q => h.run pos pins s σ H Q I (i σ H Q q)⟩
/-! leaves -/
theorem se_const {E : Expr} {c : V} {d : D} (h : PE X E (tC c)) (r : ∀ ρ H, VR ρ H d c) : SE X E (fun _ S => some (d, S)) := PE.imp h fun σ H Q q => by
  obtain ⟨ρ, e, S, d', S', h1, h2, h3, h4⟩ := q
  cases h3
  exact h4.ret h2 (r ρ H)
theorem se_var {i : Nat} {x : Str} {pos : Pos} (hN : X.N[i]? = some x) (hv : Vis X.env.scope x) (hd : (x == ("__debug__" : Str)) = false) (hcd : (x == ("__classdict__" : Str)) = false) : SE X (.Name x pos) (evalE (.var i)) :=
  PE.imp (pe_var hN hv hd hcd) fun σ H Q q => by
    obtain ⟨ρ, e, S, d, S', h1, h2, h3, h4⟩ := q
    simp only [evalE] at h3
    split at h3
    · rename_i d' e1
      cases h3
      obtain ⟨v, e2, r⟩ := h1.2 i d e1
      exact ⟨v, e2, h4.ret h2 r⟩
    · cases h3
/-! not, -, if -/
theorem se_not {a : Expr} {xa : Env → Sto → RE} {pos : Pos} (ha : ST X a xa) (hv : SE X a xa) : SE X (.UnaryOp .Not a pos) (fun e S => match thenT (xa e S) with
    | some (b, S1) => some (.bl (!b), S1)
    | none => none) := PE.imp (pe_notT hv) fun σ H Q q => by
  obtain ⟨ρ, e, S, d, S', h1, h2, h3, h4⟩ := q
  simp only [thenT] at h3
  split at h3
  · rename_i b S1 e1
    split at e1
    · rename_i d1 S2 e2
      obtain ⟨b', e3, e4⟩ := Option.map_eq_some_iff.mp e1
      cases e4
      cases h3
      exact ⟨ρ, e, S, d1, _, h1, h2, e2, fun ρ' H' v g s r => ⟨b, tru_V s r e3, h4 ρ' H' _ g s (.bl _)⟩⟩
    · cases e1
  · cases h3
theorem st_not {a : Expr} {xa : Env → Sto → RE} {pos : Pos} (ha : ST X a xa) : ST X (.UnaryOp .Not a pos) (fun e S => match thenT (xa e S) with
    | some (b, S1) => some (.bl (!b), S1)
    | none => none) := PT.imp (pt_not ha) fun σ H Q q => by
  obtain ⟨ρ, e, S, d, S', b0, h1, h2, h3, hb, h4⟩ := q
  simp only [thenT] at h3
  split at h3
  · rename_i b S1 e1
    split at e1
    · rename_i d1 S2 e2
      obtain ⟨b', e3, e4⟩ := Option.map_eq_some_iff.mp e1
      cases e4
      cases h3
      cases hb
      exact ⟨ρ, e, S, d1, _, b, h1, h2, e2, e3, fun ρ' H' g s => h4 ρ' H' g s⟩
    · cases e1
  · cases h3
theorem se_neg {a : Expr} {xa : Env → Sto → RE} {pos : Pos} (ha : SE X a xa) : SE X (.UnaryOp .USub a pos) (fun e S => match xa e S with
    | some (.int i, S1) => some (.int (-i), S1)
    | _ => none) := PE.imp (pe_un un_neg ha) fun σ H Q q => by
  obtain ⟨ρ, e, S, d, S', h1, h2, h3, h4⟩ := q
  simp only at h3
  split at h3
  · rename_i i S1 e1
    cases h3
    exact ⟨ρ, e, S, .int i, _, h1, h2, e1, fun ρ' H' v g s r => by cases r; exact ⟨i, rfl, h4 ρ' H' _ g s (.int _)⟩⟩
  · cases h3
theorem se_ife {c a b : Expr} {xc xa xb : Env → Sto → RE} {pos : Pos} (hc : ST X c xc) (ha : SE X a xa) (hb : SE X b xb) : SE X (.IfExp c a b pos) (fun e S => match thenT (xc e S) with
    | none => none
    | some (true, S1) => xa e S1
    | some (false, S1) => xb e S1) := PE.imp (pe_ifExp hc ha hb) fun σ H Q q => by
  obtain ⟨ρ, e, S, d, S', h1, h2, h3, h4⟩ := q
  simp only [thenT] at h3
  split at h3
  · cases h3
  · rename_i S1 e1
    split at e1
    · rename_i d1 S2 e2
      obtain ⟨b', e3, e4⟩ := Option.map_eq_some_iff.mp e1
      cases e4
      exact ⟨ρ, e, S, d1, _, true, h1, h2, e2, e3, fun ρ' H' g s => ⟨ρ', e, S1, d, S', h1.go g, s, h3, h4.go g⟩⟩
    · cases e1
  · rename_i S1 e1
    split at e1
    · rename_i d1 S2 e2
      obtain ⟨b', e3, e4⟩ := Option.map_eq_some_iff.mp e1
      cases e4
      exact ⟨ρ, e, S, d1, _, false, h1, h2, e2, e3, fun ρ' H' g s => ⟨ρ', e, S1, d, S', h1.go g, s, h3, h4.go g⟩⟩
    · cases e1
theorem isTrue_ife {M : Model} {A : Around} {E : Value → Shared → Prop} {s : Shared} {c a b : Expr} {env : PySem.Env} {pos : Pos} {whole : Sem Value} {Q : Bool → Shared → Prop}
    (h : wpAny M A (isTrue c env (eval c env)) (fun t s' => if t then wpAny M A (isTrue a env (eval a env)) Q E s' else wpAny M A (isTrue b env (eval b env)) Q E s') E s) : wpAny M A (isTrue (.IfExp c a b pos) env whole) Q E s := by
  show wpAny M A (do if ← isTrue c env (eval c env) then isTrue a env (eval a env) else isTrue b env (eval b env)) Q E s
  refine wpAny_bind (wpAny_mono h (fun t s' q => ?_) fun _ _ x => x)
  cases t with
  | true => exact q
  | false => exact q
theorem st_ife {c a b : Expr} {xc xa xb : Env → Sto → RE} {pos : Pos} (hc : ST X c xc) (ha : ST X a xa) (hb : ST X b xb) : ST X (.IfExp c a b pos) (fun e S => match thenT (xc e S) with
    | none => none
    | some (true, S1) => xa e S1
    | some (false, S1) => xb e S1) := by
  refine ⟨fun pins s σ H Q I q => ?_⟩
  obtain ⟨ρ, e, S, d, S', b0, h1, h2, h3, hb0, h4⟩ := q
  simp only [thenT] at h3
  split at h3
  · cases h3
  · rename_i S1 e1
    split at e1
    · rename_i d1 S2 e2
      obtain ⟨b', e3, e4⟩ := Option.map_eq_some_iff.mp e1
      cases e4
      refine isTrue_ife (thn (hc.run pins s σ H (fun t H1 => t = true ∧ TTv X.K xa σ H1 Q) I ⟨ρ, e, S, d1, _, true, h1, h2, e2, e3, fun ρ' H' g s => ⟨rfl, ρ', e, S1, d, S', b0, h1.go g, s, h3, hb0, fun ρ2 H2 g2 s2 => h4 ρ2 H2 (g.trans g2) s2⟩⟩) fun t s1 z => ?_)
      obtain ⟨H1, I1, et, q1⟩ := z
      subst et
      exact ha.run pins s1 σ H1 Q I1 q1
    · cases e1
  · rename_i S1 e1
    split at e1
    · rename_i d1 S2 e2
      obtain ⟨b', e3, e4⟩ := Option.map_eq_some_iff.mp e1
      cases e4
      refine isTrue_ife (thn (hc.run pins s σ H (fun t H1 => t = false ∧ TTv X.K xb σ H1 Q) I ⟨ρ, e, S, d1, _, false, h1, h2, e2, e3, fun ρ' H' g s => ⟨rfl, ρ', e, S1, d, S', b0, h1.go g, s, h3, hb0, fun ρ2 H2 g2 s2 => h4 ρ2 H2 (g.trans g2) s2⟩⟩) fun t s1 z => ?_)
      obtain ⟨H1, I1, et, q1⟩ := z
      subst et
      exact hb.run pins s1 σ H1 Q I1 q1
    · cases e1
/-! argument lists, displays -/
theorem sa_nil : SA X [] (fun _ S => some ([], S)) := PA.imp pa_nil fun σ H Q q => by
  obtain ⟨ρ, e, S, d, S', h1, h2, h3, h4⟩ := q
  cases h3
  exact h4 ρ H _ .refl h2 .nil
theorem sa_cons {a : Expr} {es : List Expr} {xa : Env → Sto → RE} {xs : Env → Sto → REs} (ha : SE X a xa) (hr : SA X es xs) (hs : starEach (a :: es) X.env = (false, eval a X.env) :: starEach es X.env) : SA X (a :: es) (fun e S => match xa e S with
    | none => none
    | some (d, S1) => match xs e S1 with
      | none => none
      | some (ds, S2) => some (d :: ds, S2)) := PA.imp (pa_cons ha hr hs) fun σ H Q q => by
  obtain ⟨ρ, e, S, ds, S', h1, h2, h3, h4⟩ := q
  simp only at h3
  split at h3
  · cases h3
  · rename_i d S1 e1
    split at h3
    · cases h3
    · rename_i ds' S2 e2
      cases h3
      exact ⟨ρ, e, S, d, S1, h1, h2, e1, fun ρ1 H1 v1 g1 s1 r1 => ⟨ρ1, e, S1, ds', _, h1.go g1, s1, e2, fun ρ2 H2 vs g2 s2 r2 => h4 ρ2 H2 _ (g1.trans g2) s2 (.cons (r1.go g2) r2)⟩⟩
theorem se_tup {es : List Expr} {xs : Env → Sto → REs} {k : Nat} {pos : Pos} (h : SA X es xs) (hl : es.length ≤ 1000) (hlen : ∀ e S r, xs e S = some r → r.1.length = es.length) : SE X (.Tuple es k pos) (fun e S => match xs e S with
    | none => none
    | some (ds, S1) => some (.tup ds, S1)) := PE.imp (pe_tup h) fun σ H Q q => by
  obtain ⟨ρ, e, S, d, S', h1, h2, h3, h4⟩ := q
  simp only at h3
  split at h3
  · cases h3
  · rename_i ds S1 e1
    cases h3
    exact ⟨ρ, e, S, ds, _, h1, h2, e1, fun ρ1 H1 vs g1 s1 r1 => ⟨by
      have := hlen _ _ _ e1
      rw [← r1.len, sizeLine_eq]; simp only at this; omega, (h4.go g1).tup s1 r1⟩⟩
theorem se_lst {es : List Expr} {xs : Env → Sto → REs} {pos : Pos} (h : SA X es xs) (hl : es.length ≤ 1000) (hlen : ∀ e S r, xs e S = some r → r.1.length = es.length) : SE X (.List es pos) (fun e S => match xs e S with
    | none => none
    | some (ds, S1) => new S1 (.lst ds)) := PE.imp (pe_lst h) fun σ H Q q => by
  obtain ⟨ρ, e, S, d, S', h1, h2, h3, h4⟩ := q
  simp only at h3
  split at h3
  · cases h3
  · rename_i ds S1 e1
    cases h3
    exact ⟨ρ, e, S, ds, _, h1, h2, e1, fun ρ1 H1 vs g1 s1 r1 => ⟨by
      have := hlen _ _ _ e1
      rw [← r1.len, sizeLine_eq]; simp only at this; omega, (h4.go g1).lst s1 r1⟩⟩
end
end N
set_option autoImplicit false
set_option Elab.async false
set_option linter.all false
set_option maxRecDepth 100000
set_option maxHeartbeats 4000000
namespace N
open PySem L2 PySem.Spec PyProof.Rows
/-- the expression E is what x says, as a value and as a test -/
structure Is (X : Cx) (x : Ex) (E : Expr) : Prop where
  v : SE X E (evalE x)
  t : ST X E (evalE x)
inductive All2 {α β : Type} (R : α → β → Prop) : List α → List β → Prop
  | nil : All2 R [] []
  | cons {a : α} {b : β} {as : List α} {bs : List β} : R a b → All2 R as bs → All2 R (a :: as) (b :: bs)
theorem All2.len {α β : Type} {R : α → β → Prop} : ∀ {as : List α} {bs : List β}, All2 R as bs → as.length = bs.length
  | _, _, .nil => rfl
  | _, _, .cons _ t => congrArg Nat.succ t.len
section
variable {X : Cx} {pos : Pos}
theorem se_and : ∀ {es : List Ex} {es' : List Expr}, All2 (Is X) es es' → ∀ {a : Ex} {a' : Expr}, Is X a a' → SE X (.BoolOp .And (a' :: es') pos) (evalE (.and a es))
  | _, _, .nil, a, a', ha => PE.imp (pe_one ha.v) fun σ H Q q => by
    obtain ⟨ρ, e, S, d, S', h1, h2, h3, h4⟩ := q
    simp only [evalE] at h3
    split at h3
    · cases h3
    · rename_i da S1 e1
      simp only [evalAnd] at h3
      cases h3
      exact ⟨ρ, e, S, d, _, h1, h2, e1, h4⟩
  | _, _, .cons (a := b) (b := b') (as := bs) (bs := bs') hb ht, a, a', ha => PE.imp (pe_andT ha.v (se_and ht hb)) fun σ H Q q => by
    obtain ⟨ρ, e, S, d, S', h1, h2, h3, h4⟩ := q
    simp only [evalE] at h3
    split at h3
    · cases h3
    · rename_i da S1 e1
      refine ⟨ρ, e, S, da, S1, h1, h2, e1, fun ρ1 H1 v g s r => ?_⟩
      simp only [evalAnd] at h3
      split at h3
      · cases h3
      · rename_i et
        cases h3
        exact ⟨false, tru_V s r et, by simpa using h4 ρ1 H1 v g s r⟩
      · rename_i et
        refine ⟨true, tru_V s r et, ?_⟩
        rw [if_pos rfl]
        refine ⟨ρ1, e, S1, d, S', h1.go g, s, ?_, h4.go g⟩
        simp only [evalE]
        exact h3
theorem se_or : ∀ {es : List Ex} {es' : List Expr}, All2 (Is X) es es' → ∀ {a : Ex} {a' : Expr}, Is X a a' → SE X (.BoolOp .Or (a' :: es') pos) (evalE (.or a es))
  | _, _, .nil, a, a', ha => PE.imp (pe_one ha.v) fun σ H Q q => by
    obtain ⟨ρ, e, S, d, S', h1, h2, h3, h4⟩ := q
    simp only [evalE] at h3
    split at h3
    · cases h3
    · rename_i da S1 e1
      simp only [evalOr] at h3
      cases h3
      exact ⟨ρ, e, S, d, _, h1, h2, e1, h4⟩
  | _, _, .cons (a := b) (b := b') (as := bs) (bs := bs') hb ht, a, a', ha => PE.imp (pe_orT ha.v (se_or ht hb)) fun σ H Q q => by
    obtain ⟨ρ, e, S, d, S', h1, h2, h3, h4⟩ := q
    simp only [evalE] at h3
    split at h3
    · cases h3
    · rename_i da S1 e1
      refine ⟨ρ, e, S, da, S1, h1, h2, e1, fun ρ1 H1 v g s r => ?_⟩
      simp only [evalOr] at h3
      split at h3
      · cases h3
      · rename_i et
        cases h3
        exact ⟨true, tru_V s r et, by simpa using h4 ρ1 H1 v g s r⟩
      · rename_i et
        refine ⟨false, tru_V s r et, ?_⟩
        rw [if_neg Bool.false_ne_true]
        refine ⟨ρ1, e, S1, d, S', h1.go g, s, ?_, h4.go g⟩
        simp only [evalE]
        exact h3
theorem PW.imp {E : Expr} {t u : TT} (h : PW X E t) (i : ∀ σ H Q, u σ H Q → t σ H Q) : PW X E u := ⟨fun w pins s σ H Q I q => h.run w pins s σ H Q I (i σ H Q q)⟩
theorem sw_and : ∀ {es : List Ex} {es' : List Expr}, All2 (Is X) es es' → ∀ {a : Ex} {a' : Expr}, Is X a a' → PW X (.BoolOp .And (a' :: es') pos) (TTv X.K (evalE (.and a es)))
  | _, _, .nil, a, a', ha => PW.imp (pw_and1 ha.t) fun σ H Q q => by
    obtain ⟨ρ, e, S, d, S', b0, h1, h2, h3, hb, h4⟩ := q
    simp only [evalE] at h3
    split at h3
    · cases h3
    · rename_i da S1 e1
      simp only [evalAnd] at h3
      cases h3
      exact ⟨ρ, e, S, d, _, b0, h1, h2, e1, hb, h4⟩
  | _, _, .cons (a := b) (b := b') (as := bs) (bs := bs') hb ht, a, a', ha => PW.imp (pw_and ha.t (sw_and ht hb)) fun σ H Q q => by
    obtain ⟨ρ, e, S, d, S', b0, h1, h2, h3, hb0, h4⟩ := q
    simp only [evalE] at h3
    split at h3
    · cases h3
    · rename_i da S1 e1
      simp only [evalAnd] at h3
      split at h3
      · cases h3
      · rename_i et
        cases h3
        rw [et] at hb0; cases hb0
        exact ⟨ρ, e, S, _, _, false, h1, h2, e1, et, fun ρ1 H1 g s => by simpa using h4 ρ1 H1 g s⟩
      · rename_i et
        refine ⟨ρ, e, S, da, S1, true, h1, h2, e1, et, fun ρ1 H1 g s => ?_⟩
        show TTv X.K _ σ H1 Q
        refine ⟨ρ1, e, S1, d, S', b0, h1.go g, s, ?_, hb0, fun ρ2 H2 g2 s2 => h4 ρ2 H2 (g.trans g2) s2⟩
        simp only [evalE]
        exact h3
theorem sw_or : ∀ {es : List Ex} {es' : List Expr}, All2 (Is X) es es' → ∀ {a : Ex} {a' : Expr}, Is X a a' → PW X (.BoolOp .Or (a' :: es') pos) (TTv X.K (evalE (.or a es)))
  | _, _, .nil, a, a', ha => PW.imp (pw_or1 ha.t) fun σ H Q q => by
    obtain ⟨ρ, e, S, d, S', b0, h1, h2, h3, hb, h4⟩ := q
    simp only [evalE] at h3
    split at h3
    · cases h3
    · rename_i da S1 e1
      simp only [evalOr] at h3
      cases h3
      exact ⟨ρ, e, S, d, _, b0, h1, h2, e1, hb, h4⟩
  | _, _, .cons (a := b) (b := b') (as := bs) (bs := bs') hb ht, a, a', ha => PW.imp (pw_or ha.t (sw_or ht hb)) fun σ H Q q => by
    obtain ⟨ρ, e, S, d, S', b0, h1, h2, h3, hb0, h4⟩ := q
    simp only [evalE] at h3
    split at h3
    · cases h3
    · rename_i da S1 e1
      simp only [evalOr] at h3
      split at h3
      · cases h3
      · rename_i et
        cases h3
        rw [et] at hb0; cases hb0
        exact ⟨ρ, e, S, _, _, true, h1, h2, e1, et, fun ρ1 H1 g s => by simpa using h4 ρ1 H1 g s⟩
      · rename_i et
        refine ⟨ρ, e, S, da, S1, false, h1, h2, e1, et, fun ρ1 H1 g s => ?_⟩
        show TTv X.K _ σ H1 Q
        refine ⟨ρ1, e, S1, d, S', b0, h1.go g, s, ?_, hb0, fun ρ2 H2 g2 s2 => h4 ρ2 H2 (g.trans g2) s2⟩
        simp only [evalE]
        exact h3
theorem cmpR_of {S : Sto} {o : Cmp} {a b : D} {c : Bool} (h : cmpI S o a b = some c) : cmpR S o a b = some (.bl c, S) := by
  unfold cmpR
  rw [h]
  rfl
/-! ### chains of comparisons -/
theorem chainV (hu : X.A.units + 65 < cLine) {bs : List Ex} {bs' : List Expr} (hb : All2 (Is X) bs bs') : ∀ (os : List Cmp) {pins : List (Addr × Obj)} {σ : L2.St} {s : Shared} {ρ : List Addr} {H : Hp} {e : Env} {S S' : Sto} {x : D} {v : V} {u : Value} {b : Bool} {Q : VK},
    os ≠ [] → L2.Inv X pins σ H s → ER ρ H e σ → SR X.K ρ H S → VR ρ H x v → L2.RelV v u → evalC os bs e x true S = some (b, S') → Fin X.K ρ H (.bl b) S' Q →
    wpAny (model X.prog X.w) X.A (compareChain pos u (os.map oc) (evalEach bs' X.env)) (EP X pins σ Q) X.xe s := by
  induction hb with
  | nil =>
    intro os pins σ s ρ H e S S' x v u b Q hn I hE hS r ru h k
    cases os with
    | nil => exact absurd rfl hn
    | cons o os => simp only [evalC] at h; cases h
  | @cons y y' ys ys' hy ht ih =>
    intro os pins σ s ρ H e S S' x v u b Q hn I hE hS r ru h k
    cases os with
    | nil => exact absurd rfl hn
    | cons o os =>
      simp only [evalC] at h
      split at h
      · cases h
      · rename_i dy S1 e1
        split at h
        · cases h
        · rename_i c1 ec
          cases os with
          | nil =>
            cases ht with
            | nil =>
              simp only [evalC] at h
              cases h
              refine chain_last (thn (hy.v.run pins s σ H _ I ⟨ρ, e, S, dy, S', hE, hS, e1, fun ρ1 H1 w g1 s1 r1 => ?_⟩) fun u2 s2 ⟨w, H2, I2, r2, q2⟩ => op_cmpN hu o pins s2 σ H2 v w u u2 Q I2 ru r2 q2)
              exact ⟨ρ1, S', x, dy, .bl b, S', s1, r.go g1, r1, cmpR_of ec, k.go g1⟩
            | cons _ _ => simp only [evalC] at h; cases h
          | cons o2 os =>
            cases ht with
            | nil => simp only [evalC] at h; cases h
            | @cons z z' zs zs' hz ht2 =>
              refine chain_link (thn (hy.v.run pins s σ H (fun w H1 => r2 X.K (fun S a b => cmpR S o a b) v w H1 fun c H2 => c = .bl c1 ∧ ∃ ρ2, Go ρ H ρ2 H2 ∧ SR X.K ρ2 H2 S1 ∧ VR ρ2 H2 dy w) I ⟨ρ, e, S, dy, S1, hE, hS, e1, fun ρ1 H1 w g1 s1 r1 => ⟨ρ1, S1, x, dy, .bl c1, S1, s1, r.go g1, r1, cmpR_of ec, fun ρ2 H2 w2 g2 s2 rr => by cases rr; exact ⟨rfl, ρ2, g1.trans g2, s2, r1.go g2⟩⟩⟩) fun u2 s2 ⟨w, H2, I2, rw2, q2⟩ =>
                thn (op_cmpN hu o pins s2 σ H2 v w u u2 _ I2 ru rw2 q2) fun c s3 ⟨w3, H3, I3, r3, q3⟩ => ?_)
              obtain ⟨ew, ρ3, g3, s3', ry⟩ := q3
              subst ew
              cases r3
              refine wpAny_truthy_bool ?_
              cases c1 with
              | false =>
                simp only [evalC] at h
                cases h
                exact ite_ff ⟨.bl false, H3, I3, rfl, k ρ3 H3 _ g3 s3' (.bl false)⟩
              | true =>
                exact ite_tt (ih (o2 :: os) (by simp) I3 (hE.go g3) s3' ry rw2 h (k.go g3))
theorem testV (hu : X.A.units + 65 < cLine) {bs : List Ex} {bs' : List Expr} (hb : All2 (Is X) bs bs') : ∀ (os : List Cmp) {pins : List (Addr × Obj)} {σ : L2.St} {s : Shared} {ρ : List Addr} {H : Hp} {e : Env} {S S' : Sto} {x : D} {v : V} {u : Value} {b : Bool} {Q : Bool → Hp → Prop},
    os ≠ [] → L2.Inv X pins σ H s → ER ρ H e σ → SR X.K ρ H S → VR ρ H x v → L2.RelV v u → evalC os bs e x true S = some (b, S') → (∀ ρ' H', Go ρ H ρ' H' → SR X.K ρ' H' S' → Q b H') →
    wpAny (model X.prog X.w) X.A (testChain pos u (os.map oc) (evalEach bs' X.env)) (TP X pins σ Q) X.xe s := by
  induction hb with
  | nil =>
    intro os pins σ s ρ H e S S' x v u b Q hn I hE hS r ru h k
    cases os with
    | nil => exact absurd rfl hn
    | cons o os => simp only [evalC] at h; cases h
  | @cons y y' ys ys' hy ht ih =>
    intro os pins σ s ρ H e S S' x v u b Q hn I hE hS r ru h k
    cases os with
    | nil => exact absurd rfl hn
    | cons o os =>
      simp only [evalC] at h
      split at h
      · cases h
      · rename_i dy S1 e1
        split at h
        · cases h
        · rename_i c1 ec
          have run : ∀ {T : Sem Bool → Sem Bool}, True := fun {_} => trivial
          have part : ∀ (R : Value → Shared → Prop), (∀ u2 s2 w H2, L2.Inv X pins σ H2 s2 → L2.RelV w u2 → (∃ ρ1, Go ρ H ρ1 H2 ∧ SR X.K ρ1 H2 S1 ∧ VR ρ1 H2 dy w) → R u2 s2) → wpAny (model X.prog X.w) X.A (eval y' X.env) R X.xe s := fun R hR =>
            thn (hy.v.run pins s σ H (fun w H1 => ∃ ρ1, Go ρ H ρ1 H1 ∧ SR X.K ρ1 H1 S1 ∧ VR ρ1 H1 dy w) I ⟨ρ, e, S, dy, S1, hE, hS, e1, fun ρ1 H1 w g1 s1 r1 => ⟨ρ1, g1, s1, r1⟩⟩) fun u2 s2 ⟨w, H2, I2, r2, q2⟩ => hR u2 s2 w H2 I2 r2 q2
          have comp : ∀ (u2 : Value) (s2 : Shared) (w : V) (H2 : Hp) (R : Value → Shared → Prop), L2.Inv X pins σ H2 s2 → L2.RelV w u2 → (∃ ρ1, Go ρ H ρ1 H2 ∧ SR X.K ρ1 H2 S1 ∧ VR ρ1 H2 dy w) →
              (∀ s3 H3 ρ3, L2.Inv X pins σ H3 s3 → Go ρ H ρ3 H3 → SR X.K ρ3 H3 S1 → VR ρ3 H3 dy w → R (.bool c1) s3) → wpAny (model X.prog X.w) X.A (compareOp (oc o) u u2) R X.xe s2 := fun u2 s2 w H2 R I2 rw2 ⟨ρ1, g1, s1, r1⟩ hR =>
            thn (op_cmpN hu o pins s2 σ H2 v w u u2 (fun c H3 => c = .bl c1 ∧ ∃ ρ3, Go ρ H ρ3 H3 ∧ SR X.K ρ3 H3 S1 ∧ VR ρ3 H3 dy w) I2 ru rw2 ⟨ρ1, S1, x, dy, .bl c1, S1, s1, r.go g1, r1, cmpR_of ec, fun ρ2 H2 w2 g2 s2 rr => by cases rr; exact ⟨rfl, ρ2, g1.trans g2, s2, r1.go g2⟩⟩) fun c s3 ⟨w3, H3, I3, r3, e3, ρ3, g3, s3', ry⟩ => by
              subst e3
              cases r3
              exact hR s3 H3 ρ3 I3 g3 s3' ry
          cases os with
          | nil =>
            cases ht with
            | nil =>
              simp only [evalC] at h
              cases h
              refine test_last (part _ fun u2 s2 w H2 I2 r2 q2 => comp u2 s2 w H2 _ I2 r2 q2 fun s3 H3 ρ3 I3 g3 s3' ry => wpAny_truthy_bool ⟨H3, I3, k ρ3 H3 g3 s3'⟩)
            | cons _ _ => simp only [evalC] at h; cases h
          | cons o2 os =>
            cases ht with
            | nil => simp only [evalC] at h; cases h
            | @cons z z' zs zs' hz ht2 =>
              refine test_link (part _ fun u2 s2 w H2 I2 rw2 q2 => comp u2 s2 w H2 _ I2 rw2 q2 fun s3 H3 ρ3 I3 g3 s3' ry => wpAny_truthy_bool ?_)
              cases c1 with
              | false =>
                simp only [evalC] at h
                cases h
                exact ite_ff ⟨H3, I3, k ρ3 H3 g3 s3'⟩
              | true =>
                exact ite_tt (ih (o2 :: os) (by simp) I3 (hE.go g3) s3' ry rw2 h fun ρ' H' g' s' => k ρ' H' (g3.trans g') s')
end
end N
set_option autoImplicit false
set_option Elab.async false
set_option linter.all false
set_option maxRecDepth 100000
set_option maxHeartbeats 4000000
namespace N
open PySem L2 PySem.Spec PyProof.Rows
/-! ### what is picked -/
theorem filt_congr {α β : Type} {f g : α → Option β} : ∀ {l : List α}, (∀ x ∈ l, f x = g x) → l.filterMap f = l.filterMap g
  | [], _ => rfl
  | x :: xs, h => by
    rw [List.filterMap_cons, List.filterMap_cons, h x (by simp), filt_congr fun y hy => h y (by simp [hy])]
theorem filt_rev {xs : Array Value} (j : Nat) (h : j ≤ xs.size) : ((List.range (xs.size - j)).map fun m => xs.size - 1 - m).filterMap (xs[·]?) = (xs.toList.drop j).reverse := by
  have e : ((List.range (xs.size - j)).map fun m => xs.size - 1 - m) = ((List.range (xs.size - j)).map (j + ·)).reverse := by
    apply List.ext_getElem
    · simp
    · intro i h1 h2
      simp at h1
      rw [List.getElem_reverse]
      simp
      omega
  rw [e, List.filterMap_reverse, pick_run, List.take_of_length_le]
  rw [List.length_drop, Array.length_toList]
  exact Nat.le_refl _
/-- where a slice begins, its step, how many: as the tuple's rule has it -/
def slB (lo hi st : Option Int) (n : Nat) : Int × Int × Nat := ((Builtin.Slice.sliceAdjust lo hi (st.getD 1) n).1, st.getD 1, Builtin.Slice.slicePlaces (Builtin.Slice.sliceAdjust lo hi (st.getD 1) n).1 (Builtin.Slice.sliceAdjust lo hi (st.getD 1) n).2 (st.getD 1))
def slPick (xs : Array Value) (b : Int × Int × Nat) : List Value := (List.range b.2.2).filterMap fun (k : Nat) => xs[(b.1 + (k : Int) * b.2.1).toNat]?
theorem sIx_HT (n d : Nat) (o : Option Int) : N.sIx n d o = HT.sIx n d o := by
  cases o <;> rfl
theorem slB_one (lo hi : Option Int) (n : Nat) (st : Option Int) (h : st.getD 1 = 1) : slB lo hi st n = (((N.sIx n 0 lo : Nat) : Int), 1, N.sIx n n hi - N.sIx n 0 lo) := by
  unfold slB
  rw [h, HT.adjust_gen lo hi n, HT.places_gen, sIx_HT, sIx_HT]
theorem slB_back (n : Nat) (hi : Option Int) (j : Nat) (h : (hi = none ∧ j = 0) ∨ ∃ i : Int, hi = some i ∧ 0 ≤ i ∧ j = i.toNat + 1) : ∃ l : Int, slB none hi (some (-1)) n = ((n : Int) - 1, -1, n - j) := by
  refine ⟨0, ?_⟩
  unfold slB Builtin.Slice.sliceAdjust Builtin.Slice.slicePlaces
  have c1 : ((some (-1) : Option Int).getD 1) = -1 := rfl
  have c2 : ((-1 : Int) < 0) := by decide
  have c3 : ¬ ((-1 : Int) > 0) := by decide
  simp only [c1, c2, c3, if_true, if_false]
  refine Prod.ext rfl (Prod.ext rfl ?_)
  have d1 : (- -1 : Int) = 1 := by decide
  rcases h with ⟨rfl, rfl⟩ | ⟨i, rfl, h0, rfl⟩
  · simp only [d1, Int.ediv_one]
    split <;> omega
  · have c4 : ¬ i < 0 := by omega
    simp only [c4, if_false, d1, Int.ediv_one]
    split <;> omega
theorem slPick_one (its : List Value) (lo hi : Option Int) (st : Option Int) (h : st.getD 1 = 1) : slPick its.toArray (slB lo hi st its.toArray.size) = cut its lo hi := by
  rw [slB_one lo hi _ st h]
  unfold slPick
  have := HT.pick_gen its.toArray (N.sIx its.toArray.size 0 lo) (N.sIx its.toArray.size its.toArray.size hi - N.sIx its.toArray.size 0 lo)
  have q := congrArg Array.toList this
  simp only [List.toList_toArray] at q
  show List.filterMap (fun (m : Nat) => its.toArray[(((N.sIx its.toArray.size 0 lo : Nat) : Int) + (m : Int) * 1).toNat]?) _ = _
  rw [q]
  unfold cut
  simp
theorem slPick_back (its : List Value) (hi : Option Int) (j : Nat) (h : (hi = none ∧ j = 0) ∨ ∃ i : Int, hi = some i ∧ 0 ≤ i ∧ j = i.toNat + 1) : slPick its.toArray (slB none hi (some (-1)) its.toArray.size) = (its.drop j).reverse := by
  obtain ⟨_, e⟩ := slB_back its.toArray.size hi j h
  rw [e]
  unfold slPick
  by_cases hj : j ≤ its.toArray.size
  · have q := filt_rev (xs := its.toArray) j hj
    rw [List.filterMap_map] at q
    simp only [List.toList_toArray] at q
    rw [← q]
    refine filt_congr fun k hk => ?_
    have := List.mem_range.mp hk
    show its.toArray[(((its.toArray.size : Nat) : Int) - 1 + (k : Int) * -1).toNat]? = its.toArray[its.toArray.size - 1 - k]?
    congr 1
    omega
  · have z : its.toArray.size - j = 0 := by omega
    rw [z, List.drop_eq_nil_of_le (by simp at hj; omega)]
    rfl
theorem pick_slB (its : List Value) (lo hi st : Option Int) (h : st.getD 1 = 1 ∨ (st = some (-1) ∧ lo = none ∧ (hi = none ∨ ∃ i : Int, hi = some i ∧ 0 ≤ i))) : (slicePick its.toArray lo hi st) = (slPick its.toArray (slB lo hi st its.toArray.size)).toArray := by
  unfold slicePick slPick
  congr 1
  have key : sliceRange (sliceBounds lo hi st its.toArray.size).1 (sliceBounds lo hi st its.toArray.size).2.1 (sliceBounds lo hi st its.toArray.size).2.2 = (List.range (slB lo hi st its.toArray.size).2.2).map fun (k : Nat) => ((slB lo hi st its.toArray.size).1 + (k : Int) * (slB lo hi st its.toArray.size).2.1).toNat := by
    generalize its.toArray.size = n
    rcases h with h | ⟨rfl, rfl, h⟩
    · rw [slB_one lo hi n st h]
      have c2 : ((1 : Int) > 0) := by decide
      have b1 : (sliceBounds lo hi st n).1 = ((N.sIx n 0 lo : Nat) : Int) := by
        unfold sliceBounds
        simp only [h, c2, if_true]
        cases lo with
        | none => rfl
        | some i => simp only [N.sIx]; split <;> omega
      have b2 : (sliceBounds lo hi st n).2.1 = ((N.sIx n n hi : Nat) : Int) := by
        unfold sliceBounds
        simp only [h, c2, if_true]
        cases hi with
        | none => rfl
        | some i => simp only [N.sIx]; split <;> omega
      have b3 : (sliceBounds lo hi st n).2.2 = 1 := h
      rw [b1, b2, b3]
      unfold sliceRange
      simp only [c2, if_true]
      have e : (if ((N.sIx n 0 lo : Nat) : Int) < ((N.sIx n n hi : Nat) : Int) then (((N.sIx n n hi : Nat) : Int) - ((N.sIx n 0 lo : Nat) : Int) + 1 - 1) / 1 else 0).toNat = N.sIx n n hi - N.sIx n 0 lo := by
        rw [Int.ediv_one]
        split <;> omega
      rw [e]
      apply List.map_congr_left
      intro k _
      omega
    · have hh : ∃ j, (hi = none ∧ j = 0) ∨ ∃ i : Int, hi = some i ∧ 0 ≤ i ∧ j = i.toNat + 1 := by
        rcases h with h | ⟨i, h, h0⟩
        · exact ⟨0, .inl ⟨h, rfl⟩⟩
        · exact ⟨_, .inr ⟨i, h, h0, rfl⟩⟩
      obtain ⟨j, hj⟩ := hh
      obtain ⟨_, e⟩ := slB_back n hi j hj
      rw [e]
      have c2 : ¬ ((-1 : Int) > 0) := by decide
      have b1 : (sliceBounds none hi (some (-1)) n).1 = (n : Int) - 1 := by
        unfold sliceBounds; rfl
      have b3 : (sliceBounds none hi (some (-1)) n).2.2 = -1 := rfl
      have b2 : (sliceBounds none hi (some (-1)) n).2.1 = (if j = 0 then -1 else min ((j : Int) - 1) ((n : Int) - 1)) := by
        rcases hj with ⟨rfl, rfl⟩ | ⟨i, rfl, h0, rfl⟩
        · rfl
        · unfold sliceBounds
          have c4 : ¬ i < 0 := by omega
          have c5 : ¬ (i.toNat + 1 = 0) := by omega
          show (let i' := if i < 0 then i + (n : Int) else i; if ((some (-1) : Option Int).getD 1) > 0 then max 0 (min i' (n : Int)) else max (-1) (min i' ((n : Int) - 1))) = _
          simp only [c4, if_false]
          rw [if_neg (by decide), if_neg c5]
          omega
      rw [b1, b2, b3]
      unfold sliceRange
      simp only [c2, if_false]
      have d1 : (- -1 : Int) = 1 := by decide
      have e2 : (if (n : Int) - 1 > (if j = 0 then -1 else min ((j : Int) - 1) ((n : Int) - 1)) then ((n : Int) - 1 - (if j = 0 then -1 else min ((j : Int) - 1) ((n : Int) - 1)) - -1 - 1) / (- -1) else 0).toNat = n - j := by
        rw [d1, Int.ediv_one]
        by_cases z : j = 0
        · rw [if_pos z]; split <;> omega
        · rw [if_neg z]; split <;> omega
      rw [e2]
      apply List.map_congr_left
      intro k _
      omega
  rw [key, List.filterMap_map]
  rfl
/-- the part of slc that is served -/
theorem slc_cases {α : Type} {xs ys : List α} {lo hi st : Option Int} (h : slc xs lo hi st = some ys) :
    (st.getD 1 = 1 ∧ ys = cut xs lo hi) ∨ (st = some (-1) ∧ lo = none ∧ ∃ j, ((hi = none ∧ j = 0) ∨ ∃ i : Int, hi = some i ∧ 0 ≤ i ∧ j = i.toNat + 1) ∧ ys = (xs.drop j).reverse) := by
  unfold slc at h
  split at h
  · cases h; exact .inl ⟨rfl, rfl⟩
  · rename_i c
    split at h
    · rename_i e; cases h; exact .inl ⟨by rw [e]; rfl, rfl⟩
    · split at h
      · rename_i e
        subst e
        split at h
        · cases h; exact .inr ⟨rfl, rfl, 0, .inl ⟨rfl, rfl⟩, by simp⟩
        · split at h
          · rename_i i h0; cases h; exact .inr ⟨rfl, rfl, _, .inr ⟨_, rfl, h0, rfl⟩, rfl⟩
          · cases h
        · cases h
      · cases h
theorem slc_ok {α : Type} {xs ys : List α} {lo hi st : Option Int} (h : slc xs lo hi st = some ys) : st.getD 1 = 1 ∨ (st = some (-1) ∧ lo = none ∧ (hi = none ∨ ∃ i : Int, hi = some i ∧ 0 ≤ i)) := by
  rcases slc_cases h with ⟨e, _⟩ | ⟨e1, e2, j, h, _⟩
  · exact .inl e
  · refine .inr ⟨e1, e2, ?_⟩
    rcases h with ⟨h, _⟩ | ⟨i, h, h0, _⟩
    · exact .inl h
    · exact .inr ⟨i, h, h0⟩
theorem slc_step {α : Type} {xs ys : List α} {lo hi st : Option Int} (h : slc xs lo hi st = some ys) : st ≠ some 0 := by
  intro z
  rcases slc_ok h with e | ⟨e, _⟩
  · rw [z] at e; cases e
  · rw [z] at e; cases e
/-- a slice of another row, as long, is cut alike -/
theorem slc_map {α β : Type} {R : List α → List β → Prop} (hd : ∀ n xs ys, R xs ys → R (xs.drop n) (ys.drop n)) (ht : ∀ n xs ys, R xs ys → R (xs.take n) (ys.take n)) (hr : ∀ xs ys, R xs ys → R xs.reverse ys.reverse) {xs : List α} {zs : List β} (r : R xs zs) (hl : xs.length = zs.length)
    {ys : List α} {lo hi st : Option Int} (h : slc xs lo hi st = some ys) : ∃ ws, slc zs lo hi st = some ws ∧ R ys ws := by
  have cutR : R (cut xs lo hi) (cut zs lo hi) := by unfold cut; rw [hl]; exact ht _ _ _ (hd _ _ _ r)
  unfold slc at h ⊢
  split at h
  · cases h; exact ⟨_, rfl, cutR⟩
  · split at h
    · rename_i e; cases h; exact ⟨_, by simp [e], cutR⟩
    · split at h
      · rename_i n1 e
        subst e
        split at h
        · cases h; exact ⟨_, rfl, hr _ _ r⟩
        · split at h
          · rename_i h0; cases h; exact ⟨(zs.drop _).reverse, by simp [h0], hr _ _ (hd _ _ _ r)⟩
          · cases h
        · cases h
      · cases h
theorem slPick_slc {its ws : List Value} {lo hi st : Option Int} (h : slc its lo hi st = some ws) : slPick its.toArray (slB lo hi st its.toArray.size) = ws := by
  rcases slc_cases h with ⟨e, rfl⟩ | ⟨rfl, rfl, j, hj, rfl⟩
  · exact slPick_one its lo hi st e
  · exact slPick_back its hi j hj
theorem slc_len {α : Type} {xs ys : List α} {lo hi st : Option Int} (h : slc xs lo hi st = some ys) : ys.length ≤ xs.length := by
  rcases slc_cases h with ⟨_, rfl⟩ | ⟨_, _, j, _, rfl⟩
  · unfold cut; rw [List.length_take, List.length_drop]; omega
  · rw [List.length_reverse, List.length_drop]; omega
end N
set_option autoImplicit false
set_option Elab.async false
set_option linter.all false
set_option maxRecDepth 100000
set_option maxHeartbeats 4000000
namespace N
open PySem L2 PySem.Spec PyProof.Rows
section
variable {X : Cx} {K : PySem.W.Frag} {ρ ρ' : List Addr} {H H' : Hp} {S S' : Sto} {d : D} {v : V} {e : Env} {σ : L2.St}
theorem SR.scr {n : Nat} {a : Addr} {ns : List Int} (s : SR K ρ H S) (h1 : S[n]? = some (.scr ns)) (h2 : ρ[n]? = some a) : SqL K H a (ns.map V.int) := by
  obtain ⟨o, e⟩ := s.at_ n _ a h1 h2
  exact .inl (.inr ⟨o, e⟩)
/-- a list of the store as a row -/
theorem SR.row {n : Nat} {a : Addr} {xs : List D} (s : SR K ρ H S) (h : S[n]? = some (.lst xs)) (h2 : ρ[n]? = some a) : ∃ vs, SqL K H a vs ∧ VRs ρ H xs vs := by
  obtain ⟨vs, q, r⟩ := s.lst h h2
  exact ⟨vs, .of q, r⟩
theorem VRs.at_ {xs : List D} {vs : List V} {i : Int} (r : VRs ρ H xs vs) (h : ((N.ixN xs.length i).bind fun j => xs[j]?) = some d) : ∃ w, atI vs i = some w ∧ VR ρ H d w := by
  obtain ⟨j, h1, h2⟩ := Option.bind_eq_some_iff.mp h
  obtain ⟨w, q1, q2⟩ := r.get h2
  refine ⟨w, ?_, q2⟩
  unfold atI
  rw [r.len] at h1
  rw [show L2.ixN vs.length i = some j from h1]
  exact q1
/-! ### a[i] -/
theorem ix_N (hu : X.A.units + 1 < cLine) : IxR X (r2 X.K fun S a b => match idxI S a b with
    | none => none
    | some d => some (d, S)) := by
  intro value slice pins s σ H x y v u Q I rx ry h hs
  obtain ⟨ρ, S, da, db, d, S', hS, ra, rb, hr, k⟩ := h
  have dct : ∀ {n : Nat} {kvs : List (D × D)} {a : Addr}, x = V.ref a → ρ[n]? = some a → S[n]? = some (.dct kvs) → (if keysOk kvs db = true then dget kvs db else none) = some d → S' = S →
      wpAny (model X.prog X.w) X.A (subscriptTail value slice v u) (EP X pins σ Q) X.xe s := fun {n kvs a} ex ea e1 e2 e3 => by
    subst ex e3
    cases rx
    split at e2
    · rename_i hk
      obtain ⟨H', r, I', S1, g, dg, o⟩ := dict_get I hS e1 ea rb hk
      rw [e2] at o
      cases r with
      | none => cases o
      | some w => exact tail_any (dict_typeIs I' dg) PySem.F.slot_dict_getitem.lookup (d_getItem hu I' dg ry fun w' s' I2 rw' => ⟨w, H', I2, rw', k ρ H' w g S1 o⟩) hs
    · cases e2
  cases ra with
  | non => cases rb <;> cases hr
  | bl _ => cases rb <;> cases hr
  | int _ => cases rb <;> cases hr
  | str _ => cases rb <;> cases hr
  | rep => cases rb <;> cases hr
  | tup ea rs =>
    cases rb <;> simp only [idxI] at hr <;> try (cases hr; done)
    rename_i i
    split at hr
    · cases hr
    · rename_i d' e1
      cases hr
      obtain ⟨w, q1, q2⟩ := rs.at_ e1
      exact ix_tup value slice pins s σ H _ _ v u Q I rx ry ⟨_, _, i, w, rfl, rfl, .of ea, q1, k.ret hS q2⟩ hs
  | ref ea =>
    rename_i n a
    by_cases hi : ∃ i, db = .int i
    · obtain ⟨i, rfl⟩ := hi
      cases rb
      simp only [idxI] at hr
      split at hr
      · cases hr
      · rename_i d' e1
        cases hr
        split at e1
        · rename_i xs e2
          obtain ⟨vs, q, rs⟩ := hS.row e2 ea
          obtain ⟨w, q1, q2⟩ := rs.at_ e1
          exact ix_list value slice pins s σ H _ _ v u Q I rx ry ⟨_, _, i, w, rfl, rfl, q, q1, k.ret hS q2⟩ hs
        · rename_i kvs e2
          exact dct rfl ea e2 e1 rfl
        · cases e1
    · have he : idxI S (.ref n) db = match S[n]? with
        | some (.dct kvs) => if keysOk kvs db then dget kvs db else none
        | _ => none := by
        cases db <;> first | rfl | exact absurd ⟨_, rfl⟩ hi
      replace hr : (match idxI S (D.ref n) db with | none => none | some d => some (d, S)) = some (d, S') := hr
      rw [he] at hr
      split at hr
      · cases hr
      · rename_i d' e1
        cases hr
        split at e1
        · rename_i kvs e2
          exact dct rfl ea e2 e1 rfl
        · cases e1
theorem se_idx {a b : Expr} {x y : Ex} {pos : Pos} (hu : X.A.units + 1 < cLine) (ha : SE X a (evalE x)) (hb : SE X b (evalE y)) (hs : PlainIx b) : SE X (.Subscript a b pos) (evalE (.idx x y)) :=
  PE.imp (pe_ix (ix_N hu) ha hb hs) fun σ H Q q => seq2 (g := fun S a b => match idxI S a b with
    | none => none
    | some d => some (d, S)) (by
    obtain ⟨ρ, e, S, d, S', h1, h2, h3, h4⟩ := q
    simp only [evalE] at h3
    exact ⟨ρ, e, S, d, S', h1, h2, h3, h4⟩)
/-! ### slices -/
def TOv (K : PySem.W.Frag) (x : Env → Sto → RE) : TO := fun σ H Q => ∃ ρ e S d S' o, ER ρ H e σ ∧ SR K ρ H S ∧ x e S = some (d, S') ∧ optI d = some o ∧ ∀ ρ' H', Go ρ H ρ' H' → SR K ρ' H' S' → Q o H'
def SO (X : Cx) (E : Option Expr) (x : Ex) : Prop := PO X E (TOv X.K (evalE x))
theorem so_none : SO X none .abs := by
  refine ⟨fun pins s σ H Q I h => ?_⟩
  obtain ⟨ρ, e, S, d, S', o, h1, h2, h3, h4, h5⟩ := h
  simp only [evalE] at h3
  cases h3
  cases h4
  rw [evalPart_none]
  exact wpAny_pure ⟨none, H, I, .none, h5 ρ H .refl h2⟩
theorem so_some {E : Expr} {x : Ex} (h : SE X E (evalE x)) : SO X (some E) x := by
  refine ⟨fun pins s σ H Q I hw => ?_⟩
  obtain ⟨ρ, e, S, d, S', o, h1, h2, h3, h4, h5⟩ := hw
  rw [evalPart_some]
  refine thn (h.run pins s σ H (fun v H1 => ∃ ρ1, Go ρ H ρ1 H1 ∧ SR X.K ρ1 H1 S' ∧ VR ρ1 H1 d v) I ⟨ρ, e, S, d, S', h1, h2, h3, fun ρ1 H1 v g s r => ⟨ρ1, g, s, r⟩⟩) fun u s1 ⟨v, H1, I1, r1, ρ1, g, s1', r⟩ => ?_
  cases r <;> simp only [optI] at h4 <;> cases h4
  · cases r1
    exact ⟨none, H1, I1, .none, h5 ρ1 H1 g s1'⟩
  · obtain ⟨t, rfl⟩ := r1
    exact ⟨some _, H1, I1, .int _ t, h5 ρ1 H1 g s1'⟩
section
variable {prog : Program} {w : World} {A : Around} {E : Value → Shared → Prop} {s : Shared}
theorem sliceApplied_N {sl : Addr} {vl vu vs : Value} {lo hi st : Option Int} {n : Nat} {Q : Int × Int × Nat → Shared → Prop} (hs : s.heap.IsSliceOf sl vl vu vs) (pl : IsPart vl lo) (pu : IsPart vu hi) (ps : IsPart vs st) (h0 : st ≠ some 0)
    (h : Q (slB lo hi st n) s) : wpAny (model prog w) A (Builtin.Slice.sliceApplied (.ref sl) (pure (n : Int))) Q E s := by
  obtain ⟨os, hos, hcs, hds⟩ := id hs
  unfold Builtin.Slice.sliceApplied Builtin.Slice.sliceFields
  refine wpAny_bind (wpAny_bind (wpAny_field hos hds (x := vl) rfl (wpAny_bind (wpAny_field hos hds (x := vu) rfl (wpAny_bind (wpAny_field hos hds (x := vs) rfl (wpAny_pure ?_)))))))
  refine wpAny_bind (HT.slicePart_ ps ?_)
  show wpAny _ _ (if ((st.getD 1) == 0) = true then _ else _) _ _ s
  rw [if_neg (by
    intro z
    have := eq_of_beq z
    cases st with
    | none => cases this
    | some c => exact h0 (by rw [show c = 0 from this]))]
  refine wpAny_bind (HT.slicePart_ pl (wpAny_bind (HT.slicePart_ pu (wpAny_bind (wpAny_pure ?_)))))
  exact wpAny_pure h
theorem slB_whole (its : List Value) {lo hi st : Option Int} (h : ((slB lo hi st its.toArray.size).1 == 0 && (slB lo hi st its.toArray.size).2.1 == 1 && (slB lo hi st its.toArray.size).2.2 == its.toArray.size) = true) : slPick its.toArray (slB lo hi st its.toArray.size) = its := by
  rw [Bool.and_eq_true, Bool.and_eq_true] at h
  have h1 := eq_of_beq h.1.1
  have h2 := eq_of_beq h.1.2
  have h3 := eq_of_beq h.2
  unfold slPick
  rw [h1, h2, h3]
  have q := congrArg Array.toList (HT.pick_gen its.toArray 0 its.toArray.size)
  simp only [List.toList_toArray] at q
  rw [show (List.range its.toArray.size).filterMap (fun (k : Nat) => its.toArray[((0 : Int) + (k : Int) * 1).toNat]?) = (List.range its.toArray.size).filterMap (fun (m : Nat) => its.toArray[(((0 : Nat) : Int) + (m : Int) * 1).toNat]?) from rfl, q]
  simp
theorem getItem_tuple_C {t sl : Addr} {its : List Value} {vl vu vs : Value} {lo hi st : Option Int} {Q : Value → Shared → Prop} (ht : IsTup s.heap t its.toArray) (hs : s.heap.IsSliceOf sl vl vu vs) (pl : IsPart vl lo) (pu : IsPart vu hi) (ps : IsPart vs st) (h0 : st ≠ some 0)
    (hz : (slPick its.toArray (slB lo hi st its.toArray.size)).length ≤ sizeLine)
    (h1 : ((slB lo hi st its.toArray.size).1 == 0 && (slB lo hi st its.toArray.size).2.1 == 1 && (slB lo hi st its.toArray.size).2.2 == its.toArray.size) = true → Q (.ref t) s)
    (h : ¬ ((slB lo hi st its.toArray.size).1 == 0 && (slB lo hi st its.toArray.size).2.1 == 1 && (slB lo hi st its.toArray.size).2.2 == its.toArray.size) = true → Q (.ref s.heap.objs.size) { s with heap := s.heap.push { cls := .type "tuple", data := .seq (slPick its.toArray (slB lo hi st its.toArray.size)).toArray } }) : wpAny (model prog w) A (getItem (.ref t) (.ref sl)) Q E s := by
  obtain ⟨os, hos, hcs, hds⟩ := id hs
  have hTs : s.TypeIs (.ref sl) "slice" := ⟨os, hos, hcs⟩
  have htake : sizeOk (.seq (slPick its.toArray (slB lo hi st its.toArray.size)).toArray) := by
    show (slPick its.toArray (slB lo hi st its.toArray.size)).toArray.size ≤ sizeLine
    rw [List.size_toArray]; exact hz
  unfold getItem
  try with_reducible refine wpAny_holding ?_
  first | refine wpAny_bind (wpAny_pure ?_) | skip
  refine wpAny_bind (wpAny_sequenceKey ht.typeIs (by decide) ?_)
  refine wpAny_bind (wpAny_callSpecial?_slot (name := Str.ofString "__getitem__") ht.typeIs PyProof.Rows.slot_tuple_getitem
    (wpAny_call_entry PyProof.Rows.slot_tuple_getitem ht.typeIs entry_tuple_getitem ?_ (args_tuple_getitem _ _)))
  show wpAny _ _ (Builtin.Tuple.tupleItemsOf (.ref t) >>= _) _ _ s
  refine wpAny_bind (tupleItemsOf_ ht ?_)
  refine wpAny_bind (wpAny_typeOf hTs ?_)
  rw [if_pos (by decide)]
  refine wpAny_bind (sliceApplied_N hs pl pu ps h0 ?_)
  show wpAny _ _ (if ((slB lo hi st its.toArray.size).1 == 0 && (slB lo hi st its.toArray.size).2.1 == 1 && (slB lo hi st its.toArray.size).2.2 == its.toArray.size) = true then _ else _) _ _ s
  by_cases c : ((slB lo hi st its.toArray.size).1 == 0 && (slB lo hi st its.toArray.size).2.1 == 1 && (slB lo hi st its.toArray.size).2.2 == its.toArray.size) = true
  · rw [if_pos c]
    have h1 := h1 c
    refine wpAny_bind ?_
    show wpAny _ _ (typeOf (.ref t) >>= fun T => pure (T == .type "tuple")) _ _ s
    refine wpAny_bind (wpAny_typeOf ht.typeIs (wpAny_pure ?_))
    first
      | rw [if_pos (by decide)]
      | simp only [beq_self_eq_true, if_true]
    first
      | exact wpAny_bind (wpAny_rule (wpAny_pure ⟨_, rfl, wpAny_pure h1⟩))
      | exact wpAny_bind (wpAny_rule (wpAny_bind (wpAny_pure (wpAny_pure ⟨_, rfl, wpAny_pure h1⟩))))
  · rw [if_neg c]
    have h := h c
    try rw [if_neg Bool.false_ne_true]
    first
      | exact wpAny_bind (m := Builtin.Tuple.tupleExact _) (wpAny_newObj_type (wpAny_pure ⟨_, rfl, wpAny_pure h⟩) htake)
      | exact wpAny_bind (m := Builtin.Tuple.tupleExact _) (wpAny_newObj_type (wpAny_bind (wpAny_pure (wpAny_pure ⟨_, rfl, wpAny_pure h⟩))) htake)
      | exact wpAny_bind (wpAny_bind (m := Builtin.Tuple.tupleExact _) (wpAny_newObj_type (wpAny_pure (wpAny_pure ⟨_, rfl, wpAny_pure h⟩)) htake))
      | exact wpAny_bind (wpAny_bind (m := Builtin.Tuple.tupleExact _) (wpAny_newObj_type (wpAny_pure ⟨_, rfl, wpAny_pure h⟩) htake))
theorem getItem_tuple_N {t sl : Addr} {its : List Value} {vl vu vs : Value} {lo hi st : Option Int} {Q : Value → Shared → Prop} (ht : IsTup s.heap t its.toArray) (hs : s.heap.IsSliceOf sl vl vu vs) (pl : IsPart vl lo) (pu : IsPart vu hi) (ps : IsPart vs st) (h0 : st ≠ some 0)
    (hz : (slPick its.toArray (slB lo hi st its.toArray.size)).length ≤ sizeLine)
    (h1 : slPick its.toArray (slB lo hi st its.toArray.size) = its → Q (.ref t) s)
    (h : Q (.ref s.heap.objs.size) { s with heap := s.heap.push { cls := .type "tuple", data := .seq (slPick its.toArray (slB lo hi st its.toArray.size)).toArray } }) : wpAny (model prog w) A (getItem (.ref t) (.ref sl)) Q E s :=
  getItem_tuple_C ht hs pl pu ps h0 hz (fun c => h1 (slB_whole its c)) fun _ => h
end
end
end N
set_option autoImplicit false
set_option Elab.async false
set_option linter.all false
set_option maxRecDepth 100000
set_option maxHeartbeats 4000000
namespace N
open PySem L2 PySem.Spec PyProof.Rows
section
variable {X : Cx} {K : PySem.W.Frag} {ρ ρ' : List Addr} {H H' : Hp} {S S' : Sto} {d : D} {v : V} {e : Env} {σ : L2.St}
/-- a row of a list, of the script, cut -/
theorem sl_list_N {pins : List (Addr × Obj)} {s : Shared} {a sl : Addr} {vs : List V} {vl vu vst : Value} {lo hi st : Option Int} {ys : List V} {Q : Value → Shared → Prop} (I : L2.Inv X pins σ H s) (hq : SqL X.K H a vs) (hs : s.heap.IsSliceOf sl vl vu vst) (pl : IsPart vl lo) (pu : IsPart vu hi) (ps : IsPart vst st)
    (h : slc vs lo hi st = some ys) (k : ∀ s', L2.Inv X pins σ (upd H s.heap.objs.size (.lst ys)) s' → H s.heap.objs.size = none → Q (.ref s.heap.objs.size) s') :
    wpAny (model X.prog X.w) X.A (getItem (.ref a) (.ref sl)) Q X.xe s := by
  obtain ⟨its, r, ht, hz⟩ := I.list hq
  obtain ⟨ws, h1, h2⟩ := slc_map (R := Vals) (fun n _ _ r => r.drop n) (fun n _ _ r => r.take n) (fun _ _ r => r.reverse) r r.length h
  refine wpAny_getItem_list_slice ht.isList hs pl pu ps (slc_step h) ?_ (by rw [List.size_toArray, ← r.length]; exact hz)
  rw [pick_slB its lo hi st (slc_ok h1), slPick_slc h1]
  refine k _ (I.laid (t' := s.toks) (o := .lst ys) (fun b ob q => Heap.get?_push_of_some _ q) (Nat.le_refl _) ?_) (I.hok.fresh (Nat.le_refl _))
  exact ⟨Nat.le_trans (slc_len h) hz, ws, 0, h2, Heap.get?_push_size _ rfl⟩
theorem sl_tup_N {pins : List (Addr × Obj)} {s : Shared} {a sl : Addr} {vs : List V} {vl vu vst : Value} {lo hi st : Option Int} {ys : List V} {Q : Value → Shared → Prop} (I : L2.Inv X pins σ H s) (hq : SqT X.K H a vs) (hs : s.heap.IsSliceOf sl vl vu vst) (pl : IsPart vl lo) (pu : IsPart vu hi) (ps : IsPart vst st)
    (h : slc vs lo hi st = some ys) (k0 : ys = vs → Q (.ref a) s) (k : ∀ s', L2.Inv X pins σ (upd H s.heap.objs.size (.tup ys)) s' → H s.heap.objs.size = none → Q (.ref s.heap.objs.size) s') :
    wpAny (model X.prog X.w) X.A (getItem (.ref a) (.ref sl)) Q X.xe s := by
  obtain ⟨its, r, ht, hz⟩ := I.tuple hq
  obtain ⟨ws, h1, h2⟩ := slc_map (R := Vals) (fun n _ _ r => r.drop n) (fun n _ _ r => r.take n) (fun _ _ r => r.reverse) r r.length h
  have hw := slPick_slc h1
  refine getItem_tuple_N ht hs pl pu ps (slc_step h) (by rw [hw, ← h2.length]; exact Nat.le_trans (slc_len h) hz) (fun q => k0 ?_) ?_
  · rw [hw] at q
    subst q
    exact Vals.inj h2 r
  · rw [hw]
    refine k _ (I.laid (t' := s.toks) (o := .tup ys) (fun b ob q => Heap.get?_push_of_some _ q) (Nat.le_refl _) ?_) (I.hok.fresh (Nat.le_refl _))
    exact ⟨Nat.le_trans (slc_len h) hz, ws, h2, IsTup.new _ _⟩
/-- a tuple known as an object, cut by ones -/
theorem sl_ftp_N {pins : List (Addr × Obj)} {s : Shared} {a sl : Addr} {vs : List V} {vl vu vst : Value} {lo hi : Option Int} {Q : Value → Shared → Prop} (I : L2.Inv X pins σ H s) (hq : SqT X.K H a vs) (hs : s.heap.IsSliceOf sl vl vu vst) (pl : IsPart vl lo) (pu : IsPart vu hi) (ps : IsPart vst none)
    (k0 : (N.sIx vs.length 0 lo = 0 ∧ N.sIx vs.length vs.length hi = vs.length) → Q (.ref a) s) (k : ¬ (N.sIx vs.length 0 lo = 0 ∧ N.sIx vs.length vs.length hi = vs.length) → ∀ s' ob, ob.cls = .type "tuple" → ob.dict = none → L2.Inv X pins σ (upd H s.heap.objs.size (.frz ob (.tup (cut vs lo hi)))) s' → H s.heap.objs.size = none → Q (.ref s.heap.objs.size) s') :
    wpAny (model X.prog X.w) X.A (getItem (.ref a) (.ref sl)) Q X.xe s := by
  obtain ⟨its, r, ht, hz⟩ := I.tuple hq
  have h : slc vs lo hi none = some (cut vs lo hi) := rfl
  obtain ⟨ws, h1, h2⟩ := slc_map (R := Vals) (fun n _ _ r => r.drop n) (fun n _ _ r => r.take n) (fun _ _ r => r.reverse) r r.length h
  have hw := slPick_slc h1
  have hlen : its.toArray.size = vs.length := by rw [List.size_toArray, ← r.length]
  have hc : ((slB lo hi none its.toArray.size).1 == 0 && (slB lo hi none its.toArray.size).2.1 == 1 && (slB lo hi none its.toArray.size).2.2 == its.toArray.size) = true ↔ (N.sIx vs.length 0 lo = 0 ∧ N.sIx vs.length vs.length hi = vs.length) := by
    rw [slB_one lo hi _ none rfl, hlen]
    simp only [Bool.and_eq_true, beq_iff_eq]
    constructor
    · rintro ⟨⟨a, _⟩, b⟩
      have a : N.sIx vs.length 0 lo = 0 := by omega
      rw [a] at b
      exact ⟨a, by omega⟩
    · rintro ⟨a, b⟩
      rw [a, b]
      exact ⟨⟨rfl, trivial⟩, by omega⟩
  refine getItem_tuple_C ht hs pl pu ps (slc_step h) (by rw [hw, ← h2.length]; exact Nat.le_trans (slc_len h) hz) (fun q => k0 (hc.mp q)) fun q => ?_
  rw [hw]
  refine k (fun z => q (hc.mpr z)) _ { cls := .type "tuple", data := .seq ws.toArray } rfl rfl (I.laid (t' := s.toks) (o := .frz _ (.tup (cut vs lo hi))) (fun b ob q => Heap.get?_push_of_some _ q) (Nat.le_refl _) ⟨Heap.get?_push_size _ rfl, ?_⟩) (I.hok.fresh (Nat.le_refl _))
  exact ⟨Nat.le_trans (slc_len h) hz, ws, h2, IsTup.new _ _⟩
theorem tail_sl {M : Program} {w : World} {A : Around} {xe : Value → Shared → Prop} {s : Shared} {value : Expr} {Lo Hi St : Option Expr} {p : Pos} {o i : Value} {T id : String} {Q : Value → Shared → Prop} (hT : s.TypeIs o T)
    (hl : typeLookup (.type T) "__getitem__" = pure (some (.builtin id))) (hg : wpAny (model M w) A (getItem o i) Q xe s) : wpAny (model M w) A (subscriptTail value (.Slice Lo Hi St p) o i) Q xe s := by
  cases St with
  | none => exact tail_any (ops := [i, o]) hT hl hg rfl
  | some _ => exact tail_any (ops := [o, i]) hT hl hg rfl
theorem se_slc {E : Expr} {x lo hi st : Ex} {Lo Hi St : Option Expr} {p pos : Pos} (he : SE X E (evalE x)) (hl : SO X Lo lo) (hh : SO X Hi hi) (ht : SO X St st) : SE X (.Subscript E (.Slice Lo Hi St p) pos) (evalE (.slc x lo hi st)) := by
  refine ⟨fun pins s σ H Q I h => ?_⟩
  obtain ⟨ρ, e, S, d, S', hE, hS, h, k⟩ := h
  simp only [evalE] at h
  split at h
  · cases h
  rename_i dx S1 e1
  split at h
  · cases h
  rename_i l S2 e2
  split at h
  · cases h
  rename_i u S3 e3
  split at h
  · cases h
  rename_i t S4 e4
  unfold slcI at h
  split at h
  case h_2 => cases h
  rename_i lo' hi' st' o1 o2 o3
  refine Subscript_ (thn (he.run pins s σ H (fun v H1 => ∃ ρ1, Go ρ H ρ1 H1 ∧ SR X.K ρ1 H1 S1 ∧ VR ρ1 H1 dx v) I ⟨ρ, e, S, dx, S1, hE, hS, e1, fun ρ1 H1 v g s r => ⟨ρ1, g, s, r⟩⟩) fun v s1 ⟨xv, H1, I1, rv, ρ1, g1, hS1, r1⟩ => ?_)
  refine wpAny_Slice (thn (hl.run pins s1 σ H1 (fun o H2 => o = lo' ∧ ∃ ρ2, Go ρ1 H1 ρ2 H2 ∧ SR X.K ρ2 H2 S2) I1 ⟨ρ1, e, S1, l, S2, _, hE.go g1, hS1, e2, o1, fun ρ2 H2 g2 s2 => ⟨rfl, ρ2, g2, s2⟩⟩) fun vl s2 ⟨_, H2, I2, pl, el, ρ2, g2, hS2⟩ => ?_)
  subst el
  refine thn (hh.run pins s2 σ H2 (fun o H3 => o = hi' ∧ ∃ ρ3, Go ρ2 H2 ρ3 H3 ∧ SR X.K ρ3 H3 S3) I2 ⟨ρ2, e, S2, u, S3, _, (hE.go g1).go g2, hS2, e3, o2, fun ρ3 H3 g3 s3 => ⟨rfl, ρ3, g3, s3⟩⟩) fun vu s3 ⟨_, H3, I3, pu, eu, ρ3, g3, hS3⟩ => ?_
  subst eu
  refine thn (ht.run pins s3 σ H3 (fun o H4 => o = st' ∧ ∃ ρ4, Go ρ3 H3 ρ4 H4 ∧ SR X.K ρ4 H4 S4) I3 ⟨ρ3, e, S3, t, S4, _, ((hE.go g1).go g2).go g3, hS3, e4, o3, fun ρ4 H4 g4 s4 => ⟨rfl, ρ4, g4, s4⟩⟩) fun vt s4 ⟨_, H4, I4, pt, et, ρ4, g4, hS4⟩ => ?_
  subst et
  have I5 : L2.Inv X pins σ H4 { s4 with heap := s4.heap.push { cls := .type "slice", data := .fields #[vl, vu, vt] } } := I4.kept (t' := s4.toks) fun b ob q => Heap.get?_push_of_some _ q
  have g := (g2.trans g3).trans g4
  have r5 := r1.go g
  have k5 := k.go (g1.trans g)
  have hsl := Heap.IsSliceOf.new s4.heap vl vu vt
  show wpAny (model X.prog X.w) X.A (subscriptTail E (.Slice Lo Hi St p) v (.ref s4.heap.objs.size)) (EP X pins σ Q) X.xe { s4 with heap := s4.heap.push { cls := .type "slice", data := .fields #[vl, vu, vt] } }
  split at h
  · -- a tuple
    rename_i xs
    split at h
    · rename_i ys ey
      cases h
      cases r5 with
      | tup ea rs =>
        cases rv
        obtain ⟨ws, h1, h2⟩ := slc_map (R := VRs ρ4 H4) (fun n _ _ r => r.drop n) (fun n _ _ r => r.take n) (fun _ _ r => r.rev) rs rs.len ey
        obtain ⟨its, rr, ht, hz⟩ := I5.tuple (.of ea)
        refine tail_sl ht.typeIs PyProof.Rows.slot_tuple_getitem.lookup ?_
        refine sl_tup_N I5 (.of ea) hsl pl pu pt h1 (fun q => ?_) fun s' I' hn => ?_
        · subst q
          exact ⟨.ref _, H4, I5, rfl, k5.ret hS4 (.tup ea h2)⟩
        · exact ⟨.ref _, _, I', rfl, k5.tup hS4 h2 _ hn⟩
    · cases h
  · -- a list, the script
    rename_i n
    cases r5 with
    | ref ea =>
      cases rv
      split at h
      · rename_i xs e5
        split at h
        · rename_i ys ey
          cases h
          obtain ⟨vs, q, rs⟩ := hS4.row e5 ea
          obtain ⟨ws, h1, h2⟩ := slc_map (R := VRs ρ4 H4) (fun n _ _ r => r.drop n) (fun n _ _ r => r.take n) (fun _ _ r => r.rev) rs rs.len ey
          obtain ⟨its, rr, ht, hz⟩ := I5.list q
          refine tail_sl ht.isList.typeIs PySem.slot_list_getitem.lookup ?_
          exact sl_list_N I5 q hsl pl pu pt h1 fun s' I' hn => ⟨.ref _, _, I', rfl, k5.lst hS4 h2 _ hn⟩
        · cases h
      · rename_i ns e5
        split at h
        · rename_i ys ey
          cases h
          have q := hS4.scr e5 ea
          obtain ⟨ws, h1, h2⟩ := slc_map (R := fun (a : List Int) (b : List V) => b = a.map V.int) (fun n _ _ r => by rw [r, List.map_drop]) (fun n _ _ r => by rw [r, List.map_take]) (fun _ _ r => by rw [r, List.map_reverse]) (zs := ns.map V.int) rfl (by simp) ey
          subst h2
          obtain ⟨its, rr, ht, hz⟩ := I5.list q
          refine tail_sl ht.isList.typeIs PySem.slot_list_getitem.lookup ?_
          exact sl_list_N I5 q hsl pl pu pt h1 fun s' I' hn => ⟨.ref _, _, I', rfl, k5.lst hS4 (VRs.ofInts ys) _ hn⟩
        · cases h
      · rename_i xs e5
        obtain ⟨ob, vs, q, oc, od, rs⟩ := hS4.at_ _ _ _ e5 ea
        have qs : SqT X.K H4 _ vs := .inl (.inr ⟨ob, q⟩)
        obtain ⟨its, rr, ht, hz⟩ := I5.tuple qs
        split at h
        case isFalse => cases h
        rename_i hst
        have hst := of_decide_eq_true hst
        subst hst
        have hl := rs.len
        refine tail_sl ht.typeIs PyProof.Rows.slot_tuple_getitem.lookup ?_
        refine sl_ftp_N I5 qs hsl pl pu pt (fun c => ?_) fun c s' ob' oc' od' I' hn => ?_
        · rw [if_pos (by rw [hl]; exact decide_eq_true c)] at h
          cases h
          exact ⟨.ref _, H4, I5, rfl, k5.ret hS4 (.ref ea)⟩
        · rw [if_neg (by rw [hl]; simpa using c)] at h
          cases h
          refine ⟨.ref _, _, I', rfl, k5.new hS4 (fun p hp => ⟨ob', _, upd_same, oc', od', VRs.go (Go.laid hp) ?_⟩) _ hn⟩
          unfold cut
          rw [hl]
          exact (rs.drop _).take _
      · cases h
  · cases h
end
end N
set_option autoImplicit false
set_option Elab.async false
set_option linter.all false
set_option maxRecDepth 100000
set_option maxHeartbeats 4000000
namespace N
open PySem L2 PySem.Spec PyProof.Rows
/-! ### statements -/
/-- where a statement's run ends -/
def EFin (K : PySem.W.Frag) (ρ : List Addr) (H : Hp) (f : Fl) (e' : Env) (S' : Sto) (D : Ends) : Prop := ∀ ρ' H', Go ρ H ρ' H' → SR K ρ' H' S' →
  match f with
  | .nx => ∀ σ', ER ρ' H' e' σ' → D.nx σ' H'
  | .brk => ∀ σ', ER ρ' H' e' σ' → D.bk σ' H'
  | .rt d => ∀ v, VR ρ' H' d v → D.rt v H'
def TSv (K : PySem.W.Frag) (x : Env → Sto → RS) : TS := fun D σ H => ∃ ρ e S f e' S', ER ρ H e σ ∧ SR K ρ H S ∧ x e S = some (f, e', S') ∧ EFin K ρ H f e' S' D
def SS (X : Cx) (st : Stmt) (x : Env → Sto → RS) : Prop := PS X st (TSv X.K x)
def SSs (X : Cx) (st : List Stmt) (x : Env → Sto → RS) : Prop := PSs X st (TSv X.K x)
abbrev RB := Option (Env × Sto)
/-- two states that are alike but at the slots vs -/
def Off (vs : List Nat) (σ σ' : L2.St) : Prop := σ'.length = σ.length ∧ ∀ j, j ∉ vs → σ'[j]? = σ[j]?
theorem Off.refl {vs : List Nat} {σ : L2.St} : Off vs σ σ := ⟨rfl, fun _ _ => rfl⟩
theorem Off.trans {vs ws : List Nat} {σ σ1 σ2 : L2.St} (a : Off vs σ σ1) (b : Off ws σ1 σ2) : Off (vs ++ ws) σ σ2 := ⟨b.1.trans a.1, fun j h => (b.2 j fun z => h (List.mem_append_right _ z)).trans (a.2 j fun z => h (List.mem_append_left _ z))⟩
theorem Off.set {i : Nat} {σ : L2.St} {v : Option V} : Off [i] σ (σ.set i v) := ⟨by simp, fun j h => List.getElem?_set_ne fun z => h (by simp [z])⟩
def TGv (K : PySem.W.Frag) (vs : List Nat) (b : D → Env → Sto → RB) : TG := fun v σ H Q => ∃ ρ e S d e' S', ER ρ H e σ ∧ SR K ρ H S ∧ VR ρ H d v ∧ b d e S = some (e', S') ∧ ∀ ρ' H' σ', Go ρ H ρ' H' → SR K ρ' H' S' → ER ρ' H' e' σ' → Off vs σ σ' → Q σ' H'
def SG (X : Cx) (t : Expr) (x : Ex) : Prop := PG X t (TGv X.K (slots x) (bindT x))
def TGsv (K : PySem.W.Frag) (ws : List Nat) (b : List D → Env → Sto → RB) : TGs := fun vs σ H Q => ∃ ρ e S ds e' S', ER ρ H e σ ∧ SR K ρ H S ∧ VRs ρ H ds vs ∧ b ds e S = some (e', S') ∧ ∀ ρ' H' σ', Go ρ H ρ' H' → SR K ρ' H' S' → ER ρ' H' e' σ' → Off ws σ σ' → Q σ' H'
def SGs (X : Cx) (ts : List Expr) (xs : List Ex) : Prop := PGs X ts (TGsv X.K (slotss xs) (bindTs xs))
theorem PS.imp {X : Cx} {st : Stmt} {t u : TS} (h : PS X st t) (i : ∀ D σ H, u D σ H → t D σ H) : PS X st u := ⟨fun pins s σ H D I q => h.run pins s σ H D I (i D σ H q)⟩
theorem PSs.imp {X : Cx} {st : List Stmt} {t u : TS} (h : PSs X st t) (i : ∀ D σ H, u D σ H → t D σ H) : PSs X st u := ⟨fun pins s σ H D I q => h.run pins s σ H D I (i D σ H q)⟩
theorem PG.imp {X : Cx} {e : Expr} {t u : TG} (h : PG X e t) (i : ∀ v σ H Q, u v σ H Q → t v σ H Q) : PG X e u := ⟨fun pins s σ H v w Q I r q => h.run pins s σ H v w Q I r (i v σ H Q q)⟩
theorem PGs.imp {X : Cx} {e : List Expr} {t u : TGs} (h : PGs X e t) (i : ∀ v σ H Q, u v σ H Q → t v σ H Q) : PGs X e u := ⟨fun pins s σ H v w Q I r q => h.run pins s σ H v w Q I r (i v σ H Q q)⟩
section
variable {X : Cx} {K : PySem.W.Frag} {ρ ρ' : List Addr} {H H' : Hp} {S S' : Sto} {d : D} {v : V} {e : Env} {σ : L2.St} {f : Fl} {e' : Env} {De : Ends}
theorem EFin.go (k : EFin K ρ H f e' S' De) (g : Go ρ H ρ' H') : EFin K ρ' H' f e' S' De := fun ρ2 H2 g2 s2 => k ρ2 H2 (g.trans g2) s2
theorem ER.set {i : Nat} (h : ER ρ H e σ) (r : VR ρ H d v) : ER ρ H (e.set i (some d)) (σ.set i (some v)) := by
  refine ⟨by simp [h.1], fun j d' q => ?_⟩
  by_cases hj : i = j
  · subst hj
    have hl := (List.getElem?_eq_some_iff.mp q).1
    rw [List.length_set] at hl
    rw [List.getElem?_set_self hl] at q
    cases q
    exact ⟨v, List.getElem?_set_self (by rw [← h.1]; exact hl), r⟩
  · rw [List.getElem?_set_ne hj] at q
    obtain ⟨w, q1, q2⟩ := h.2 j d' q
    exact ⟨w, by rw [List.getElem?_set_ne hj]; exact q1, q2⟩
/-! #### targets -/
theorem sg_name {i : Nat} {x : Str} {pos : Pos} (hN : X.N.Nodup) (hi : X.N[i]? = some x) (hx : Loc X.env.scope x) (hf : X.fn x = true ∨ X.env.scope.names.lookup x = some .local) : SG X (.Name x pos) (.tgN i) :=
  PG.imp (pg_name hN hi hx hf) fun v σ H Q q => by
    obtain ⟨ρ, e, S, d, e', S', h1, h2, h3, h4, h5⟩ := q
    simp only [bindT] at h4
    cases h4
    exact h5 ρ H _ .refl h2 (h1.set h3) .set
theorem sgs_nil : SGs X [] [] := PGs.imp pgs_nil fun v σ H Q q => by
  obtain ⟨ρ, e, S, d, e', S', h1, h2, h3, h4, h5⟩ := q
  cases d with
  | nil => simp only [bindTs] at h4; cases h4; cases h3; exact ⟨rfl, h5 ρ H σ .refl h2 h1 .refl⟩
  | cons _ _ => simp only [bindTs] at h4; cases h4
theorem sgs_cons {t : Ex} {ts : List Ex} {E : Expr} {Es : List Expr} (h1 : SG X E t) (h2 : SGs X Es ts) (hs : (assignEach (E :: Es) X.env).map (·.2) = assign E X.env :: (assignEach Es X.env).map (·.2)) : SGs X (E :: Es) (t :: ts) :=
  PGs.imp (pgs_cons h1 h2 hs) fun v σ H Q q => by
    obtain ⟨ρ, e, S, d, e', S', h1, h2, h3, h4, h5⟩ := q
    cases d with
    | nil => simp only [bindTs] at h4; cases h4
    | cons d ds =>
      simp only [bindTs] at h4
      split at h4
      · cases h4
      · rename_i e1 S1 q1
        cases h3 with
        | cons r rs => exact ⟨_, _, rfl, ρ, e, S, d, e1, S1, h1, h2, r, q1, fun ρ1 H1 σ1 g1 s1 E1 o1 => ⟨ρ1, e1, S1, ds, e', S', E1, s1, rs.go g1, h4, fun ρ2 H2 σ2 g2 s2 E2 o2 => h5 ρ2 H2 σ2 (g1.trans g2) s2 E2 (o1.trans o2)⟩⟩
theorem bindTs_len {ts : List Ex} : ∀ {ds : List D} {e : Env} {S : Sto} {r : Env × Sto}, bindTs ts ds e S = some r → ds.length = ts.length := by
  induction ts with
  | nil =>
    intro ds e S r h
    cases ds with
    | nil => rfl
    | cons _ _ => simp only [bindTs] at h; cases h
  | cons t ts ih =>
    intro ds e S r h
    cases ds with
    | nil => simp only [bindTs] at h; cases h
    | cons d ds =>
      simp only [bindTs] at h
      split at h
      · cases h
      · rw [List.length_cons, List.length_cons, ih h]
theorem sg_tup {ts : List Ex} {Es : List Expr} {k : Nat} {pos : Pos} (hc : X.calm = true) (h : SGs X Es ts) (hn : (assignEach Es X.env).length = ts.length) (hst : (assignEach Es X.env).findIdx? (·.1) = none) : SG X (.Tuple Es k pos) (.tgT ts) := by
  refine ⟨fun pins s σ H v u Q I rv q => ?_⟩
  obtain ⟨ρ, e, S, d, e', S', h1, h2, h3, h4, h5⟩ := q
  simp only [bindT] at h4
  split at h4
  · cases h4
  · rename_i ds e1
    have hl := bindTs_len h4
    cases h3 <;> simp only [itemsI] at e1 <;> try (cases e1; done)
    · rename_i xs a vs ea rs
      cases e1
      exact (pg_tup hc h hn hst).run pins s σ H _ u Q I rv ⟨a, vs, rfl, .of ea, by rw [← rs.len, hl], ρ, e, S, _, e', S', h1, h2, rs, h4, h5⟩
    · rename_i n a ea
      split at e1
      · rename_i xs e2
        cases e1
        obtain ⟨vs, q, rs⟩ := h2.row e2 ea
        exact (pg_unl hc h hn hst).run pins s σ H _ u Q I rv ⟨a, vs, rfl, q, by rw [← rs.len, hl], ρ, e, S, _, e', S', h1, h2, rs, h4, h5⟩
      · cases e1
/-! #### o[i] = v -/
def tSetN (K : PySem.W.Frag) : TSet := fun o i v H Q => ∃ ρ S od id vd S', SR K ρ H S ∧ VR ρ H od o ∧ VR ρ H id i ∧ VR ρ H vd v ∧ setI S od id vd = some S' ∧ ∀ ρ' H', Go ρ H ρ' H' → SR K ρ' H' S' → Q H'
theorem set_N (hu : X.A.units + 1 < cLine) : PSet X (tSetN X.K) := by
  intro pins s σ H o i v ov iv u Q I ro ri rv h
  obtain ⟨ρ, S, od, id, vd, S', hS, r1, r2, r3, hr, k⟩ := h
  unfold setI at hr
  split at hr
  case h_2 => cases hr
  rename_i n
  cases r1 with
  | ref ea =>
    rename_i a
    cases ro
    split at hr
    · rename_i xs e1
      split at hr
      · rename_i j
        obtain ⟨m, e2, e3⟩ := Option.map_eq_some_iff.mp hr
        cases e3
        cases r2
        obtain ⟨vs, q, rs⟩ := hS.lst e1 ea
        refine set_list pins s σ H (.ref a) _ v _ iv u _ I rfl ri rv ⟨a, vs, j, m, rfl, rfl, q, by rw [← rs.len]; exact e2, ?_⟩
        have g : Go ρ H ρ (upd H a (.lst (vs.set m v))) := Go.write (List.mem_of_getElem? ea) q trivial
        exact k _ _ g (hS.write e1 ea rfl rfl ⟨_, upd_same, (VRs.set r3 m rs).go g⟩)
      · cases hr
    · rename_i kvs e1
      split at hr
      · rename_i hk
        have hk := Bool.and_eq_true_iff.mp hk
        have hl := of_decide_eq_true hk.2
        cases hr
        obtain ⟨H1, I1, S1, g1, c⟩ := dict_for I hS e1 ea r2 hk.1
        rcases c with ⟨q, ks, rfl, rfl, e2, rk⟩ | ⟨q, ks, b, rfl, rfl, eb, e2, rk⟩
        · refine d_setItem hu I1 (DPut.k e2 (by rw [← rk.len, sizeLine_eq]; exact hl)) ri rv fun s4 I4 => ⟨_, I4, ?_⟩
          have g : Go ρ H1 ρ (upd H1 a (.dK (putK ks q v))) := Go.write (List.mem_of_getElem? ea) e2 trivial
          exact k _ _ (g1.trans g) (S1.write e1 ea rfl rfl (.inl ⟨_, upd_same, kR.imp (fun _ _ r => r.go g) (rk.put q (r3.go g1))⟩))
        · refine d_setItem hu I1 (DPut.t e2 eb (by rw [← rk.len, sizeLine_eq]; exact hl)) ri rv fun s4 I4 => ⟨_, I4, ?_⟩
          have g : Go ρ H1 ρ (upd H1 a (.dT (putK ks q v))) := Go.write (List.mem_of_getElem? ea) e2 trivial
          exact k _ _ (g1.trans g) (S1.write e1 ea rfl rfl (.inr ⟨_, upd_same, tR.imp (fun _ _ r => r.go g) (rk.put q (r3.go g1))⟩))
      · cases hr
    · cases hr
theorem sg_sub {o i : Ex} {O I : Expr} {pos : Pos} (hu : X.A.units + 1 < cLine) (ho : SE X O (evalE o)) (hi : SE X I (evalE i)) (ha : ∀ v, assign (.Subscript O I pos) X.env v = (do
      let ov ← holding [v] (eval O X.env)
      let iv ← holding [v, ov] (eval I X.env)
      standAt pos
      holding [v, ov, iv] (setItem ov iv v)
      release [v, ov, iv] [])) : SG X (.Subscript O I pos) (.tgS o i) := PG.imp (pg_sub ho hi (set_N hu) ha) fun v σ H Q q => by
  obtain ⟨ρ, e, S, d, e', S', h1, h2, h3, h4, h5⟩ := q
  simp only [bindT] at h4
  split at h4
  · cases h4
  rename_i x S1 e1
  split at h4
  · cases h4
  rename_i y S2 e2
  split at h4
  · cases h4
  rename_i S3 e3
  cases h4
  exact ⟨ρ, e, S, x, S1, h1, h2, e1, fun ρ1 H1 v1 g1 s1 r1 => ⟨ρ1, e, S1, y, S2, h1.go g1, s1, e2, fun ρ2 H2 v2 g2 s2 r2 =>
    ⟨ρ2, S2, x, y, d, _, s2, r1.go g2, r2, (h3.go g1).go g2, e3, fun ρ3 H3 g3 s3 => h5 ρ3 H3 σ ((g1.trans g2).trans g3) s3 (h1.go ((g1.trans g2).trans g3)) .refl⟩⟩⟩
/-! #### statements -/
theorem ss_asg {t x : Ex} {tg E : Expr} {pos : Pos} (he : SE X E (evalE x)) (hg : SG X tg t) (hs : swapsWithSole [tg] E pos.line X.env = pure false) (hw : swappedStores [tg] E X.env = pure none)
    (h1 : (assignEach [tg] X.env).map (·.2) = [assign tg X.env]) : SS X (.Assign [tg] E pos) (execS (.asg t x)) := PS.imp (ps_asg he hg hs hw h1) fun De σ H q => by
  obtain ⟨ρ, e, S, f, e', S', h1, h2, h3, h4⟩ := q
  simp only [execS] at h3
  split at h3
  · cases h3
  rename_i d S1 e1
  split at h3
  · cases h3
  rename_i e2 S2 e3
  cases h3
  exact ⟨ρ, e, S, d, S1, h1, h2, e1, fun ρ1 H1 v g s r => ⟨ρ1, e, S1, d, _, _, h1.go g, s, r, e3, fun ρ2 H2 σ2 g2 s2 E2 _ => h4 ρ2 H2 (g.trans g2) s2 σ2 E2⟩⟩
theorem ss_ex {x : Ex} {E : Expr} {pos : Pos} (he : SE X E (evalE x)) (hs : swapsWith E none pos.line X.env = pure false) : SS X (.Expr E pos) (execS (.ex x)) := PS.imp (ps_expr he hs) fun De σ H q => by
  obtain ⟨ρ, e, S, f, e', S', h1, h2, h3, h4⟩ := q
  simp only [execS] at h3
  split at h3
  · cases h3
  rename_i d S1 e1
  cases h3
  exact ⟨ρ, e, S, d, _, h1, h2, e1, fun ρ1 H1 v g s r => h4 ρ1 H1 g s σ (h1.go g)⟩
theorem ss_ret {x : Ex} {E : Expr} {pos : Pos} (he : SE X E (evalE x)) : SS X (.Return (some E) pos) (execS (.ret x)) := PS.imp (ps_ret he) fun De σ H q => by
  obtain ⟨ρ, e, S, f, e', S', h1, h2, h3, h4⟩ := q
  simp only [execS] at h3
  split at h3
  · cases h3
  rename_i d S1 e1
  cases h3
  exact ⟨ρ, e, S, d, _, h1, h2, e1, fun ρ1 H1 v g s r => h4 ρ1 H1 g s v r⟩
theorem ss_retN {pos : Pos} : SS X (.Return none pos) (execS .retN) := PS.imp ps_retN fun De σ H q => by
  obtain ⟨ρ, e, S, f, e', S', h1, h2, h3, h4⟩ := q
  simp only [execS] at h3
  cases h3
  exact h4 ρ H .refl h2 .non .non
theorem ss_brk {pos : Pos} : SS X (.Break pos) (execS .brk) := PS.imp ps_break fun De σ H q => by
  obtain ⟨ρ, e, S, f, e', S', h1, h2, h3, h4⟩ := q
  simp only [execS] at h3
  cases h3
  exact h4 ρ H .refl h2 σ h1
theorem ss_pass {pos : Pos} : SS X (.Pass pos) (execS .pass) := PS.imp ps_pass fun De σ H q => by
  obtain ⟨ρ, e, S, f, e', S', h1, h2, h3, h4⟩ := q
  simp only [execS] at h3
  cases h3
  exact h4 ρ H .refl h2 σ h1
theorem ss_doc {x j pos pos'} : SS X (.Expr (.Constant (.str x) j pos) pos') (execS .pass) := PS.imp ps_doc fun De σ H q => by
  obtain ⟨ρ, e, S, f, e', S', h1, h2, h3, h4⟩ := q
  simp only [execS] at h3
  cases h3
  exact h4 ρ H .refl h2 σ h1
theorem ss_never {st : Stmt} : SS X st (execS .never) := PS.imp ps_never fun De σ H q => by
  obtain ⟨ρ, e, S, f, e', S', h1, h2, h3, h4⟩ := q
  simp only [execS] at h3
  cases h3
theorem sss_nil : SSs X [] (execSs []) := PSs.imp pss_nil fun De σ H q => by
  obtain ⟨ρ, e, S, f, e', S', h1, h2, h3, h4⟩ := q
  simp only [execSs] at h3
  cases h3
  exact h4 ρ H .refl h2 σ h1
theorem sss_cons {s : St} {ss : List St} {E : Stmt} {Es : List Stmt} (h1 : SS X E (execS s)) (h2 : SSs X Es (execSs ss)) : SSs X (E :: Es) (execSs (s :: ss)) := PSs.imp (pss_cons h1 h2) fun De σ H q => by
  obtain ⟨ρ, e, S, f, e', S', h1, h2, h3, h4⟩ := q
  simp only [execSs] at h3
  split at h3
  · rename_i e1 S1 q1
    refine ⟨ρ, e, S, .nx, e1, S1, h1, h2, q1, fun ρ1 H1 g s => ?_⟩
    intro σ1 E1
    exact ⟨ρ1, e1, S1, f, e', S', E1, s, h3, h4.go g⟩
  · rename_i r hne
    refine ⟨ρ, e, S, f, e', S', h1, h2, h3, fun ρ1 H1 g s => ?_⟩
    have := h4 ρ1 H1 g s
    cases f with
    | nx => exact absurd h3 (hne e' S')
    | brk => exact this
    | rt d => exact this
theorem ss_ife {c : Ex} {a b : List St} {C : Expr} {A B : List Stmt} {pos : Pos} (hc : ST X C (evalE c)) (ha : SSs X A (execSs a)) (hb : SSs X B (execSs b)) : SS X (.If C A B pos) (execS (.ife c a b)) := PS.imp (ps_if hc ha hb) fun De σ H q => by
  obtain ⟨ρ, e, S, f, e', S', h1, h2, h3, h4⟩ := q
  simp only [execS, thenT] at h3
  split at h3
  · cases h3
  · rename_i S1 e1
    split at e1
    · rename_i d1 S2 e2
      obtain ⟨b', e3, e4⟩ := Option.map_eq_some_iff.mp e1
      cases e4
      exact ⟨ρ, e, S, d1, _, true, h1, h2, e2, e3, fun ρ' H' g s => ⟨ρ', e, S1, f, e', S', h1.go g, s, h3, h4.go g⟩⟩
    · cases e1
  · rename_i S1 e1
    split at e1
    · rename_i d1 S2 e2
      obtain ⟨b', e3, e4⟩ := Option.map_eq_some_iff.mp e1
      cases e4
      exact ⟨ρ, e, S, d1, _, false, h1, h2, e2, e3, fun ρ' H' g s => ⟨ρ', e, S1, f, e', S', h1.go g, s, h3, h4.go g⟩⟩
    · cases e1
end
end N
set_option autoImplicit false
set_option Elab.async false
set_option linter.all false
set_option maxRecDepth 100000
set_option maxHeartbeats 4000000
namespace N
open PySem L2 PySem.Spec PyProof.Rows
section
variable {X : Cx} {K : PySem.W.Frag} {ρ ρ' : List Addr} {H H' : Hp} {S S' : Sto} {d : D} {v : V} {e : Env} {σ : L2.St} {Q : VK}
theorem VRs.one' {d : D} {xs : List V} (r : VRs ρ H [d] xs) : ∃ x, xs = [x] ∧ VR ρ H d x := by
  cases r with
  | cons a b => cases b; exact ⟨_, rfl, a⟩
theorem VRs.two' {d1 d2 : D} {xs : List V} (r : VRs ρ H [d1, d2] xs) : ∃ x y, xs = [x, y] ∧ VR ρ H d1 x ∧ VR ρ H d2 y := by
  cases r with
  | cons a b =>
    obtain ⟨y, rfl, h⟩ := VRs.one' b
    exact ⟨_, _, rfl, a, h⟩
theorem call_lenN : CallR X (.builtin "len") (rN X.K lenI) := by
  intro pins s σ H xs us Q I r h
  obtain ⟨ρ, S, ds, d, S', hS, rs, hr, k⟩ := h
  have base : ∀ (x : V) (n : Nat), xs = [x] → LenV X.K x H n → d = .int n → S' = S → wpAny (model X.prog X.w) X.A (call (.builtin "len") us) (EP X pins σ Q) X.xe s := fun x n e1 e2 e3 e4 => by
    subst e1 e3 e4
    exact call_len pins s σ H _ us Q I r ⟨x, n, rfl, e2, k.ret hS (.int _)⟩
  unfold lenI at hr
  split at hr
  · rename_i x
    split at hr
    · rename_i hl
      cases hr
      obtain ⟨v, rfl, rv⟩ := rs.one'
      cases rv
      exact base _ _ rfl ⟨by rw [sizeLine_eq]; simpa [sOf, Str.length] using hl, rfl⟩ (by simp [sOf, Str.length]) rfl
    · cases hr
  · rename_i n
    obtain ⟨v, rfl, rv⟩ := rs.one'
    cases rv with
    | ref ea =>
      split at hr
      · rename_i ys e1
        cases hr
        obtain ⟨vs, q, rr⟩ := hS.row e1 ea
        exact base _ _ rfl (.inl ⟨vs, q, rfl⟩) (by rw [rr.len]) rfl
      · rename_i ys e1
        cases hr
        exact base _ _ rfl (.inl ⟨_, hS.scr e1 ea, rfl⟩) (by simp) rfl
      · rename_i kvs e1
        cases hr
        rcases hS.at_ n _ _ e1 ea with ⟨ks, e2, rk⟩ | ⟨ks, e2, rk⟩
        · exact call_lenD pins s σ H _ us Q I r ⟨_, ks, rfl, e2, by rw [← rk.len]; exact k.ret hS (.int _)⟩
        · exact call_len_dT pins s σ H _ us Q I r ⟨_, ks, rfl, e2, by rw [← rk.len]; exact k.ret hS (.int _)⟩
      · rename_i ys e1
        exact (hS.at_ n _ _ e1 ea).elim
      · cases hr
  · rename_i ys
    cases hr
    obtain ⟨v, rfl, rv⟩ := rs.one'
    cases rv with
    | tup ea rr => exact base _ _ rfl (.inr ⟨_, .of ea, rfl⟩) (by rw [rr.len]) rfl
  · cases hr
theorem call_absN : CallR X (.builtin "abs") (rN X.K absI) := by
  intro pins s σ H xs us Q I r h
  obtain ⟨ρ, S, ds, d, S', hS, rs, hr, k⟩ := h
  unfold absI at hr
  split at hr
  · rename_i i
    cases hr
    obtain ⟨v, rfl, rv⟩ := rs.one'
    cases rv
    exact call_abs pins s σ H _ us Q I r ⟨i, rfl, k.ret hS (.int _)⟩
  · cases hr
theorem call_intN : CallR X (.type "int") (rN X.K intB) := by
  intro pins s σ H xs us Q I r h
  obtain ⟨ρ, S, ds, d, S', hS, rs, hr, k⟩ := h
  unfold intB at hr
  split at hr
  · rename_i i
    cases hr
    obtain ⟨v, rfl, rv⟩ := rs.one'
    cases rv
    exact call_int1 pins s σ H _ us Q I r (.inl ⟨i, rfl, k.ret hS (.int _)⟩)
  · rename_i i
    cases hr
    obtain ⟨v, rfl, rv⟩ := rs.one'
    cases rv
    exact call_int1 pins s σ H _ us Q I r (.inr ⟨i, rfl, k.ret hS (.int _)⟩)
  · cases hr
theorem boolsD_eq : ∀ {xs : List D} {bs : List Bool}, boolsD xs = some bs → xs = bs.map .bl
  | [], _, h => by cases h; rfl
  | .bl i :: xs, ns, h => by
    simp only [boolsD] at h
    cases e : boolsD xs with
    | none => rw [e] at h; cases h
    | some l => rw [e] at h; cases h; rw [boolsD_eq e]; rfl
  | .non :: _, _, h => by cases h
  | .int _ :: _, _, h => by cases h
  | .str _ :: _, _, h => by cases h
  | .tup _ :: _, _, h => by cases h
  | .lst _ :: _, _, h => by cases h
  | .ref _ :: _, _, h => by cases h
  | .rep _ :: _, _, h => by cases h
theorem VRs.toBools : ∀ {ns : List Bool} {vs : List V}, VRs ρ H (ns.map .bl) vs → vs = ns.map V.bl
  | [], _, h => by cases h; rfl
  | n :: ns, _, h => by
    cases h with
    | cons r t => cases r; rw [VRs.toBools t]; rfl
/-- the items of a list or a tuple, as a row -/
theorem items_V {a : D} {xs : List D} (s : SR K ρ H S) (r : VR ρ H a v) (h : itemsI S a = some xs) : ∃ p vs, v = .ref p ∧ VRs ρ H xs vs ∧ ((∃ n, a = .ref n ∧ H p = some (.lst vs)) ∨ (a = .tup xs ∧ H p = some (.tup vs))) := by
  cases r <;> simp only [itemsI] at h <;> try (cases h; done)
  · rename_i ys p vs ea rs
    cases h
    exact ⟨p, vs, rfl, rs, .inr ⟨rfl, ea⟩⟩
  · rename_i n p ea
    split at h
    · rename_i ys e1
      cases h
      obtain ⟨vs, q, rs⟩ := s.lst e1 ea
      exact ⟨p, vs, rfl, rs, .inl ⟨n, rfl, q⟩⟩
    · cases h
theorem plain_bools : ∀ bs : List Bool, PyData.plainAll (bs.map PyData.bool) = true
  | [] => rfl
  | b :: bs => by simp only [List.map_cons, PyData.plainAll, PyData.plain, plain_bools bs, Bool.and_self]
theorem reads_bools (h : Heap) : ∀ bs : List Bool, ReadsAll h (bs.map Value.bool) (bs.map PyData.bool) []
  | [] => .nil
  | b :: bs => .cons (as := []) (bs := []) (.bool b) (reads_bools h bs)
theorem call_allN (hc : X.calm = true) : CallR X (.builtin "all") (rN X.K allB) := by
  intro pins s σ H xs us Q I r h
  obtain ⟨ρ, S, ds, d, S', hS, rs, hr, k⟩ := h
  unfold allB at hr
  split at hr
  · rename_i a
    split at hr
    · rename_i bs e1
      obtain ⟨l, e2, e3⟩ := Option.bind_eq_some_iff.mp e1
      cases hr
      obtain ⟨v, rfl, rv⟩ := rs.one'
      obtain ⟨p, vs, rfl, rr, c⟩ := items_V hS rv e2
      rw [boolsD_eq e3] at rr
      have ev := rr.toBools
      subst ev
      rcases c with ⟨n, _, e4⟩ | ⟨_, e4⟩
      · exact cr_all hc pins s σ H _ us Q I r ⟨p, bs, rfl, .of e4, k.ret hS (.bl _)⟩
      · obtain ⟨its, rv2, ht, _⟩ := I.tuple (.of e4)
        rw [Vals.ref1 r]
        have hb := rv2.bls
        subst hb
        refine PySem.W.all_tuple_data (I.ok.hd hc) ht (reads_bools _ bs) (plain_bools bs) (fun x hx => ?_) fun h' tk hk => ⟨.bl _, H, I.kept hk, rfl, ?_⟩
        · obtain ⟨b, _, rfl⟩ := List.mem_map.mp hx
          trivial
        · rw [show (bs.map PyData.bool).all PyData.truthy = bs.all id by rw [List.all_map]; rfl]
          exact k.ret hS (.bl _)
    · cases hr
  · cases hr
theorem call_anyN (hc : X.calm = true) : CallR X (.builtin "any") (rN X.K anyB) := by
  intro pins s σ H xs us Q I r h
  obtain ⟨ρ, S, ds, d, S', hS, rs, hr, k⟩ := h
  unfold anyB at hr
  split at hr
  · rename_i a
    split at hr
    · rename_i bs e1
      obtain ⟨l, e2, e3⟩ := Option.bind_eq_some_iff.mp e1
      cases hr
      obtain ⟨v, rfl, rv⟩ := rs.one'
      obtain ⟨p, vs, rfl, rr, c⟩ := items_V hS rv e2
      rw [boolsD_eq e3] at rr
      have ev := rr.toBools
      subst ev
      rcases c with ⟨n, _, e4⟩ | ⟨_, e4⟩
      · exact cr_any hc pins s σ H _ us Q I r ⟨p, bs, rfl, .of e4, k.ret hS (.bl _)⟩
      · obtain ⟨its, rv2, ht, _⟩ := I.tuple (.of e4)
        rw [Vals.ref1 r]
        have hb := rv2.bls
        subst hb
        refine PySem.W.any_tuple_data (I.ok.hd hc) ht (reads_bools _ bs) (plain_bools bs) (fun x hx => ?_) fun h' tk hk => ⟨.bl _, H, I.kept hk, rfl, ?_⟩
        · obtain ⟨b, _, rfl⟩ := List.mem_map.mp hx
          trivial
        · rw [show (bs.map PyData.bool).any PyData.truthy = bs.any id by rw [List.any_map]; rfl]
          exact k.ret hS (.bl _)
    · cases hr
  · cases hr
theorem call_sumN (hc : X.calm = true) : CallR X (.builtin "sum") (rN X.K sumB) := by
  intro pins s σ H xs us Q I r h
  obtain ⟨ρ, S, ds, d, S', hS, rs, hr, k⟩ := h
  unfold sumB at hr
  split at hr
  · rename_i a
    split at hr
    · rename_i bs e1
      obtain ⟨l, e2, e3⟩ := Option.bind_eq_some_iff.mp e1
      cases hr
      obtain ⟨v, rfl, rv⟩ := rs.one'
      obtain ⟨p, vs, rfl, rr, c⟩ := items_V hS rv e2
      rw [ints_app e3] at rr
      have ev := rr.toInts
      subst ev
      rcases c with ⟨n, _, e4⟩ | ⟨_, e4⟩
      · exact cr_sum hc pins s σ H _ us Q I r ⟨p, bs, rfl, .of e4, k.ret hS (.int _)⟩
      · obtain ⟨its, rv2, ht, _⟩ := I.tuple (.of e4)
        rw [Vals.ref1 r]
        have hi := rv2.ints
        obtain ⟨ys, hx⟩ := hi.allInts.items
        have hn : numsOf its.toArray.toList = bs := by rw [show its.toArray.toList = its from rfl, hi.numsOf]
        rw [hx] at ht hn
        rw [nums_intItems] at hn
        refine PySem.W.ktm_sumG (I.ok.hd hc) ht fun h' tk t' hk => ⟨.int _, H, I.kept hk, ⟨_, rfl⟩, ?_⟩
        rw [preSum_eq, List.take_of_length_le (by simp), hn]
        exact k.ret hS (.int _)
    · cases hr
  · cases hr
theorem maxI_eq (n : Int) : ∀ ns : List Int, ns.foldl (fun a b => if b > a then b else a) n = ns.foldl max n
  | [] => rfl
  | m :: ns => by
    simp only [List.foldl_cons]
    rw [show (if m > n then m else n) = max n m by omega]
    exact maxI_eq _ ns
theorem minI_eq (n : Int) : ∀ ns : List Int, ns.foldl (fun a b => if b < a then b else a) n = ns.foldl min n
  | [] => rfl
  | m :: ns => by
    simp only [List.foldl_cons]
    rw [show (if m < n then m else n) = min n m by omega]
    exact minI_eq _ ns
theorem maxI_mem (n : Int) : ∀ ns : List Int, ns.foldl max n ∈ n :: ns ∧ ∀ y ∈ n :: ns, y ≤ ns.foldl max n
  | [] => by simp
  | m :: ns => by
    simp only [List.foldl_cons]
    obtain ⟨h1, h2⟩ := maxI_mem (max n m) ns
    have h0 := h2 (max n m) (by simp)
    refine ⟨?_, fun y hy => ?_⟩
    · rcases List.mem_cons.mp h1 with e | e
      · rw [e]
        rcases Int.le_total n m with h | h
        · rw [Int.max_eq_right h]; simp
        · rw [Int.max_eq_left h]; simp
      · simp [e]
    · rcases List.mem_cons.mp hy with e | e
      · omega
      · rcases List.mem_cons.mp e with e | e
        · omega
        · exact h2 y (by simp [e])
theorem minI_mem (n : Int) : ∀ ns : List Int, ns.foldl min n ∈ n :: ns ∧ ∀ y ∈ n :: ns, ns.foldl min n ≤ y
  | [] => by simp
  | m :: ns => by
    simp only [List.foldl_cons]
    obtain ⟨h1, h2⟩ := minI_mem (min n m) ns
    have h0 := h2 (min n m) (by simp)
    refine ⟨?_, fun y hy => ?_⟩
    · rcases List.mem_cons.mp h1 with e | e
      · rw [e]
        rcases Int.le_total n m with h | h
        · rw [Int.min_eq_left h]; simp
        · rw [Int.min_eq_right h]; simp
      · simp [e]
    · rcases List.mem_cons.mp hy with e | e
      · omega
      · rcases List.mem_cons.mp e with e | e
        · omega
        · exact h2 y (by simp [e])
theorem alike_intsL (ns : List Int) : PySem.W.AlikeAll (ns.map PyData.int) := by
  refine ⟨fun x hx y hy => ?_, fun x hx => ?_⟩
  · obtain ⟨i, _, rfl⟩ := List.mem_map.mp hx
    obtain ⟨j, _, rfl⟩ := List.mem_map.mp hy
    simp [PySem.W.alike]
  · obtain ⟨i, _, rfl⟩ := List.mem_map.mp hx
    exact fun z => nomatch z
theorem readsInt {h : Heap} {v : Value} {m : Int} {bs : List Addr} (r : Reads h v (.int m) bs) : ∃ t, v = .int m t := by
  cases r; exact ⟨_, rfl⟩
theorem call_maxN (hc : X.calm = true) (hu : X.A.units + 2 < cLine) : CallR X (.builtin "max") (rN X.K maxB) := by
  intro pins s σ H xs us Q I r h
  obtain ⟨ρ, S, ds, d, S', hS, rs, hr, k⟩ := h
  unfold maxB at hr
  split at hr
  · rename_i i j
    cases hr
    obtain ⟨v, w, rfl, rv, rw'⟩ := rs.two'
    cases rv
    cases rw'
    exact call_max2 hc pins s σ H _ us Q I r ⟨i, j, rfl, k.ret hS (.int _)⟩
  · rename_i a
    split at hr
    · rename_i b bs e1
      obtain ⟨l, e2, e3⟩ := Option.bind_eq_some_iff.mp e1
      cases hr
      obtain ⟨v, rfl, rv⟩ := rs.one'
      obtain ⟨p, vs, rfl, rr, c⟩ := items_V hS rv e2
      rw [ints_app e3] at rr
      have ev := rr.toInts
      subst ev
      have em : maxI (b :: bs) = bs.foldl max b := maxI_eq b bs
      obtain ⟨m1, m2⟩ := maxI_mem b bs
      rcases c with ⟨n, _, e4⟩ | ⟨_, e4⟩
      · refine cr_max hc pins s σ H _ us Q I r ⟨p, b :: bs, rfl, .of e4, by simp, fun m h1 h2 => ?_⟩
        have := m2 m h1
        have := h2 _ m1
        rw [show m = maxI (b :: bs) by rw [em]; omega]
        exact k.ret hS (.int _)
      · obtain ⟨its, rv2, ht, _⟩ := I.tuple (.of e4)
        rw [Vals.ref1 r]
        have hi := rv2.ints
        have hd : PyData.depthAll (PyData.int b :: bs.map PyData.int) = 0 := PySem.W.depth_ints (b :: bs)
        refine PySem.W.max_tuple_data (x := .int b) (xs := bs.map .int) (I.ok.hd hc) ht (hi.reads _) (alike_intsL (b :: bs)) (by rw [hd]; omega) fun i v h' tk bs' hv r' hk => ?_
        rw [PySem.W.maxD_ints] at r'
        obtain ⟨t, rfl⟩ := readsInt r'
        refine ⟨.int (maxI (b :: bs)), H, I.kept hk, ⟨t, by rw [em]⟩, k.ret hS (.int _)⟩
    · cases hr
  · cases hr
theorem call_minN (hc : X.calm = true) (hu : X.A.units + 2 < cLine) : CallR X (.builtin "min") (rN X.K minB) := by
  intro pins s σ H xs us Q I r h
  obtain ⟨ρ, S, ds, d, S', hS, rs, hr, k⟩ := h
  unfold minB at hr
  split at hr
  · rename_i i j
    cases hr
    obtain ⟨v, w, rfl, rv, rw'⟩ := rs.two'
    cases rv
    cases rw'
    exact call_min2 hc pins s σ H _ us Q I r ⟨i, j, rfl, k.ret hS (.int _)⟩
  · rename_i a
    split at hr
    · rename_i b bs e1
      obtain ⟨l, e2, e3⟩ := Option.bind_eq_some_iff.mp e1
      cases hr
      obtain ⟨v, rfl, rv⟩ := rs.one'
      obtain ⟨p, vs, rfl, rr, c⟩ := items_V hS rv e2
      rw [ints_app e3] at rr
      have ev := rr.toInts
      subst ev
      have em : minI (b :: bs) = bs.foldl min b := minI_eq b bs
      obtain ⟨m1, m2⟩ := minI_mem b bs
      rcases c with ⟨n, _, e4⟩ | ⟨_, e4⟩
      · refine cr_min hc pins s σ H _ us Q I r ⟨p, b :: bs, rfl, .of e4, by simp, fun m h1 h2 => ?_⟩
        have := m2 m h1
        have := h2 _ m1
        rw [show m = minI (b :: bs) by rw [em]; omega]
        exact k.ret hS (.int _)
      · obtain ⟨its, rv2, ht, _⟩ := I.tuple (.of e4)
        rw [Vals.ref1 r]
        have hi := rv2.ints
        have hd : PyData.depthAll (PyData.int b :: bs.map PyData.int) = 0 := PySem.W.depth_ints (b :: bs)
        refine PySem.W.min_tuple_data (x := .int b) (xs := bs.map .int) (I.ok.hd hc) ht (hi.reads _) (alike_intsL (b :: bs)) (by rw [hd]; omega) fun i v h' tk bs' hv r' hk => ?_
        rw [PySem.W.minD_ints] at r'
        obtain ⟨t, rfl⟩ := readsInt r'
        refine ⟨.int (minI (b :: bs)), H, I.kept hk, ⟨t, by rw [em]⟩, k.ret hS (.int _)⟩
    · cases hr
  · cases hr
theorem call_tupN : CallR X (.type "tuple") (rN X.K tupB) := by
  intro pins s σ H xs us Q I r h
  obtain ⟨ρ, S, ds, d, S', hS, rs, hr, k⟩ := h
  unfold tupB at hr
  split at hr
  · rename_i a
    split at hr
    · rename_i l e2
      cases hr
      obtain ⟨v, rfl, rv⟩ := rs.one'
      obtain ⟨p, vs, rfl, rr, c⟩ := items_V hS rv e2
      rcases c with ⟨n, _, e4⟩ | ⟨_, e4⟩
      · exact call_tuple_of pins s σ H _ us Q I r ⟨p, vs, rfl, .inl ⟨.of e4, k.tup hS rr⟩⟩
      · exact call_tuple_of pins s σ H _ us Q I r ⟨p, vs, rfl, .inr ⟨.of e4, k.ret hS (.tup e4 rr)⟩⟩
    · cases hr
  · cases hr
theorem call_lstN : CallR X (.type "list") (rN X.K lstB) := by
  intro pins s σ H xs us Q I r h
  obtain ⟨ρ, S, ds, d, S', hS, rs, hr, k⟩ := h
  unfold lstB at hr
  split at hr
  · rename_i a
    split at hr
    · rename_i l e2
      cases hr
      obtain ⟨v, rfl, rv⟩ := rs.one'
      obtain ⟨p, vs, rfl, rr, c⟩ := items_V hS rv e2
      rcases c with ⟨n, _, e4⟩ | ⟨_, e4⟩
      · exact call_list_of pins s σ H _ us Q I r ⟨p, vs, rfl, .inl (.of e4), k.lst hS rr⟩
      · exact call_list_of pins s σ H _ us Q I r ⟨p, vs, rfl, .inr (.of e4), k.lst hS rr⟩
    · cases hr
  · cases hr
/-! repr -/
theorem str_toPy (s : List Nat) : (sOf s).cps.toList = s := by simp [sOf]
mutual
theorem show_py : ∀ t : D, D.shw t = true → (toPy t).showable = true
  | .non, _ => rfl
  | .bl _, _ => rfl
  | .int i, h => by
    have := of_decide_eq_true (show decide (i.natAbs.log2 < 320) = true from h)
    show decide (i.natAbs.log2 < 1920) = true
    exact decide_eq_true (by omega)
  | .str _, _ => rfl
  | .tup xs, h => shows_py xs h
  | .lst xs, h => shows_py xs h
  | .ref _, _ => rfl
  | .rep _, _ => rfl
theorem shows_py : ∀ ts : List D, D.shws ts = true → PyData.showableAll (toPys ts) = true
  | [], _ => rfl
  | x :: xs, h => by
    have h := Bool.and_eq_true_iff.mp (show (D.shw x && D.shws xs) = true from h)
    show (PyData.showable (toPy x) && PyData.showableAll (toPys xs)) = true
    rw [show_py x h.1, shows_py xs h.2]; rfl
end
mutual
theorem bulk_py : ∀ t : D, (toPy t).bulk = D.bulk t
  | .non => rfl
  | .bl _ => rfl
  | .int i => rfl
  | .str s => by show (sOf s).cps.size = s.length; simp [sOf]
  | .tup xs => bulks_py xs
  | .lst xs => bulks_py xs
  | .ref _ => rfl
  | .rep _ => rfl
theorem bulks_py : ∀ ts : List D, PyData.bulkAll (toPys ts) = D.bulks ts
  | [] => rfl
  | x :: xs => by
    show (toPy x).bulk + 1 + PyData.bulkAll (toPys xs) = D.bulk x + 1 + D.bulks xs
    rw [bulk_py x, bulks_py xs]
end
mutual
theorem short_py : ∀ t : D, D.shw t = true → D.okS t = true → (toPy t).leavesShort 321 = true
  | .non, _, _ => rfl
  | .bl _, _, _ => rfl
  | .int i, h, _ => by
    have := of_decide_eq_true (show decide (i.natAbs.log2 < 320) = true from h)
    show decide ((PyData.shown (.int i)).length ≤ 321) = true
    refine decide_eq_true ?_
    show (Str.ofString (toString i)).length ≤ 321
    have := int_text_length_le (k := 320) (by decide) this
    rw [PySem.ofString_length]
    exact this
  | .str s, _, h => by
    show ((sOf s).cps.toList.all fun c => decide (c < 16 ^ 8)) = true
    rw [str_toPy]
    refine List.all_eq_true.mpr fun c hc => decide_eq_true ?_
    have := of_decide_eq_true (List.all_eq_true.mp (show okStr s = true from h) c hc)
    omega
  | .tup xs, h, g => shorts_py xs h g
  | .lst xs, h, g => shorts_py xs h g
  | .ref _, _, _ => rfl
  | .rep _, _, _ => rfl
theorem shorts_py : ∀ ts : List D, D.shws ts = true → D.okSs ts = true → PyData.leavesShortAll 321 (toPys ts) = true
  | [], _, _ => rfl
  | x :: xs, h, g => by
    have h := Bool.and_eq_true_iff.mp (show (D.shw x && D.shws xs) = true from h)
    have g := Bool.and_eq_true_iff.mp (show (D.okS x && D.okSs xs) = true from g)
    show (PyData.leavesShort 321 (toPy x) && PyData.leavesShortAll 321 (toPys xs)) = true
    rw [short_py x h.1 g.1, shorts_py xs h.2 g.2]; rfl
end
theorem call_repN (hg : X.A.guards = some []) (hu : X.A.units + 65 < cLine) : CallR X (.builtin "repr") (rN X.K repB) := by
  intro pins s σ H xs us Q I r h
  obtain ⟨ρ, S, ds, d, S', hS, rs, hr, k⟩ := h
  unfold repB at hr
  split at hr
  · rename_i a
    split at hr
    · rename_i t e1
      split at hr
      · rename_i ok
        cases hr
        have k1 := Bool.and_eq_true_iff.mp ok
        have k2 := Bool.and_eq_true_iff.mp k1.2
        obtain ⟨v, rfl, rv⟩ := rs.one'
        have hb := of_decide_eq_true k2.2
        have hz : (toPy t).shown.length ≤ sizeLine := by
          have := PyData.shown_le_bulk 321 (by decide) (toPy t) (short_py t k2.1 k1.1)
          rw [bulk_py] at this
          rw [sizeLine_eq]; omega
        have dp := rd_dp hS RD a t v rv e1
        have hdp := (toPys_real _ _ _ _ e1).2
        obtain ⟨u, rfl, ru⟩ := vals1 r
        obtain ⟨as, q⟩ := Dp.reads I _ _ u dp ru
        cases rv with
        | tup ea rr =>
          cases ru
          exact repr_of_reads' q (show_py t k2.1) (PyData.noDict_hsm (PyData.hasDict_of_canLay _ (canLay_py t k1.1))) hg (by have : RD = 60 := rfl; omega) (fun _ _ e => e) (fun h' u tk hk => ⟨.str (toPy t).shown, H, I.kept hk, ⟨_, rfl⟩, k.ret hS .rep⟩) hz
        | ref ea =>
          cases ru
          exact repr_of_reads' q (show_py t k2.1) (PyData.noDict_hsm (PyData.hasDict_of_canLay _ (canLay_py t k1.1))) hg (by have : RD = 60 := rfl; omega) (fun _ _ e => e) (fun h' u tk hk => ⟨.str (toPy t).shown, H, I.kept hk, ⟨_, rfl⟩, k.ret hS .rep⟩) hz
        | int i =>
          simp only [rd] at e1
          cases e1
          have h1 := of_decide_eq_true (show decide (i.natAbs.log2 < 320) = true from k2.1)
          obtain ⟨t, rfl⟩ := ru
          exact PySem.P.repr_of_int (by omega) ⟨.str (toPy (.int i)).shown, H, I.tok _, ⟨_, rfl⟩, k.ret hS .rep⟩
        | non =>
          simp only [rd] at e1
          cases e1
          cases ru
          exact PySem.P.repr_of_none ⟨.str (toPy .non).shown, H, I.tok _, ⟨_, rfl⟩, k.ret hS .rep⟩
        | bl b =>
          simp only [rd] at e1
          cases e1
          cases ru
          exact PySem.P.repr_of_bool ⟨.str (toPy (.bl b)).shown, H, I.tok _, ⟨_, by cases b <;> rfl⟩, k.ret hS .rep⟩
        | str x =>
          simp only [rd] at e1
          cases e1
          obtain ⟨t, rfl⟩ := ru
          exact PySem.P.repr_of_str ⟨.str (toPy (.str x)).shown, H, I.tok _, ⟨_, rfl⟩, k.ret hS .rep⟩ hz
        | rep => simp [rd] at e1
      · cases hr
    · cases hr
  · cases hr
end
end N
set_option autoImplicit false
set_option Elab.async false
set_option linter.all false
set_option maxRecDepth 100000
set_option maxHeartbeats 4000000
namespace N
open PySem L2 PySem.Spec PyProof.Rows
/-! ### what a def of mine promises -/
/-- the call by values, as the evaluator has it, in a store of any sort -/
def rF (K : PySem.W.Frag) (n : Nat) (F : Fn) : List V → Hp → VK → Prop := fun vs H Q => vs.length = n ∧ ∃ ρ S ds d S', SR K ρ H S ∧ VRs ρ H ds vs ∧ F ds S = some (d, S') ∧ Fin K ρ H d S' Q
structure FnG (P : Program) (w : World) (K : PySem.W.Frag) (mg : Str → Option Value) (base : Heap) (k : Nat) (f : Addr) (fd : FuncData) (ps : List Str) (F : Fn) : Prop where
  go : ∀ {A : Around} {outer : List PySem.Env} {s : Shared} {H : Hp} {args : Args} {us : List Value} {vs : List V} {Q : VK}, A.guards = some [] → Room k A → Env0 P w K mg base A outer s H →
    Vals vs us → BindsTo s fd args (ps.zip us) → rF K ps.length F vs H Q → codeAny (model P w) A (.call (.ref f) args) (fun r s' => match r with
      | .ok (.ret u) => CE outer P w H s Q u s'
      | _ => False) s
/-- a def that may be called by its name -/
structure CalG (P : Program) (w : World) (K : PySem.W.Frag) (mg : Str → Option Value) (base : Heap) (k : Nat) (x : Str) (F : Fn) : Prop where
  ex : ∃ (f : Addr) (fd : FuncData) (ps : List Str), FnG P w K mg base k f fd ps F ∧ mg x = some (.ref f) ∧ PySem.W.keepIn K (.ref f) = true ∧ (∀ ds S r, F ds S = some r → ds.length = ps.length) ∧ ∀ us : List Value, us.length = ps.length → bindArgs fd ⟨us, []⟩ = pure (ps.zip us)
/-- .. by keywords alone -/
structure CalK (P : Program) (w : World) (K : PySem.W.Frag) (mg : Str → Option Value) (base : Heap) (k : Nat) (x : Str) (ks : List Str) (perm : List Nat) (F : Fn) : Prop where
  ex : ∃ (f : Addr) (fd : FuncData) (ps : List Str), FnG P w K mg base k f fd ps F ∧ mg x = some (.ref f) ∧ PySem.W.keepIn K (.ref f) = true ∧ (∀ ds S r, F ds S = some r → ds.length = ps.length) ∧ perm.length = ps.length ∧ (∀ i ∈ perm, i < ks.length) ∧
    ∀ us : List Value, us.length = ks.length → bindArgs fd ⟨[], ks.zip us⟩ = pure (ps.zip (perm.filterMap fun i => us[i]?))
section
variable {X : Cx} {K : PySem.W.Frag} {ρ ρ' δ : List Addr} {H H' : Hp} {S S' : Sto} {d : D} {v : V} {e : Env} {σ : L2.St} {Q : VK}
theorem CE.sp {outer : List PySem.Env} {P : Program} {w : World} {s s' : Shared} {u : Value} (h : CE outer P w H s Q u s') {Q' : VK} (i : ∀ v H', Q v H' → Q' v H') : CE outer P w H s Q' u s' := by
  obtain ⟨v, H', a, b, c, d, r, q⟩ := h
  exact ⟨v, H', a, b, c, d, r, i v H' q⟩
theorem kR.lo : ∀ {ps : List (D × D)} {qs : List (Key × V)}, kR (ρ ++ δ) H ps qs → (∀ p ∈ ps, D.lo ρ.length p.2 = true) → kR ρ H ps qs
  | [], [], _, _ => trivial
  | _ :: _, _ :: _, h, l => ⟨h.1, h.2.1.lo (l _ (by simp)), kR.lo h.2.2 fun p hp => l p (by simp [hp])⟩
theorem tR.lo : ∀ {ps : List (D × D)} {qs : List (List Key × V)}, tR (ρ ++ δ) H ps qs → (∀ p ∈ ps, D.lo ρ.length p.2 = true) → tR ρ H ps qs
  | [], [], _, _ => trivial
  | _ :: _, _ :: _, h, l => ⟨h.1, h.2.1.lo (l _ (by simp)), tR.lo h.2.2 fun p hp => l p (by simp [hp])⟩
theorem shift_kD (n : Nat) (k : Key) : D.shift n (kD k) = kD k := by cases k <;> rfl
theorem shift_kDs (n : Nat) : ∀ ks : List Key, D.shifts n (ks.map kD) = ks.map kD
  | [] => rfl
  | k :: ks => by
    show D.shift n (kD k) :: D.shifts n (ks.map kD) = _
    rw [shift_kD, shift_kDs n ks]; rfl
theorem kR.shift : ∀ {ps : List (D × D)} {qs : List (Key × V)}, kR δ H ps qs → kR (ρ ++ δ) H (ps.map fun p => (D.shift ρ.length p.1, D.shift ρ.length p.2)) qs
  | [], [], _ => trivial
  | _ :: _, _ :: _, h => ⟨by show D.shift _ _ = _; rw [h.1, shift_kD], h.2.1.shift, kR.shift h.2.2⟩
theorem tR.shift : ∀ {ps : List (D × D)} {qs : List (List Key × V)}, tR δ H ps qs → tR (ρ ++ δ) H (ps.map fun p => (D.shift ρ.length p.1, D.shift ρ.length p.2)) qs
  | [], [], _ => trivial
  | p :: _, q :: _, h => ⟨by show D.shift _ p.1 = _; rw [h.1]; show D.tup (D.shifts _ _) = _; rw [shift_kDs], h.2.1.shift, tR.shift h.2.2⟩
theorem live_shift (n : Nat) (o : O) : live (O.shift n o) = live o := by cases o <;> rfl
/-- two stores, one behind the other -/
theorem SR.join {T : Sto} (s : SR K ρ H S) (t : SR K δ H T) (fr : ∀ p ∈ δ, ∀ (n : Nat) (o : O) (a : Addr), S[n]? = some o → ρ[n]? = some a → live o = true → p ≠ a) : SR K (ρ ++ δ) H (S ++ T.map (O.shift S.length)) := by
  have lt : ∀ {n : Nat} {b : Addr}, (ρ ++ δ)[n]? = some b → (n < ρ.length ∧ ρ[n]? = some b) ∨ (ρ.length ≤ n ∧ δ[n - ρ.length]? = some b) := fun {n b} e => by
    by_cases h : n < ρ.length
    · rw [List.getElem?_append_left h] at e; exact .inl ⟨h, e⟩
    · rw [List.getElem?_append_right (by omega)] at e
      exact .inr ⟨by omega, e⟩
  have lo : ∀ {n : Nat} {w : O}, n < ρ.length → (S ++ T.map (O.shift S.length))[n]? = some w → S[n]? = some w := fun {n w} h e => by
    rw [List.getElem?_append_left (by rw [← s.len]; exact h)] at e; exact e
  have hi : ∀ {n : Nat} {w : O}, ρ.length ≤ n → (S ++ T.map (O.shift S.length))[n]? = some w → ∃ u, T[n - ρ.length]? = some u ∧ w = O.shift ρ.length u := fun {n w} h e => by
    rw [s.len] at h ⊢
    rw [List.getElem?_append_right h, List.getElem?_map] at e
    obtain ⟨u, h1, h2⟩ := Option.map_eq_some_iff.mp e
    exact ⟨u, h1, h2.symm⟩
  refine ⟨by simp [s.len, t.len], fun n w b h1 h2 => ?_, fun m n b w z h1 h2 h3 h4 l1 l2 => ?_⟩
  · rcases lt h2 with ⟨hn, e⟩ | ⟨hn, e⟩
    · exact (s.at_ n w b (lo hn h1) e).same (fun _ q => q) (fun _ _ r => r.cat) fun _ _ r => r.cat
    · obtain ⟨u, h5, rfl⟩ := hi hn h1
      have r := t.at_ _ u b h5 e
      cases u with
      | lst xs => obtain ⟨vs, e1, r⟩ := r; exact ⟨vs, e1, r.shift⟩
      | dct kvs =>
        rcases r with ⟨ks, e1, r⟩ | ⟨ks, e1, r⟩
        · exact .inl ⟨ks, e1, r.shift⟩
        · exact .inr ⟨ks, e1, r.shift⟩
      | set xs => exact r.elim
      | scr ns => exact r
      | ftp xs => obtain ⟨ob, vs, e1, c, d, r⟩ := r; exact ⟨ob, vs, e1, c, d, r.shift⟩
      | dead => exact r.elim
  · rcases lt h1 with ⟨x1, e1⟩ | ⟨x1, e1⟩ <;> rcases lt h2 with ⟨x2, e2⟩ | ⟨x2, e2⟩
    · exact s.nd m n b w z e1 e2 (lo x1 h3) (lo x2 h4) l1 l2
    · exact absurd rfl (fr b (List.mem_of_getElem? e2) m w b (lo x1 h3) e1 l1)
    · exact absurd rfl (fr b (List.mem_of_getElem? e1) n z b (lo x2 h4) e2 l2)
    · obtain ⟨u1, a1, rfl⟩ := hi x1 h3
      obtain ⟨u2, a2, rfl⟩ := hi x2 h4
      rw [live_shift] at l1 l2
      have := t.nd _ _ b u1 u2 e1 e2 a1 a2 l1 l2
      omega
/-- the first things of a store -/
theorem SR.first {n : Nat} (s : SR K (ρ ++ δ) H S) (hn : ρ.length = n) (h : ((S.take n).all (O.lo n)) = true) : SR K ρ H (S.take n) := by
  have hl := s.len
  rw [List.length_append] at hl
  refine ⟨by rw [List.length_take]; omega, fun m o a h1 h2 => ?_, fun m k a o u h1 h2 h3 h4 l1 l2 => ?_⟩
  · have hm := (List.getElem?_eq_some_iff.mp h2).1
    have h1' : S[m]? = some o := by
      rw [List.getElem?_take_of_lt (by omega)] at h1; exact h1
    have r := s.at_ m o a h1' (by rw [List.getElem?_append_left hm]; exact h2)
    have lo : O.lo n o = true := List.all_eq_true.mp h o (List.mem_of_getElem? h1)
    subst hn
    cases o with
    | lst xs => obtain ⟨vs, e1, r⟩ := r; exact ⟨vs, e1, r.lo lo⟩
    | dct kvs =>
      have lo : ∀ p ∈ kvs, D.lo ρ.length p.2 = true := fun p hp => (Bool.and_eq_true_iff.mp (List.all_eq_true.mp (show (kvs.all fun p => D.lo ρ.length p.1 && D.lo ρ.length p.2) = true from lo) p hp)).2
      rcases r with ⟨ks, e1, r⟩ | ⟨ks, e1, r⟩
      · exact .inl ⟨ks, e1, r.lo lo⟩
      · exact .inr ⟨ks, e1, r.lo lo⟩
    | set xs => exact r.elim
    | scr ns => exact r
    | ftp xs => obtain ⟨ob, vs, e1, c, d, r⟩ := r; exact ⟨ob, vs, e1, c, d, r.lo lo⟩
    | dead => exact r.elim
  · have hm := (List.getElem?_eq_some_iff.mp h1).1
    have hk := (List.getElem?_eq_some_iff.mp h2).1
    rw [List.getElem?_take_of_lt (by omega)] at h3 h4
    exact s.nd m k a o u (by rw [List.getElem?_append_left hm]; exact h1) (by rw [List.getElem?_append_left hk]; exact h2) h3 h4 l1 l2
theorem callI_len {f : Fn} {ds : List D} {n : Nat} (hf : ∀ ds S r, f ds S = some r → ds.length = n) (h : callI f ds S = some (d, S')) : ds.length = n := by
  unfold callI at h
  split at h
  · split at h
    · exact hf _ _ _ ‹_›
    · cases h
  · split at h
    · exact hf _ _ _ ‹_›
    · cases h
theorem runF_len {n k : Nat} {body : List St} (ds : List D) (S : Sto) (r : D × Sto) (h : runF n k body ds S = some r) : ds.length = k := by
  unfold runF at h
  split at h
  · assumption
  · cases h
/-- the evaluator's call stands for the def's own run -/
theorem rF_of {f : Fn} {ds : List D} {vs : List V} {n : Nat} (hS : SR K ρ H S) (r : VRs ρ H ds vs) (hn : vs.length = n) (h : callI f ds S = some (d, S')) (k : Fin K ρ H d S' Q) : rF K n f vs H Q := by
  refine ⟨hn, ?_⟩
  unfold callI at h
  split at h
  · rename_i h0
    split at h
    · rename_i d1 S1 e1
      refine ⟨[], [], ds, d1, S1, ⟨rfl, fun n o a q => by simp at q, fun m n a o u q => by simp at q⟩, r.pure h0, e1, fun ρ1 H1 v g s rv => ?_⟩
      have kp : ∀ a u, H a = some u → H1 a = some u := fun a u e => g.fr a u e fun z => absurd z.1 (by simp)
      split at h
      · rename_i h1
        cases h
        exact k ρ H1 v ⟨⟨[], by simp, by simp⟩, fun a o e _ => kp a o e, g.th⟩ (hS.keep kp) (rv.pure h1)
      · cases h
        obtain ⟨δ1, e2, nn⟩ := g.ext
        rw [List.nil_append] at e2
        subst e2
        refine k (ρ ++ ρ1) H1 v ⟨⟨ρ1, rfl, nn⟩, fun a o e _ => kp a o e, g.th⟩ ((hS.keep kp).join s fun p hp n o a q1 q2 l => ?_) (by rw [← hS.len]; exact rv.shift)
        obtain ⟨u, q3, _⟩ := (hS.at_ n o a q1 q2).live l
        intro z
        rw [← z, nn p hp] at q3
        cases q3
    · cases h
  · split at h
    · rename_i d1 S1 e1
      refine ⟨ρ, S, ds, d1, S1, hS, r, e1, fun ρ1 H1 v g s rv => ?_⟩
      split at h
      · rename_i h1
        have h1 := Bool.and_eq_true_iff.mp h1
        cases h
        obtain ⟨δ1, rfl, nn⟩ := g.ext
        rw [← hS.len] at h1
        rw [← hS.len] at k
        exact k ρ H1 v ⟨⟨[], by simp, by simp⟩, g.fr, g.th⟩ (s.first rfl h1.2) (rv.lo h1.1)
      · cases h
        exact k ρ1 H1 v g s rv
    · cases h
theorem call_own {k j : Nat} {x : Str} {f : Addr} {fd : FuncData} {ps : List Str} {F : Fn} {pins : List (Addr × Obj)} {s : Shared} {us : List Value} {vs : List V} (G : FnG X.prog X.w X.K X.mg X.base k f fd ps F) (hg : X.A.guards = some []) (hr : Room j X.A) (hk : k ≤ j) (b : ∀ us : List Value, us.length = ps.length → bindArgs fd ⟨us, []⟩ = pure (ps.zip us))
    (I : L2.Inv X pins σ H s) (r : Vals vs us) (h : rF X.K ps.length F vs H Q) : wpAny (model X.prog X.w) X.A (call (.ref f) us) (EP X pins σ Q) X.xe s := by
  have hl : us.length = ps.length := by rw [← r.length]; exact h.1
  refine wpAny_call (codeAny_mono (G.go hg (hr.mono hk) I.env0 r (.of_eq (b us hl)) h) fun q s' z => ?_)
  cases q with
  | error e => exact False.elim z
  | ok fl =>
    cases fl with
    | ret u => exact I.after z
    | next => exact False.elim z
    | brk => exact False.elim z
    | cont => exact False.elim z
theorem vals_pick (perm : List Nat) : ∀ {vs : List V} {us : List Value}, Vals vs us → Vals (perm.filterMap fun i => vs[i]?) (perm.filterMap fun i => us[i]?) := by
  induction perm with
  | nil => intro vs us _; exact .nil
  | cons i is ih =>
    intro vs us r
    rw [List.filterMap_cons, List.filterMap_cons]
    cases e : vs[i]? with
    | none =>
      have : us[i]? = none := by
        rw [List.getElem?_eq_none_iff] at e ⊢
        rw [← r.length]; exact e
      rw [this]
      exact ih r
    | some v =>
      obtain ⟨u, e2, r2⟩ := r.get e
      rw [e2]
      exact .cons r2 (ih r)
theorem vrs_pick (perm : List Nat) : ∀ {ds : List D} {vs : List V}, VRs ρ H ds vs → VRs ρ H (N.pick perm ds) (perm.filterMap fun i => vs[i]?) := by
  induction perm with
  | nil => intro vs us _; exact .nil
  | cons i is ih =>
    intro ds vs r
    unfold N.pick
    rw [List.filterMap_cons, List.filterMap_cons]
    cases e : ds[i]? with
    | none =>
      have : vs[i]? = none := by
        rw [List.getElem?_eq_none_iff] at e ⊢
        rw [← r.len]; exact e
      rw [this]
      exact ih r
    | some v =>
      obtain ⟨u, e2, r2⟩ := r.get e
      rw [e2]
      exact .cons r2 (ih r)
theorem pick_len {α : Type} (perm : List Nat) (vs : List α) (h : ∀ i ∈ perm, i < vs.length) : (perm.filterMap fun i => vs[i]?).length = perm.length := by
  induction perm with
  | nil => rfl
  | cons i is ih =>
    rw [List.filterMap_cons, List.getElem?_eq_getElem (h i (by simp))]
    show Nat.succ _ = Nat.succ _
    rw [ih fun j hj => h j (by simp [hj])]
theorem call_kw {k j : Nat} {x : Str} {f : Addr} {fd : FuncData} {ps ks : List Str} {perm : List Nat} {F : Fn} {pins : List (Addr × Obj)} {s : Shared} {us : List Value} {vs : List V} (G : FnG X.prog X.w X.K X.mg X.base k f fd ps F) (hg : X.A.guards = some []) (hr : Room j X.A) (hk : k ≤ j)
    (b : ∀ us : List Value, us.length = ks.length → bindArgs fd ⟨[], ks.zip us⟩ = pure (ps.zip (perm.filterMap fun i => us[i]?))) (hl : us.length = ks.length)
    (I : L2.Inv X pins σ H s) (r : Vals vs us) (h : rF X.K ps.length F (perm.filterMap fun i => vs[i]?) H Q) : wpAny (model X.prog X.w) X.A (call (.ref f) [] (ks.zip us)) (EP X pins σ Q) X.xe s := by
  refine wpAny_call (codeAny_mono (G.go hg (hr.mono hk) I.env0 (vals_pick perm r) (.of_eq (b us hl)) h) fun q s' z => ?_)
  cases q with
  | error e => exact False.elim z
  | ok fl =>
    cases fl with
    | ret u => exact I.after z
    | next => exact False.elim z
    | brk => exact False.elim z
    | cont => exact False.elim z
end
end N
set_option autoImplicit false
set_option Elab.async false
set_option linter.all false
set_option maxRecDepth 100000
set_option maxHeartbeats 4000000
namespace N
open PySem L2 PySem.Spec PyProof.Rows
/-- what the checks know of the context they stand in -/
structure Good (X : Cx) (ns : List Str) (sc : Scope) (fn : Str → Bool) (k : Nat) : Prop where
  nm : X.N = ns
  nd : ns.Nodup
  sco : X.env.scope = sc
  kd : sc.kind = .function
  fns : X.fn = fn
  cm : X.calm = true
  gd : X.A.guards = some []
  rm : Room k X.A
  noxe : X.xe = fun _ _ => False
section
variable {P : Program} {w : World} {K : PySem.W.Frag} {mg : Str → Option Value} {base : Heap}
theorem ER.start {ρ : List Addr} {H : Hp} {ds : List D} {vs : List V} {ns : List Str} {n : Nat} (r : VRs ρ H ds vs) (hn : n = ns.length) : ER ρ H (ds.map some ++ List.replicate (n - ds.length) none) (L2.start ns vs) := by
  subst hn
  refine ⟨by simp [L2.start, r.len], fun i d q => ?_⟩
  by_cases hi : i < ds.length
  · rw [List.getElem?_append_left (by simpa using hi), List.getElem?_map] at q
    obtain ⟨d', q1, q2⟩ := Option.map_eq_some_iff.mp q
    cases q2
    obtain ⟨v, e1, rv⟩ := r.get q1
    refine ⟨v, ?_, rv⟩
    unfold L2.start
    rw [List.getElem?_append_left (by rw [List.length_map, ← r.len]; exact hi), List.getElem?_map, e1]
    rfl
  · rw [List.getElem?_append_right (by simpa using hi), List.getElem?_replicate] at q
    split at q <;> cases q
def outV : Flow → Value
  | .ret v => v
  | _ => .none
/-- a def's run over the evaluator: its body's statements -/
theorem fn_G {x qual : Str} {st : Stmt} {f : Addr} {fd : FuncData} {ns ps : List Str} {k n : Nat} {body : List St} (hn : n = ns.length) (F : C8.Fun K x qual st f fd) (sc : FnScope ns ps (C8.fnScope st))
    (hb : ∀ X : Cx, X.prog = P → X.w = w → X.K = K → X.mg = mg → X.base = base → Good X ns (C8.fnScope st) (fun _ => true) k → SSs X (C8.fnBody st) (execSs body)) : FnG P w K mg base (k + 1) f fd ps (runF n ps.length body) := by
  obtain ⟨c1, c2, c3, c4, c5, c6, c7, cdv, c8, c9, rfl, look, code⟩ := F.ex
  refine ⟨fun {A frs0 s H ar us vs Q} gd room env rel bind sp => ?_⟩
  obtain ⟨hl, ρ, S, ds, d, S', hS, rs, run, fin⟩ := sp
  have kin : K.In s.heap := env.mod.kin.keeps fun b o e => (env.bs b o e).1
  have nolim : s.heap.NoLimit := env.mod.nolimit.keeps fun b o e => (env.bs b o e).1
  have names : ∀ y ∈ ps.zip us, (C8.fnScope st).names.lookup y.1 = some .local ∨ ((C8.fnScope st).names.lookup y.1 = some .cell ∧ ((cellsFrom (s.heap.objs.size + 1) (C8.fnScope st).names []).lookup y.1).isSome = true) := by
    rintro ⟨n1, v1⟩ hy
    rcases sc.par n1 (List.of_mem_zip hy).1 with q | q
    · exact .inl q
    · exact .inr ⟨q, PySem.W.cellsFrom_some _ _ _ (.inl q)⟩
  refine codeAny_call_function room.depth (kin _ _ look) rfl sc.co sc.gen rfl (PySem.W.codeRec_of kin code) (bind _ _ _ _ ?_)
  refine wpAny_newFunctionEnv_cells sc.kind names fun en hen s1 inc => ?_
  subst hen
  refine ⟨nolim.keeps inc.toInCall.keep, codeAny_func ?_⟩
  have I := inv_start (CX := C8.CX0) (P := P) (w := w) (E := fun _ _ _ => False) sc room.hd env hl rel inc
  have good : Good (cxOf C8.CX0 P w K mg base ns qual (C8.fnScope st) f cdv A frs0 s H fun _ _ _ => False).nox ns (C8.fnScope st) (fun _ => true) k :=
    ⟨rfl, sc.nd, rfl, sc.kind, rfl, rfl, gd, room.deeper _, rfl⟩
  have ss := hb _ rfl rfl rfl rfl rfl good
  unfold runF at run
  split at run
  · rename_i hk
    split at run
    · rename_i d1 e1 S1 ex
      cases run
      refine wpAny_mono (ss.run [] s1 _ H { nx := fun _ H' => Q .non H', rt := Q } (I.wish _) ⟨ρ, _, S, _, e1, _, ER.start rs hn, hS, by rw [hk]; exact ex, fun ρ' H' g sr => (fun v rv => fin ρ' H' v g sr rv : ∀ v, VR ρ' H' d v → Q v H')⟩) (fun fl s' z => ?_) fun e s' z => False.elim z
      have q := fin_ok z.unwish
      cases fl <;> exact q
    · rename_i e1 S1 ex
      cases run
      refine wpAny_mono (ss.run [] s1 _ H { nx := fun _ H' => Q .non H', rt := Q } (I.wish _) ⟨ρ, _, S, _, e1, _, ER.start rs hn, hS, by rw [hk]; exact ex, fun ρ' H' g sr => (fun σ' _ => fin ρ' H' .non g sr .non : ∀ σ', ER ρ' H' e1 σ' → Q .non H')⟩) (fun fl s' z => ?_) fun e s' z => False.elim z
      have q := fin_ok z.unwish
      cases fl <;> exact q
    · cases run
  · cases run
where
  fin_ok {P : Program} {w : World} {K : PySem.W.Frag} {mg : Str → Option Value} {base : Heap} {ns : List Str} {qual : Str} {sc : Scope} {f : Addr} {cdv : Value} {A : Around} {frs0 : List PySem.Env} {s s' : Shared} {H : Hp} {Q : VK} {fl : Flow}
    (z : SP (cxOf C8.CX0 P w K mg base ns qual sc f cdv A frs0 s H fun _ _ _ => False) [] { nx := fun _ H' => Q .non H', rt := Q } fl s') : CE frs0 P w H s Q (outV fl) s' := by
    cases fl with
    | ret u => obtain ⟨v, σ', H', J, rv, q⟩ := z; exact ⟨v, H', J.os, J.bare, J.base, J.hok, rv, q⟩
    | next => obtain ⟨σ', H', J, q⟩ := z; exact ⟨.non, H', J.os, J.bare, J.base, J.hok, rfl, q⟩
    | brk => obtain ⟨_, _, _, q⟩ := z; exact q.elim
    | cont => obtain ⟨_, _, _, q⟩ := z; exact q.elim
end
end N
set_option autoImplicit false
set_option Elab.async false
set_option linter.all false
set_option maxRecDepth 100000
set_option maxHeartbeats 4000000
namespace N
open PySem L2 PySem.Spec PyProof.Rows
/-- the iterator J gives the row ds as long as what g names stays -/
def Yields (K : PySem.W.Frag) (J : It) (ρ0 : List Addr) (H0 : Hp) (ds : List D) (g : List (Nat × O)) : Prop :=
  ∀ (i : Nat) (ρ : List Addr) (H : Hp) (S : Sto), Go ρ0 H0 ρ H → SR K ρ H S → guardOk S g = true → (ds.length ≤ i → J.stop i H) ∧
    ∀ d, ds[i]? = some d → J.go i H ∧ ∀ x H', J.yld i H x H' → Go ρ H ρ H' ∧ SR K ρ H' S ∧ VR ρ H' d x
def TIv (K : PySem.W.Frag) (x : Env → Sto → RI) : TI := fun σ H R => ∃ ρ e S ds g S', ER ρ H e σ ∧ SR K ρ H S ∧ x e S = some (ds, g, S') ∧ ∀ ρ' H' J, Go ρ H ρ' H' → SR K ρ' H' S' → Yields K J ρ' H' ds g → R J H'
def SI (X : Cx) (tg iter : Expr) (x : Env → Sto → RI) : Prop := PI X tg iter (TIv X.K x)
theorem PI.imp {X : Cx} {tg iter : Expr} {t u : TI} (h : PI X tg iter t) (i : ∀ σ H R, u σ H R → t σ H R) : PI X tg iter u := ⟨fun pins s σ H R I q => h.run pins s σ H R I (i σ H R q)⟩
theorem guard_app {S : Sto} {g h : List (Nat × O)} : guardOk S (g ++ h) = true ↔ guardOk S g = true ∧ guardOk S h = true := by
  unfold guardOk; rw [List.all_append, Bool.and_eq_true]
theorem guard_one {S : Sto} {n : Nat} {o : O} : guardOk S [(n, o)] = true ↔ S[n]? = some o := by
  unfold guardOk; simp
section
variable {X : Cx} {K : PySem.W.Frag} {ρ ρ0 ρ' : List Addr} {H H0 H' : Hp} {S S' : Sto} {d : D} {v : V} {e : Env} {σ : L2.St}
/-! #### rows -/
/-- the row at n of the store, whatever comes -/
theorem row_sq {n : Nat} {a : Addr} {ds : List D} {g : List (Nat × O)} {T : Sto} (h : rowV n T = some (ds, g)) (ea : ρ0[n]? = some a) (gg : Go ρ0 H0 ρ H) (s : SR K ρ H S) (ok : guardOk S g = true) : ∃ vs, SqL K H a vs ∧ VRs ρ H ds vs := by
  unfold rowV at h
  split at h
  · cases h
    exact s.row (guard_one.mp ok) (gg.at_ ea)
  · cases h
    exact ⟨_, s.scr (guard_one.mp ok) (gg.at_ ea), VRs.ofInts _⟩
  · cases h
theorem yields_row {n : Nat} {a : Addr} {ds : List D} {g : List (Nat × O)} {T : Sto} (h : rowV n T = some (ds, g)) (ea : ρ0[n]? = some a) : Yields K (Itl K a) ρ0 H0 ds g := by
  intro i ρ H S gg s ok
  obtain ⟨vs, q, rs⟩ := row_sq h ea gg s ok
  refine ⟨fun hl => ⟨vs, q, by rw [← rs.len]; exact hl⟩, fun d hd => ?_⟩
  obtain ⟨v, e1, r⟩ := rs.get hd
  refine ⟨⟨vs, v, q, e1⟩, fun x H' y => ?_⟩
  obtain ⟨e2, y⟩ := y
  subst e2
  have := y vs q
  rw [e1] at this
  cases this
  exact ⟨.refl, s, r⟩
theorem yields_tup {a : Addr} {ds : List D} {vs : List V} (ea : H0 a = some (.tup vs)) (rs : VRs ρ0 H0 ds vs) : Yields K (Itt K a) ρ0 H0 ds [] := by
  intro i ρ H S gg s ok
  have q := SqT.of (K := K) (gg.tup ea)
  have rs := rs.go gg
  refine ⟨fun hl => ⟨vs, q, by rw [← rs.len]; exact hl⟩, fun d hd => ?_⟩
  obtain ⟨v, e1, r⟩ := rs.get hd
  refine ⟨⟨vs, v, q, e1⟩, fun x H' y => ?_⟩
  obtain ⟨e2, y⟩ := y
  subst e2
  have := y vs q
  rw [e1] at this
  cases this
  exact ⟨.refl, s, r⟩
/-- a pair just laid -/
theorem laid_pair {T : Addr} {d1 d2 : D} {x y : V} (s : SR K ρ H S) (hT : H T = none) (r1 : VR ρ H d1 x) (r2 : VR ρ H d2 y) : Go ρ H ρ (upd H T (.tup [x, y])) ∧ SR K ρ (upd H T (.tup [x, y])) S ∧ VR ρ (upd H T (.tup [x, y])) (.tup [d1, d2]) (.ref T) :=
  ⟨Go.laid hT, s.laid hT, .tup upd_same (.cons (r1.go (Go.laid hT)) (.cons (r2.go (Go.laid hT)) .nil))⟩
theorem yields_enum {n : Nat} {a : Addr} {ds : List D} {g : List (Nat × O)} {T : Sto} (h : rowV n T = some (ds, g)) (ea : ρ0[n]? = some a) : Yields K (Ite K a) ρ0 H0 (enumV ds) g := by
  intro i ρ H S gg s ok
  obtain ⟨vs, q, rs⟩ := row_sq h ea gg s ok
  refine ⟨fun hl => ⟨vs, q, by rw [← rs.len]; simpa [enumV] using hl⟩, fun d hd => ?_⟩
  unfold enumV at hd
  rw [List.getElem?_map, List.getElem?_zipIdx] at hd
  obtain ⟨p, hp, rfl⟩ := Option.map_eq_some_iff.mp hd
  obtain ⟨d1, h1, rfl⟩ := Option.map_eq_some_iff.mp hp
  obtain ⟨v, e1, r⟩ := rs.get h1
  refine ⟨⟨vs, v, q, e1⟩, fun x H' y => ?_⟩
  obtain ⟨T', z, rfl, hT, rfl, y⟩ := y
  have := y vs q
  rw [e1] at this
  cases this
  rw [Nat.zero_add]
  exact laid_pair s hT (.int _) r
theorem yields_zipL {m n : Nat} {a b : Addr} {ds es : List D} {g h : List (Nat × O)} {T : Sto} (h1 : rowV m T = some (ds, g)) (h2 : rowV n T = some (es, h)) (ea : ρ0[m]? = some a) (eb : ρ0[n]? = some b) : Yields K (Itz K a b) ρ0 H0 (zipV ds es) (g ++ h) := by
  intro i ρ H S gg s ok
  obtain ⟨ok1, ok2⟩ := guard_app.mp ok
  obtain ⟨vs, q, rs⟩ := row_sq h1 ea gg s ok1
  obtain ⟨ws, q', rs'⟩ := row_sq h2 eb gg s ok2
  refine ⟨fun hl => ⟨vs, ws, q, q', ?_⟩, fun d hd => ?_⟩
  · unfold zipV at hl
    rw [List.length_map, List.length_zip, rs.len, rs'.len] at hl
    omega
  · unfold zipV at hd
    rw [List.getElem?_map] at hd
    obtain ⟨p, hp, rfl⟩ := Option.map_eq_some_iff.mp hd
    obtain ⟨hp1, hp2⟩ := List.getElem?_zip_eq_some.mp hp
    obtain ⟨v, e1, r⟩ := rs.get hp1
    obtain ⟨w, e2, r'⟩ := rs'.get hp2
    refine ⟨⟨vs, ws, v, w, q, q', e1, e2⟩, fun x H' y => ?_⟩
    obtain ⟨T', z1, z2, rfl, hT, rfl, y1, y2⟩ := y
    have t1 := y1 vs q
    have t2 := y2 ws q'
    rw [e1] at t1
    rw [e2] at t2
    cases t1
    cases t2
    exact laid_pair s hT r r'
theorem yields_zipT {a b : Addr} {ds es : List D} {vs ws : List V} (ea : H0 a = some (.tup vs)) (eb : H0 b = some (.tup ws)) (rs : VRs ρ0 H0 ds vs) (rs' : VRs ρ0 H0 es ws) : Yields K (RZ.ItzT K a b) ρ0 H0 (zipV ds es) [] := by
  intro i ρ H S gg s ok
  have q := SqT.of (K := K) (gg.tup ea)
  have q' := SqT.of (K := K) (gg.tup eb)
  have rs := rs.go gg
  have rs' := rs'.go gg
  refine ⟨fun hl => ⟨vs, ws, q, q', ?_⟩, fun d hd => ?_⟩
  · unfold zipV at hl
    rw [List.length_map, List.length_zip, rs.len, rs'.len] at hl
    omega
  · unfold zipV at hd
    rw [List.getElem?_map] at hd
    obtain ⟨p, hp, rfl⟩ := Option.map_eq_some_iff.mp hd
    obtain ⟨hp1, hp2⟩ := List.getElem?_zip_eq_some.mp hp
    obtain ⟨v, e1, r⟩ := rs.get hp1
    obtain ⟨w, e2, r'⟩ := rs'.get hp2
    refine ⟨⟨vs, ws, v, w, q, q', e1, e2⟩, fun x H' y => ?_⟩
    obtain ⟨T', z1, z2, rfl, hT, rfl, y1, y2⟩ := y
    have t1 := y1 vs q
    have t2 := y2 ws q'
    rw [e1] at t1
    rw [e2] at t2
    cases t1
    cases t2
    exact laid_pair s hT r r'
theorem yields_rng (lo : Int) (n : Nat) : Yields K (Itr lo n) ρ0 H0 ((List.range n).map fun k => .int (lo + (k : Nat))) [] := by
  intro i ρ H S gg s ok
  refine ⟨fun hl => (show n ≤ i by simpa using hl), fun d hd => ?_⟩
  rw [List.getElem?_map] at hd
  obtain ⟨p, hp, rfl⟩ := Option.map_eq_some_iff.mp hd
  have hi := (List.getElem?_eq_some_iff.mp hp).1
  have := (List.getElem?_eq_some_iff.mp hp).2
  simp at hi this
  subst this
  refine ⟨hi, fun x H' y => ?_⟩
  obtain ⟨rfl, rfl⟩ := y
  exact ⟨.refl, s, .int _⟩
theorem yields_dn (lo : Int) (n : Nat) : Yields K (Itc lo (-1) n) ρ0 H0 ((List.range n).map fun k => .int (lo - (k : Nat))) [] := by
  intro i ρ H S gg s ok
  refine ⟨fun hl => (show n ≤ i by simpa using hl), fun d hd => ?_⟩
  rw [List.getElem?_map] at hd
  obtain ⟨p, hp, rfl⟩ := Option.map_eq_some_iff.mp hd
  have hi := (List.getElem?_eq_some_iff.mp hp).1
  have := (List.getElem?_eq_some_iff.mp hp).2
  simp at hi this
  subst this
  refine ⟨hi, fun x H' y => ?_⟩
  obtain ⟨rfl, rfl⟩ := y
  rw [show lo + ((i : Nat) : Int) * -1 = lo - (i : Nat) by omega]
  exact ⟨.refl, s, .int _⟩
/-! #### what is walked -/
theorem si_wk {tg E : Expr} {x : Ex} (he : SE X E (evalE x)) : SI X tg E (evalIt (.wk x)) := by
  refine ⟨fun pins s σ H R I h => ?_⟩
  obtain ⟨ρ, e, S, ds, g, S', h1, h2, h3, k⟩ := h
  simp only [evalIt] at h3
  split at h3
  · cases h3
  rename_i d S1 e1
  split at h3
  · cases h3
  rename_i xs g' e2
  cases h3
  unfold walkV at e2
  split at e2
  · cases e2
    refine (pi_tup he).run pins s σ H R I ⟨ρ, e, S, _, S', h1, h2, e1, fun ρ' H' v gg s' r => ?_⟩
    cases r with
    | tup ea rs => exact ⟨_, rfl, ⟨_, .of ea⟩, k ρ' H' _ gg s' (yields_tup ea rs)⟩
  · rename_i n
    refine (pi_list he).run pins s σ H R I ⟨ρ, e, S, _, S', h1, h2, e1, fun ρ' H' v gg s' r => ?_⟩
    cases r with
    | ref ea =>
      refine ⟨_, rfl, ?_, k ρ' H' _ gg s' (yields_row e2 ea)⟩
      unfold rowV at e2
      split at e2
      · rename_i e3
        obtain ⟨vs, q, _⟩ := s'.row e3 ea
        exact ⟨vs, q⟩
      · rename_i e3
        exact ⟨_, s'.scr e3 ea⟩
      · cases e2
  · cases e2
theorem sq_row {n : Nat} {a : Addr} {ds : List D} {g : List (Nat × O)} (h : rowV n S = some (ds, g)) (ea : ρ[n]? = some a) (s : SR K ρ H S) : ∃ vs, SqL K H a vs := by
  unfold rowV at h
  split at h
  · rename_i e3
    obtain ⟨vs, q, _⟩ := s.row e3 ea
    exact ⟨vs, q⟩
  · rename_i e3
    exact ⟨_, s.scr e3 ea⟩
  · cases h
theorem sa_one {E : Expr} {x : Ex} (he : SE X E (evalE x)) (hs : starEach [E] X.env = (false, eval E X.env) :: starEach [] X.env) : SA X [E] (evalEs [x]) := PA.imp (sa_cons he (sa_nil (X := X)) hs) fun σ H Q q => by
  obtain ⟨ρ, e, S, ds, S', h1, h2, h3, k⟩ := q
  simp only [evalEs] at h3
  exact ⟨ρ, e, S, ds, S', h1, h2, h3, k⟩
theorem si_enumL {E : Expr} {x : Ex} {elts : List Expr} {kk : Nat} {p pos tpos : Pos} (hg : Gl X "enumerate") (hm : X.mg "enumerate" = none) (he : SE X E (evalE x)) (hs : starEach [E] X.env = (false, eval E X.env) :: starEach [] X.env) :
    SI X (.Tuple elts kk tpos) (.Call (.Name "enumerate" p) [E] [] pos) (fun e S => match evalE x e S with
    | none => none
    | some (d, S1) => match enumL d S1 with
      | none => none
      | some (xs, g) => some (xs, g, S1)) := PI.imp (pi_enum hg hm (pa_cons he pa_nil hs) (by rw [hs]; rfl)) fun σ H R h => by
  obtain ⟨ρ, e, S, ds, g, S', h1, h2, h3, k⟩ := h
  simp only at h3
  split at h3
  · cases h3
  rename_i d S1 e1
  split at h3
  · cases h3
  rename_i xs g' e2
  cases h3
  unfold enumL at e2
  split at e2
  · rename_i n
    split at e2
    · cases e2
    · rename_i ys gg0 e3
      cases e2
      refine ⟨ρ, e, S, _, S', h1, h2, e1, fun ρ' H' v gg s' r => ?_⟩
      cases r with
      | ref ea =>
        obtain ⟨vs, q⟩ := sq_row e3 ea s'
        exact ⟨_, vs, rfl, q, k ρ' H' _ gg s' (yields_enum e3 ea)⟩
  · cases e2
theorem si_zip {E E2 : Expr} {x y : Ex} {elts : List Expr} {kk : Nat} {p pos tpos : Pos} (hg : Gl X "zip") (hm : X.mg "zip" = none) (he : SE X E (evalE x)) (he2 : SE X E2 (evalE y)) (hs : starEach [E, E2] X.env = (false, eval E X.env) :: starEach [E2] X.env) (hs2 : starEach [E2] X.env = (false, eval E2 X.env) :: starEach [] X.env) (hpl : (backTo pos (starEach [E2] X.env)).any (·.1) = false) :
    SI X (.Tuple elts kk tpos) (.Call (.Name "zip" p) [E, E2] [] pos) (evalIt (.zip x y)) := PI.imp (RZ.pi_zipA hg hm (pa_cons he (pa_cons he2 pa_nil hs2) hs) hs hpl) fun σ H R h => by
  obtain ⟨ρ, e, S, ds, g, S', h1, h2, h3, k⟩ := h
  simp only [evalIt] at h3
  split at h3
  · cases h3
  rename_i d S1 e1
  split at h3
  · cases h3
  rename_i d2 S2 e2
  split at h3
  · cases h3
  rename_i xs g' e3
  cases h3
  refine ⟨ρ, e, S, d, S1, h1, h2, e1, fun ρ1 H1 v1 g1 s1 r1 => ⟨ρ1, e, S1, d2, _, h1.go g1, s1, e2, fun ρ2 H2 v2 g2 s2 r2 => ?_⟩⟩
  have r1 := r1.go g2
  have kk := k ρ2 H2
  unfold zipI at e3
  split at e3
  · cases e3
    cases r1 with
    | tup ea rs =>
      cases r2 with
      | tup eb rs' => exact ⟨_, _, _, _, rfl, .inr ⟨.of ea, .of eb, kk _ (g1.trans g2) s2 (yields_zipT ea eb rs rs')⟩⟩
  · split at e3
    · rename_i m n _ _ _ _ e4 e5
      cases e3
      cases r1 with
      | ref ea =>
        cases r2 with
        | ref eb =>
          obtain ⟨vs, q⟩ := sq_row e4 ea s2
          obtain ⟨ws, q'⟩ := sq_row e5 eb s2
          exact ⟨_, _, vs, ws, rfl, .inl ⟨q, q', kk _ (g1.trans g2) s2 (yields_zipL e4 e5 ea eb)⟩⟩
    · cases e3
  · cases e3
/-! #### ranges -/
theorem rngV_up (lo hi : Int) : rngV lo hi 1 = (List.range (hi - lo).toNat).map fun k => .int (lo + (k : Nat)) := by
  unfold rngV; rw [if_pos rfl]
theorem rngV_dn (lo hi : Int) : rngV lo hi (-1) = (List.range (lo - hi).toNat).map fun k => .int (lo - (k : Nat)) := by
  unfold rngV; rw [if_neg (by decide), if_pos rfl]
theorem rng1 {i : Int} {xs : List D} (h : rngI [.int i] = some xs) : (-1000000000 ≤ i ∧ i ≤ line) ∧ xs = rngV 0 i 1 := by
  simp only [rngI] at h
  split at h
  · rename_i c
    cases h
    rw [Bool.and_eq_true, decide_eq_true_eq, decide_eq_true_eq] at c
    exact ⟨c, rfl⟩
  · cases h
theorem rng2 {i j : Int} {xs : List D} (h : rngI [.int i, .int j] = some xs) : (-1000000000 ≤ i ∧ i ≤ 1000000000 ∧ -1000000000 ≤ j ∧ j ≤ 1000000000 ∧ j - i ≤ line) ∧ xs = rngV i j 1 := by
  simp only [rngI] at h
  split at h
  · rename_i c
    cases h
    simp only [Bool.and_eq_true, decide_eq_true_eq] at c
    exact ⟨c, rfl⟩
  · cases h
theorem rng3 {i j c : Int} {xs : List D} (h : rngI [.int i, .int j, .int c] = some xs) : c = -1 ∧ (-1000000000 ≤ i ∧ i ≤ 1000000000 ∧ -1000000000 ≤ j ∧ j ≤ 1000000000 ∧ i - j ≤ line) ∧ xs = rngV i j (-1) := by
  simp only [rngI] at h
  split at h
  · rename_i c
    cases h
    simp only [Bool.and_eq_true, decide_eq_true_eq] at c
    exact ⟨c.1, c.2, rfl⟩
  · cases h
/-- the forms of a row of arguments that rngI takes -/
theorem rng_args {ds xs : List D} (h : rngI ds = some xs) : (∃ i, ds = [.int i]) ∨ (∃ i j, ds = [.int i, .int j]) ∨ ∃ i j c, ds = [.int i, .int j, .int c] := by
  unfold rngI at h
  split at h
  · exact .inl ⟨_, rfl⟩
  · exact .inr (.inl ⟨_, _, rfl⟩)
  · exact .inr (.inr ⟨_, _, _, rfl⟩)
  · cases h
theorem evalEs_len : ∀ {xs : List Ex} {e : Env} {S S' : Sto} {ds : List D}, evalEs xs e S = some (ds, S') → ds.length = xs.length
  | [], _, _, _, _, h => by simp only [evalEs] at h; cases h; rfl
  | x :: xs, e, S, S', ds, h => by
    simp only [evalEs] at h
    split at h
    · cases h
    · split at h
      · cases h
      · rename_i e2
        cases h
        rw [List.length_cons, List.length_cons, evalEs_len e2]
theorem si_rng1 {tg E : Expr} {x : Ex} {p pos : Pos} (hg : Gl X "range") (hm : X.mg "range" = none) (ha : SA X [E] (evalEs [x])) (hs : starEach [E] X.env = (false, eval E X.env) :: starEach [] X.env) :
    SI X tg (.Call (.Name "range" p) [E] [] pos) (evalIt (.rng [x])) := PI.imp (pi_range1 hg hm ha (by rw [hs]; rfl)) fun σ H R h => by
  obtain ⟨ρ, e, S, ds, g, S', h1, h2, h3, k⟩ := h
  simp only [evalIt] at h3
  split at h3
  · cases h3
  rename_i as S1 e1
  split at h3
  · cases h3
  rename_i xs e2
  cases h3
  refine ⟨ρ, e, S, as, S', h1, h2, e1, fun ρ' H' vs gg s' r => ?_⟩
  have hl := evalEs_len e1
  rcases rng_args e2 with ⟨i, rfl⟩ | ⟨i, j, rfl⟩ | ⟨i, j, c, rfl⟩
  · obtain ⟨⟨b1, b2⟩, rfl⟩ := rng1 e2
    have := r.toInts (ns := [i])
    subst this
    have hb : ((line : Nat) : Int) = 16777216 := rfl
    refine ⟨i, rfl, by omega, by omega, k ρ' H' _ gg s' ?_⟩
    rw [rngV_up, show i - 0 = i by omega]
    exact yields_rng 0 i.toNat
  · cases hl
  · cases hl
theorem si_rng2 {tg E E2 : Expr} {x y : Ex} {p pos : Pos} (hg : Gl X "range") (hm : X.mg "range" = none) (ha : SA X [E, E2] (evalEs [x, y])) (hs : starEach [E, E2] X.env = (false, eval E X.env) :: starEach [E2] X.env) (hs2 : starEach [E2] X.env = (false, eval E2 X.env) :: starEach [] X.env) :
    SI X tg (.Call (.Name "range" p) [E, E2] [] pos) (evalIt (.rng [x, y])) := PI.imp (pi_range2 hg hm ha (by rw [hs, hs2]; rfl) (by rw [hs2]; rfl)) fun σ H R h => by
  obtain ⟨ρ, e, S, ds, g, S', h1, h2, h3, k⟩ := h
  simp only [evalIt] at h3
  split at h3
  · cases h3
  rename_i as S1 e1
  split at h3
  · cases h3
  rename_i xs e2
  cases h3
  refine ⟨ρ, e, S, as, S', h1, h2, e1, fun ρ' H' vs gg s' r => ?_⟩
  have hl := evalEs_len e1
  rcases rng_args e2 with ⟨i, rfl⟩ | ⟨i, j, rfl⟩ | ⟨i, j, c, rfl⟩
  · cases hl
  · obtain ⟨⟨b1, b2, b3, b4, b5⟩, rfl⟩ := rng2 e2
    have := r.toInts (ns := [i, j])
    subst this
    refine ⟨i, j, rfl, ⟨by omega, by omega, by omega, by omega⟩, k ρ' H' _ gg s' ?_⟩
    rw [rngV_up]
    exact yields_rng i (j - i).toNat
  · cases hl
theorem si_rng3 {tg E E2 E3 : Expr} {x y z : Ex} {p pos : Pos} (hg : Gl X "range") (hm : X.mg "range" = none) (ha : SA X [E, E2, E3] (evalEs [x, y, z])) (hs : starEach [E, E2, E3] X.env = (false, eval E X.env) :: starEach [E2, E3] X.env) (hpl : (backTo pos (starEach [E2, E3] X.env)).any (·.1) = false) :
    SI X tg (.Call (.Name "range" p) [E, E2, E3] [] pos) (evalIt (.rng [x, y, z])) := PI.imp (pi_range3 hg hm ha hs hpl) fun σ H R h => by
  obtain ⟨ρ, e, S, ds, g, S', h1, h2, h3, k⟩ := h
  simp only [evalIt] at h3
  split at h3
  · cases h3
  rename_i as S1 e1
  split at h3
  · cases h3
  rename_i xs e2
  cases h3
  refine ⟨ρ, e, S, as, S', h1, h2, e1, fun ρ' H' vs gg s' r => ?_⟩
  have hl := evalEs_len e1
  rcases rng_args e2 with ⟨i, rfl⟩ | ⟨i, j, rfl⟩ | ⟨i, j, c, rfl⟩
  · cases hl
  · cases hl
  · obtain ⟨rfl, ⟨b1, b2, b3, b4, b5⟩, rfl⟩ := rng3 e2
    have := r.toInts (ns := [i, j, -1])
    subst this
    refine ⟨i, j, -1, (i - j).toNat, rfl, RgC.neg (by omega) (by omega) (by omega) (by omega), k ρ' H' _ gg s' ?_⟩
    rw [rngV_dn]
    exact yields_dn i (i - j).toNat
/-! #### for -/
theorem ss_for {t it : Ex} {b : List St} {tg iter : Expr} {body : List Stmt} {pos : Pos} (hx : X.xe = fun _ _ => False) (hc : X.calm = true) (hi : SI X tg iter (evalIt it)) (hg : SG X tg t) (hb : SSs X body (execSs b))
    (hs : ∀ x, foldedSetIterable iter X.env x = pure x) : SS X (.For tg iter body [] pos) (execS (.forS t it b)) := by
  refine PS.imp (ps_for (by rw [hx]; exact PassesOwn.never) hc hi hg hb hs) fun De σ H q => ?_
  obtain ⟨ρ, e, S, f, e', S', h1, h2, h3, h4⟩ := q
  simp only [execS] at h3
  split at h3
  · cases h3
  rename_i ds g S1 e1
  refine ⟨ρ, e, S, ds, g, S1, h1, h2, e1, fun ρ1 H1 J g1 s1 y => ?_⟩
  -- what is left to run at turn i
  let Pv : Nat → L2.St → Hp → Prop := fun i σ H => ∃ ρ e S, i ≤ ds.length ∧ Go ρ1 H1 ρ H ∧ ER ρ H e σ ∧ SR X.K ρ H S ∧ forL (bindT t) (execSs b) g (ds.drop i) e S = some (f, e', S') ∧ EFin X.K ρ H f e' S' De
  refine ⟨fun i m σ H => m = ds.length - i ∧ Pv i σ H, ⟨_, rfl, ρ1, e, S1, Nat.zero_le _, .refl, h1.go g1, s1, h3, h4.go g1⟩, ?_⟩
  rintro i m σ2 H2 ⟨rfl, ρ2, e2, S2, hi, g2, E2, s2, run, fin⟩
  cases hd : ds.drop i with
  | nil =>
    rw [hd] at run
    simp only [forL] at run
    split at run
    · rename_i ok
      cases run
      have hl : ds.length ≤ i := by
        have := congrArg List.length hd
        rw [List.length_drop, List.length_nil] at this
        omega
      exact .inl ⟨(y i ρ2 H2 _ g2 s2 ok).1 hl, fin ρ2 H2 .refl s2 σ2 E2⟩
    · cases run
  | cons d rest =>
    rw [hd] at run
    simp only [forL] at run
    split at run
    · rename_i ok
      have hget : ds[i]? = some d := by
        have := List.getElem?_drop (xs := ds) (i := i) (j := 0)
        rw [hd] at this
        simpa using this.symm
      have hlt : i < ds.length := (List.getElem?_eq_some_iff.mp hget).1
      have hrest : ds.drop (i + 1) = rest := by
        rw [← List.drop_drop, hd]; rfl
      obtain ⟨go, yl⟩ := (y i ρ2 H2 _ g2 s2 ok).2 d hget
      refine .inr ⟨go, Pv (i + 1), fun σ' H' p => ⟨_, by omega, rfl, p⟩, fun x H3 hy => ?_⟩
      obtain ⟨g3, s3, r3⟩ := yl x H3 hy
      split at run
      · cases run
      rename_i e4 S4 q4
      refine ⟨ρ2, e2, S2, d, e4, S4, E2.go g3, s3, r3, q4, fun ρ5 H5 σ5 g5 s5 E5 _ => ?_⟩
      have g25 := g3.trans g5
      have fin5 := fin.go g25
      split at run
      · rename_i e6 S6 q6
        refine ⟨ρ5, e4, S4, .nx, e6, S6, E5, s5, q6, fun ρ7 H7 g7 s7 => (fun σ7 E7 => ?_ : ∀ σ7, ER ρ7 H7 e6 σ7 → Pv (i + 1) σ7 H7)⟩
        exact ⟨ρ7, e6, S6, hlt, g2.trans (g25.trans g7), E7, s7, by rw [hrest]; exact run, fin5.go g7⟩
      · rename_i e6 S6 q6
        cases run
        exact ⟨ρ5, e4, S4, .brk, _, _, E5, s5, q6, fun ρ7 H7 g7 s7 => fin5 ρ7 H7 g7 s7⟩
      · rename_i d6 e6 S6 q6
        cases run
        exact ⟨ρ5, e4, S4, .rt _, _, _, E5, s5, q6, fun ρ7 H7 g7 s7 => fin5 ρ7 H7 g7 s7⟩
      · cases run
    · cases run
/-! #### while -/
theorem ss_wh {c : Ex} {b : List St} {n : Nat} {C : Expr} {body : List Stmt} {pos : Pos} (hx : X.xe = fun _ _ => False) (hc : ST X C (evalE c)) (hb : SSs X body (execSs b)) : SS X (.While C body [] pos) (execS (.wh n c b)) := by
  refine PS.imp (ps_while (by rw [hx]; exact PassesOwn.never) hc hb) fun De σ H q => ?_
  obtain ⟨ρ, e, S, f, e', S', h1, h2, h3, h4⟩ := q
  simp only [execS] at h3
  let Pv : Nat → L2.St → Hp → Prop := fun m σ H => ∃ ρ e S, ER ρ H e σ ∧ SR X.K ρ H S ∧ whL (fun e S => thenT (evalE c e S)) (execSs b) m e S = some (f, e', S') ∧ EFin X.K ρ H f e' S' De
  refine ⟨fun m σ H => Pv m σ H, ⟨n, ρ, e, S, h1, h2, h3, h4⟩, ?_⟩
  rintro m σ2 H2 ⟨ρ2, e2, S2, E2, s2, run, fin⟩
  cases m with
  | zero => simp only [whL] at run; cases run
  | succ m =>
    simp only [whL] at run
    split at run
    · cases run
    · rename_i S3 q3
      cases run
      simp only [thenT] at q3
      split at q3
      · rename_i d3 S4 q4
        obtain ⟨b', q5, q6⟩ := Option.map_eq_some_iff.mp q3
        cases q6
        exact ⟨ρ2, _, S2, d3, _, false, E2, s2, q4, q5, fun ρ' H' g s => fin ρ' H' g s σ2 (E2.go g)⟩
      · cases q3
    · rename_i S3 q3
      simp only [thenT] at q3
      split at q3
      · rename_i d3 S4 q4
        obtain ⟨b', q5, q6⟩ := Option.map_eq_some_iff.mp q3
        cases q6
        refine ⟨ρ2, _, S2, d3, _, true, E2, s2, q4, q5, fun ρ' H' g s => ⟨Pv m, fun σ' H' p => ⟨m, Nat.lt_succ_self _, p⟩, ?_⟩⟩
        have fin' := fin.go g
        split at run
        · rename_i e6 S6 q6
          refine ⟨ρ', e2, S3, .nx, e6, S6, E2.go g, s, q6, fun ρ7 H7 g7 s7 => (fun σ7 E7 => ?_ : ∀ σ7, ER ρ7 H7 e6 σ7 → Pv m σ7 H7)⟩
          exact ⟨ρ7, e6, S6, E7, s7, run, fin'.go g7⟩
        · rename_i e6 S6 q6
          cases run
          exact ⟨ρ', e2, S3, .brk, _, _, E2.go g, s, q6, fun ρ7 H7 g7 s7 => fin' ρ7 H7 g7 s7⟩
        · rename_i d6 e6 S6 q6
          cases run
          exact ⟨ρ', e2, S3, .rt _, _, _, E2.go g, s, q6, fun ρ7 H7 g7 s7 => fin' ρ7 H7 g7 s7⟩
        · cases run
      · cases q3
end
end N
set_option autoImplicit false
set_option Elab.async false
set_option linter.all false
set_option maxRecDepth 100000
set_option maxHeartbeats 4000000
namespace N
open PySem L2 PySem.Spec PyProof.Rows
section
variable {X : Cx} {K : PySem.W.Frag} {ρ ρ0 ρ' : List Addr} {H H0 H' : Hp} {S S' : Sto} {d : D} {v : V} {e : Env} {σ : L2.St} {D0 : Addr}
mutual
theorem VR.tups (g : ∀ a vs, H a = some (.tup vs) → H' a = some (.tup vs)) : ∀ {d : D} {v : V}, VR ρ H d v → VR ρ H' d v
  | _, _, .non => .non
  | _, _, .bl b => .bl b
  | _, _, .int i => .int i
  | _, _, .str s => .str s
  | _, _, .tup e r => .tup (g _ _ e) (VRs.tups g r)
  | _, _, .ref e => .ref e
  | _, _, .rep => .rep
theorem VRs.tups (g : ∀ a vs, H a = some (.tup vs) → H' a = some (.tup vs)) : ∀ {d : List D} {v : List V}, VRs ρ H d v → VRs ρ H' d v
  | _, _, .nil => .nil
  | _, _, .cons a b => .cons (VR.tups g a) (VRs.tups g b)
end
theorem upd_tups {ys zs : List V} (hD : H D0 = some (.lst ys)) : ∀ a vs, H a = some (.tup vs) → upd H D0 (.lst zs) a = some (.tup vs) := fun a vs e => by
  rw [upd_ne (show a ≠ D0 from fun z => by rw [z, hD] at e; cases e)]; exact e
/-- a list that no place of the store tells is changed -/
theorem SR.off {ys zs : List V} (s : SR K ρ H S) (hD : H D0 = some (.lst ys)) (hn : D0 ∉ ρ) : SR K ρ (upd H D0 (.lst zs)) S :=
  ⟨s.len, fun n o a h1 h2 => (s.at_ n o a h1 h2).same (fun u e => by rw [upd_ne (show a ≠ D0 from fun z => hn (z ▸ List.mem_of_getElem? h2))]; exact e) (fun _ _ r => r.tups (upd_tups hD)) fun _ _ r => r.tups (upd_tups hD), s.nd⟩
/-- a list that stands already comes into the store -/
theorem SR.push {xs : List D} {vs : List V} (s : SR K ρ H S) (hD : H D0 = some (.lst vs)) (hn : D0 ∉ ρ) (r : VRs ρ H xs vs) : SR K (ρ ++ [D0]) H (S ++ [.lst xs]) := by
  have lt : ∀ {n : Nat} {b : Addr}, (ρ ++ [D0])[n]? = some b → (n < ρ.length ∧ ρ[n]? = some b) ∨ (n = ρ.length ∧ b = D0) := fun {n b} e => by
    by_cases h : n < ρ.length
    · rw [List.getElem?_append_left h] at e; exact .inl ⟨h, e⟩
    · rw [List.getElem?_append_right (by omega)] at e
      have h1 := (List.getElem?_eq_some_iff.mp e).1
      have h2 : n = ρ.length := by simp at h1; omega
      subst h2
      simp at e
      exact .inr ⟨rfl, e.symm⟩
  have lo : ∀ {n : Nat} {w : O}, n < ρ.length → (S ++ [O.lst xs])[n]? = some w → S[n]? = some w := fun {n w} h e => by
    rw [List.getElem?_append_left (by rw [← s.len]; exact h)] at e; exact e
  have last : ∀ {w : O}, (S ++ [O.lst xs])[ρ.length]? = some w → w = .lst xs := fun {w} e => by
    rw [s.len, List.getElem?_append_right (Nat.le_refl _)] at e; simp at e; exact e.symm
  refine ⟨by simp [s.len], fun n w b h1 h2 => ?_, fun m n b w z h1 h2 h3 h4 l1 l2 => ?_⟩
  · rcases lt h2 with ⟨hn', e⟩ | ⟨hn', e⟩
    · exact (s.at_ n w b (lo hn' h1) e).same (fun _ q => q) (fun _ _ r => r.cat) fun _ _ r => r.cat
    · subst e; subst hn'
      rw [last h1]
      exact ⟨vs, hD, r.cat⟩
  · rcases lt h1 with ⟨x1, e1⟩ | ⟨x1, e1⟩ <;> rcases lt h2 with ⟨x2, e2⟩ | ⟨x2, e2⟩
    · exact s.nd m n b w z e1 e2 (lo x1 h3) (lo x2 h4) l1 l2
    · exact absurd (e2 ▸ List.mem_of_getElem? e1) hn
    · exact absurd (e1 ▸ List.mem_of_getElem? e2) hn
    · rw [x1, x2]
theorem wipe_len (e : Env) : ∀ vs : List Nat, (N.wipe e vs).length = e.length
  | [] => rfl
  | v :: vs => by show ((N.wipe e vs).set v none).length = _; rw [List.length_set, wipe_len e vs]
theorem wipe_get {e : Env} {i : Nat} {d : D} : ∀ {vs : List Nat}, (N.wipe e vs)[i]? = some (some d) → e[i]? = some (some d) ∧ i ∉ vs
  | [], h => ⟨h, by simp⟩
  | v :: vs, h => by
    have h : ((N.wipe e vs).set v none)[i]? = some (some d) := h
    by_cases hi : v = i
    · subst hi
      by_cases hv : v < (N.wipe e vs).length
      · rw [List.getElem?_set_self hv] at h; cases h
      · rw [List.getElem?_eq_none (by simpa using hv)] at h; cases h
    · rw [List.getElem?_set_ne hi] at h
      obtain ⟨h1, h2⟩ := wipe_get h
      exact ⟨h1, by simp only [List.mem_cons, not_or]; exact ⟨fun e => hi e.symm, h2⟩⟩
theorem wipe_off (σ : L2.St) {i : Nat} : ∀ {vs : List Nat}, i ∉ vs → (L2.wipe σ vs)[i]? = σ[i]?
  | [], _ => rfl
  | v :: vs, h => by
    show ((L2.wipe σ vs).set v none)[i]? = _
    rw [List.getElem?_set_ne (fun z => h (by simp [z])), wipe_off σ (fun z => h (by simp [z]))]
theorem wipe_in (σ : L2.St) {i : Nat} : ∀ {vs : List Nat}, i ∈ vs → (L2.wipe σ vs)[i]? = if i < σ.length then some none else none
  | v :: vs, h => by
    show ((L2.wipe σ vs).set v none)[i]? = _
    by_cases hi : v = i
    · subst hi
      rw [List.getElem?_set]
      simp [L2.wipe_length]
    · rw [List.getElem?_set_ne hi]
      exact wipe_in σ (by simpa [Ne.symm hi] using h)
theorem ER.wipe (h : ER ρ H e σ) (vs : List Nat) : ER ρ H (N.wipe e vs) (L2.wipe σ vs) := by
  refine ⟨by rw [wipe_len, L2.wipe_length, h.1], fun i d q => ?_⟩
  obtain ⟨h1, h2⟩ := wipe_get q
  obtain ⟨v, e1, r⟩ := h.2 i d h1
  exact ⟨v, by rw [wipe_off σ h2]; exact e1, r⟩
theorem wipe_eq {vs ws : List Nat} {σ σ' : L2.St} (o : Off ws (L2.wipe σ vs) σ') (h : ∀ j ∈ ws, j ∈ vs) : L2.wipe σ' vs = L2.wipe σ vs := by
  have hl : σ'.length = σ.length := by rw [o.1, L2.wipe_length]
  apply List.ext_getElem?
  intro i
  by_cases hi : i ∈ vs
  · rw [wipe_in σ' hi, wipe_in σ hi, hl]
  · rw [wipe_off σ' hi, o.2 i fun z => hi (h i z)]
/-- the tests of a list comprehension -/
theorem spts_nil : PTs X [] (TTv X.K (evalE (.bl true))) := ⟨fun pins s σ H Q I h => pts_nil.run pins s σ H Q I (by
  obtain ⟨ρ, e, S, d, S', b, h1, h2, h3, h4, h5⟩ := h
  simp only [evalE] at h3
  cases h3
  simp only [tru] at h4
  cases h4
  exact h5 ρ H .refl h2)⟩
theorem lc_read {t it c elt : Ex} {own : List Nat} (hsl : ∀ j ∈ slots t, j ∈ own) {Q : VK} (h : TEv X.K (evalE (.comp elt t it c own)) σ H Q) :
    tLc (TIv X.K (evalIt it)) (TGv X.K (slots t) (bindT t)) (TTv X.K (evalE c)) (TEv X.K (evalE elt)) own σ H Q := by
  obtain ⟨ρ, e, S, d, S', h1, h2, h3, k⟩ := h
  simp only [evalE] at h3
  split at h3
  · cases h3
  rename_i ds g S1 e1
  split at h3
  case isFalse => cases h3
  rename_i hlen
  have hlen := of_decide_eq_true hlen
  split at h3
  · cases h3
  rename_i all S2 e2
  cases h3
  refine ⟨ρ, e, S, ds, g, S1, h1, h2, e1, fun ρ1 H1 J g1 s1 y => ?_⟩
  intro D0 hD0
  have E1 := h1.go g1
  have k1 := k.go g1
  let Pv : Nat → Hp → Prop := fun i H => ∃ ρ S done acc rest, i ≤ ds.length ∧ Go ρ1 H1 ρ H ∧ SR X.K ρ H S ∧ H D0 = some (.lst acc) ∧ D0 ∉ ρ ∧ VRs ρ H done acc ∧ done.length ≤ i ∧
    compL (bindT t) (fun e S => thenT (evalE c e S)) (evalE elt) g (N.wipe e own) (ds.drop i) S = some (rest, S2) ∧ done ++ rest = all
  refine ⟨fun i m H => m = ds.length - i ∧ Pv i H, ⟨_, rfl, ρ1, S1, [], [], all, Nat.zero_le _, Go.laid hD0, s1.laid hD0, upd_same, fun z => ?_, .nil, Nat.zero_le _, e2, rfl⟩, ?_⟩
  · exact s1.told z hD0
  rintro i m H2 ⟨rfl, ρ2, S2', done, acc, rest, hi, g2, s2, hD, hnD, rd, hdl, run, hall⟩
  cases hd : ds.drop i with
  | nil =>
    rw [hd] at run
    simp only [compL] at run
    split at run
    · rename_i ok
      cases run
      have hl : ds.length ≤ i := by
        have := congrArg List.length hd
        rw [List.length_drop, List.length_nil] at this
        omega
      rw [List.append_nil] at hall
      subst hall
      refine .inl ⟨(y i ρ2 H2 _ g2 s2 ok).1 hl, k1 (ρ2 ++ [D0]) H2 _ ⟨?_, fun a o e n => ?_, g2.th⟩ (s2.push hD hnD rd) ?_⟩
      · obtain ⟨δ, e, nn⟩ := g2.ext
        refine ⟨δ ++ [D0], by rw [e, List.append_assoc], fun p hp => ?_⟩
        rcases List.mem_append.mp hp with z | z
        · exact nn p z
        · rw [List.mem_singleton.mp z]; exact hD0
      · exact g2.fr a o e n
      · exact .ref (by rw [← s2.len]; simp)
    · cases run
  | cons d rest' =>
    rw [hd] at run
    simp only [compL] at run
    split at run
    · rename_i ok
      have hget : ds[i]? = some d := by
        have := List.getElem?_drop (xs := ds) (i := i) (j := 0)
        rw [hd] at this
        simpa using this.symm
      have hlt : i < ds.length := (List.getElem?_eq_some_iff.mp hget).1
      have hrest : ds.drop (i + 1) = rest' := by
        rw [← List.drop_drop, hd]; rfl
      obtain ⟨go, yl⟩ := (y i ρ2 H2 _ g2 s2 ok).2 d hget
      refine .inr ⟨go, Pv (i + 1), fun H' p => ⟨_, by omega, rfl, p⟩, fun x H3 hy => ?_⟩
      obtain ⟨g3, s3, r3⟩ := yl x H3 hy
      -- the new list stands through any step
      have keepD : ∀ {ρ4 : List Addr} {H4 : Hp}, Go ρ2 H2 ρ4 H4 → H4 D0 = some (.lst acc) ∧ D0 ∉ ρ4 := fun {ρ4 H4} g => by
        refine ⟨g.fr D0 _ hD fun z => hnD z.1, fun z => ?_⟩
        obtain ⟨δ, e, nn⟩ := g.ext
        rw [e] at z
        rcases List.mem_append.mp z with z | z
        · exact hnD z
        · have := nn D0 z
          rw [hD] at this; cases this
      split at run
      · cases run
      rename_i e4 S4 q4
      have E3 : ER ρ2 H3 (N.wipe e own) (L2.wipe σ own) := ((E1.go g2).wipe own).go g3
      refine ⟨ρ2, N.wipe e own, S2', d, e4, S4, E3, s3, r3, q4, fun ρ5 H5 σ5 g5 s5 E5 o5 => ⟨wipe_eq o5 hsl, ?_⟩⟩
      have g25 := g3.trans g5
      split at run
      · cases run
      · -- the test says no
        rename_i S6 q6
        simp only [thenT] at q6
        split at q6
        case h_2 => cases q6
        rename_i d6 S7 q7
        obtain ⟨b', q8, q9⟩ := Option.map_eq_some_iff.mp q6
        cases q9
        refine ⟨ρ5, e4, S4, d6, _, false, E5, s5, q7, q8, fun ρ8 H8 g8 s8 => ?_⟩
        have g28 := g25.trans g8
        obtain ⟨hD8, hn8⟩ := keepD g28
        exact ⟨ρ8, _, done, acc, rest, hlt, g2.trans g28, s8, hD8, hn8, rd.go g28, by omega, by rw [hrest]; exact run, hall⟩
      · rename_i S6 q6
        simp only [thenT] at q6
        split at q6
        case h_2 => cases q6
        rename_i d6 S7 q7
        obtain ⟨b', q8, q9⟩ := Option.map_eq_some_iff.mp q6
        cases q9
        split at run
        · cases run
        rename_i yv S9 q9
        split at run
        · cases run
        rename_i ys S10 q10
        cases run
        refine ⟨ρ5, e4, S4, d6, _, true, E5, s5, q7, q8, fun ρ8 H8 g8 s8 => ⟨ρ8, e4, S6, yv, S9, E5.go g8, s8, q9, fun ρ9 H9 w g9 s9 r9 => ?_⟩⟩
        have g29 := (g25.trans g8).trans g9
        obtain ⟨hD9, hn9⟩ := keepD g29
        have racc := rd.go g29
        refine ⟨acc, hD9, ?_, ρ9, S9, done ++ [yv], acc ++ [w], ys, hlt, ?_, s9.off hD9 hn9, upd_same, hn9, ?_, ?_, by rw [hrest]; exact q10, ?_⟩
        · rw [← racc.len, sizeLine_eq]
          have : (line : Nat) = 16777216 := rfl
          omega
        · have gg := g2.trans g29
          refine ⟨gg.ext, fun a o e n => ?_, fun a e => ?_⟩
          · rw [upd_ne (show a ≠ D0 from fun z => by rw [z, hD0] at e; cases e)]
            exact gg.fr a o e n
          · rw [upd_ne (show a ≠ D0 from fun z => e (by rw [z]; exact hD0))]
            exact gg.th a e
        · exact VRs.tups (upd_tups hD9) (racc.app (.cons r9 .nil))
        · rw [List.length_append, List.length_singleton]; omega
        · rw [List.append_assoc]; exact hall
    · cases run
/-- a list comprehension with one for, one test (or none) -/
theorem se_comp {t it c elt : Ex} {own : List (Str × Nat)} {Elt Tg Iter : Expr} {ifs : List Expr} {scope : Scope} {pos : Pos} (hc : X.calm = true) (hN : X.N.Nodup) (hi : SI X Tg Iter (evalIt it)) (ok : BlkOk X.N X.env.scope scope own)
    (hg : ∀ (s : Shared) (H : Hp) (C : Addr) (cl : List (Str × Addr)) (fp : List Addr), SG (X.blk s H scope (compEnvC scope cl C X.env) fp) Tg t)
    (ht : ∀ (s : Shared) (H : Hp) (C : Addr) (cl : List (Str × Addr)) (fp : List Addr), PTs (X.blk s H scope (compEnvC scope cl C X.env) fp) ifs (TTv X.K (evalE c)))
    (he : ∀ (s : Shared) (H : Hp) (C : Addr) (cl : List (Str × Addr)) (fp : List Addr), SE (X.blk s H scope (compEnvC scope cl C X.env) fp) Elt (evalE elt))
    (hs : ∀ x, foldedSetIterable Iter X.env x = pure x) (hsl : ∀ j ∈ slots t, j ∈ own.map (·.2)) : SE X (.ListComp Elt [⟨Tg, Iter, ifs, 0⟩] scope pos) (evalE (.comp elt t it c (own.map (·.2)))) :=
  PE.imp (pe_lc (g := TGv X.K (slots t) (bindT t)) (tt := TTv X.K (evalE c)) (te := TEv X.K (evalE elt)) hc hN hi ok hg ht he hs) fun σ H Q h => lc_read hsl h
theorem ss_setLc {i : Nat} {nm : Str} {py : Pos} {t it c elt : Ex} {own : List (Str × Nat)} {Elt Tg Iter : Expr} {ifs : List Expr} {scope : Scope} {pos spos : Pos} (hc : X.calm = true) (hN : X.N.Nodup) (hy : X.N[i]? = some nm) (hyl : X.env.scope.names.lookup nm = some .local)
    (hsw : swapsWith (.ListComp Elt [⟨Tg, Iter, ifs, 0⟩] scope pos) (some (.Name nm py)) spos.line X.env = pure true) (hi : SI X Tg Iter (evalIt it)) (ok : BlkOk X.N X.env.scope scope own)
    (hg : ∀ (s : Shared) (H : Hp) (C : Addr) (cl : List (Str × Addr)) (fp : List Addr), SG (X.blk s H scope (compEnvC scope cl C X.env) fp) Tg t)
    (ht : ∀ (s : Shared) (H : Hp) (C : Addr) (cl : List (Str × Addr)) (fp : List Addr), PTs (X.blk s H scope (compEnvC scope cl C X.env) fp) ifs (TTv X.K (evalE c)))
    (he : ∀ (s : Shared) (H : Hp) (C : Addr) (cl : List (Str × Addr)) (fp : List Addr), SE (X.blk s H scope (compEnvC scope cl C X.env) fp) Elt (evalE elt))
    (hs : ∀ x, foldedSetIterable Iter X.env x = pure x) (hsl : ∀ j ∈ slots t, j ∈ own.map (·.2)) : SS X (.Assign [.Name nm py] (.ListComp Elt [⟨Tg, Iter, ifs, 0⟩] scope pos) spos) (execS (.asg (.tgN i) (.comp elt t it c (own.map (·.2))))) :=
  PS.imp (ps_setLc (g := TGv X.K (slots t) (bindT t)) (tt := TTv X.K (evalE c)) (te := TEv X.K (evalE elt)) hc hN hy hyl hsw hi ok hg ht he hs) fun De σ H q => lc_read hsl (by
    obtain ⟨ρ, e, S, f, e', S', h1, h2, h3, h4⟩ := q
    simp only [execS, bindT] at h3
    split at h3
    · cases h3
    rename_i d S1 e1
    cases h3
    refine ⟨ρ, e, S, d, _, h1, h2, e1, fun ρ1 H1 v g s r => ?_⟩
    exact h4 ρ1 H1 g s _ ((h1.go g).set r))
end
end N
set_option autoImplicit false
set_option Elab.async false
set_option linter.all false
set_option maxRecDepth 100000
set_option maxHeartbeats 4000000
namespace N
open PySem L2 PySem.Spec PyProof.Rows
section
variable {X : Cx} {K : PySem.W.Frag} {ρ ρ' : List Addr} {H H' : Hp} {S S' : Sto} {d : D} {v : V} {e : Env} {σ : L2.St} {Q : VK}
def rM (K : PySem.W.Frag) (g : Sto → D → List D → RE) : V → List V → Hp → VK → Prop := fun x xs H Q => ∃ ρ S dx ds d S', SR K ρ H S ∧ VR ρ H dx x ∧ VRs ρ H ds xs ∧ g S dx ds = some (d, S') ∧ Fin K ρ H d S' Q
/-- a list of the store is written -/
theorem Fin.wr {n : Nat} {a : Addr} {xs ys : List D} {vs ws : List V} (k : Fin K ρ H d (S.set n (.lst ys)) Q) (s : SR K ρ H S) (h1 : S[n]? = some (.lst xs)) (h2 : ρ[n]? = some a) (e : H a = some (.lst vs)) (r : VRs ρ H ys ws) (rv : VR ρ H d v) : Q v (upd H a (.lst ws)) := by
  have g : Go ρ H ρ (upd H a (.lst ws)) := Go.write (List.mem_of_getElem? h2) e trivial
  exact k ρ _ v g (s.write h1 h2 rfl rfl ⟨ws, upd_same, r.go g⟩) (rv.go g)
theorem VRs.zero' {xs : List V} (r : VRs ρ H [] xs) : xs = [] := by cases r; rfl
theorem mt_app : MtR X "list.append" (rM X.K appM) := by
  intro pins s σ H x xs v us Q I rx rxs h
  obtain ⟨ρ, S, dx, ds, d, S', hS, r1, rs, hr, k⟩ := h
  unfold appM at hr
  split at hr
  · rename_i n y
    split at hr
    · rename_i zs e1
      split at hr
      · rename_i hl
        have hl := of_decide_eq_true hl
        cases hr
        cases r1 with
        | ref ea =>
          obtain ⟨w, rfl, rw'⟩ := rs.one'
          obtain ⟨vs, q, rr⟩ := hS.lst e1 ea
          exact mt_append pins s σ H _ _ v us Q I rx rxs ⟨_, vs, w, rfl, rfl, q, by rw [← rr.len, sizeLine_eq]; exact hl, k.wr hS e1 ea q (rr.app (.cons rw' .nil)) .non⟩
      · cases hr
    · cases hr
  · cases hr
theorem mt_ext : MtR X "list.extend" (rM X.K extM) := by
  intro pins s σ H x xs v us Q I rx rxs h
  obtain ⟨ρ, S, dx, ds, d, S', hS, r1, rs, hr, k⟩ := h
  unfold extM at hr
  split at hr
  · rename_i n m
    split at hr
    · rename_i zs ys e1 e2
      split at hr
      · rename_i hl
        have hl := of_decide_eq_true hl
        cases hr
        cases r1 with
        | ref ea =>
          obtain ⟨w, rfl, rw'⟩ := rs.one'
          cases rw' with
          | ref eb =>
            obtain ⟨vs, q, rr⟩ := hS.lst e1 ea
            obtain ⟨ws, q2, rr2⟩ := hS.lst e2 eb
            exact mt_extend pins s σ H _ _ v us Q I rx rxs ⟨_, _, vs, ws, rfl, rfl, q, q2, by rw [← rr.len, ← rr2.len, sizeLine_eq]; exact hl, k.wr hS e1 ea q (rr.app rr2) .non⟩
      · cases hr
    · cases hr
  · cases hr
theorem mt_ins : MtR X "list.insert" (rM X.K insM) := by
  intro pins s σ H x xs v us Q I rx rxs h
  obtain ⟨ρ, S, dx, ds, d, S', hS, r1, rs, hr, k⟩ := h
  unfold insM at hr
  split at hr
  · rename_i n i y
    split at hr
    · rename_i zs e1
      split at hr
      · rename_i hl
        simp only [Bool.and_eq_true, decide_eq_true_eq] at hl
        cases hr
        cases r1 with
        | ref ea =>
          obtain ⟨w1, w, rfl, rw1, rw'⟩ := rs.two'
          cases rw1
          obtain ⟨vs, q, rr⟩ := hS.lst e1 ea
          exact mt_insert pins s σ H _ _ v us Q I rx rxs ⟨_, vs, i, w, rfl, rfl, q, by rw [← rr.len, sizeLine_eq]; exact hl.1, hl.2.1, by omega, k.wr hS e1 ea q (((rr.take _).app (.cons rw' .nil)).app (rr.drop _)) .non⟩
      · cases hr
    · cases hr
  · cases hr
theorem VRs.dropLast : ∀ {xs : List D} {vs : List V}, VRs ρ H xs vs → VRs ρ H xs.dropLast vs.dropLast
  | _, _, .nil => .nil
  | _, _, .cons _ .nil => .nil
  | _, _, .cons r (.cons q t) => .cons r (VRs.dropLast (.cons q t))
theorem VRs.erase : ∀ {xs : List D} {vs : List V} (n : Nat), VRs ρ H xs vs → VRs ρ H (xs.eraseIdx n) (vs.eraseIdx n)
  | _, _, _, .nil => .nil
  | _, _, 0, .cons _ t => t
  | _, _, n + 1, .cons r t => .cons r (VRs.erase n t)
theorem ixN_seqIndex {n : Nat} {i : Int} {j : Nat} (h : N.ixN n i = some j) : seqIndex? i n = some j ∧ j < n ∧ -(n : Int) ≤ i ∧ i < n := L2.ixN_seq (show L2.ixN n i = some j from h)
theorem mt_popN : MtR X "list.pop" (rM X.K popM) := by
  intro pins s σ H x xs v us Q I rx rxs h
  obtain ⟨ρ, S, dx, ds, d, S', hS, r1, rs, hr, k⟩ := h
  unfold popM at hr
  split at hr
  · rename_i n
    split at hr
    · rename_i zs e1
      split at hr
      · rename_i y e2
        cases hr
        cases r1 with
        | ref ea =>
          have := rs.zero'
          subst this
          obtain ⟨vs, q, rr⟩ := hS.lst e1 ea
          rw [List.getLast?_eq_getElem?] at e2
          obtain ⟨w, h1, h2⟩ := rr.get e2
          exact mt_pop pins s σ H _ _ v us Q I rx rxs ⟨_, vs, w, rfl, rfl, q, by rw [← rr.len]; exact h1, k.wr hS e1 ea q rr.dropLast h2⟩
      · cases hr
    · cases hr
  · rename_i n i
    split at hr
    · rename_i zs e1
      split at hr
      · rename_i j e2
        split at hr
        · rename_i y e3
          cases hr
          cases r1 with
          | ref ea =>
            obtain ⟨w1, rfl, rw1⟩ := rs.one'
            cases rw1
            obtain ⟨vs, q, rr⟩ := hS.lst e1 ea
            obtain ⟨h1, h2, h3, h4⟩ := ixN_seqIndex e2
            obtain ⟨w, h5, h6⟩ := rr.get e3
            have hz := (I.lstM q).1
            have hn := line63
            rw [← rr.len] at hz
            exact mt_popAt pins s σ H _ _ v us Q I rx rxs ⟨_, vs, i, j, w, rfl, rfl, q, by omega, by omega, by rw [← rr.len]; exact h1, h5, k.wr hS e1 ea q (rr.erase j) h6⟩
        · cases hr
      · cases hr
    · cases hr
  · cases hr
theorem oR.getD {o : Option D} {r : Option V} {d : D} {v : V} (h : oR ρ H o r) (hd : VR ρ H d v) : VR ρ H (o.getD d) (r.getD v) := by
  cases o <;> cases r <;> first | exact hd | exact h | cases h
theorem mt_getN (hu : X.A.units + 1 < cLine) : MtR X "dict.get" (rM X.K getM) := by
  intro pins s σ H x xs v us Q I rx rxs h
  obtain ⟨ρ, S, dx, ds, d, S', hS, r1, rs, hr, k⟩ := h
  unfold getM at hr
  split at hr
  · rename_i n kk
    split at hr
    · rename_i kvs e1
      split at hr
      · rename_i hk
        cases hr
        cases r1 with
        | ref ea =>
          cases rx
          obtain ⟨w, rfl, rw'⟩ := rs.one'
          obtain ⟨u, rfl, ru⟩ := vals1 rxs
          obtain ⟨H1, r, I1, S1, g, dg, o⟩ := dict_get I hS e1 ea rw' hk
          exact d_get1 hu I1 dg ru fun w' s' I2 r2 => ⟨_, H1, I2, r2, k ρ H1 _ g S1 (o.getD .non)⟩
      · cases hr
    · cases hr
  · rename_i n kk z
    split at hr
    · rename_i kvs e1
      split at hr
      · rename_i hk
        cases hr
        cases r1 with
        | ref ea =>
          cases rx
          obtain ⟨w, w2, rfl, rw', rz⟩ := rs.two'
          obtain ⟨u, u2, rfl, ru, ru2⟩ := vals2 rxs
          obtain ⟨H1, r, I1, S1, g, dg, o⟩ := dict_get I hS e1 ea rw' hk
          exact d_get2 hu I1 dg ru ru2 fun w' s' I2 r2 => ⟨_, H1, I2, r2, k ρ H1 _ g S1 (o.getD (rz.go g))⟩
      · cases hr
    · cases hr
  · cases hr
theorem mt_cnt : MtR X "list.count" (rM X.K cntM) := by
  intro pins s σ H x xs v us Q I rx rxs h
  obtain ⟨ρ, S, dx, ds, d, S', hS, r1, rs, hr, k⟩ := h
  unfold cntM at hr
  split at hr
  · rename_i n i
    split at hr
    · rename_i zs e1
      split at hr
      · rename_i ns e2
        cases hr
        cases r1 with
        | ref ea =>
          obtain ⟨w, rfl, rw'⟩ := rs.one'
          cases rw'
          obtain ⟨vs, q, rr⟩ := hS.lst e1 ea
          rw [ints_app e2] at rr
          have := rr.toInts
          subst this
          exact mt_lcount pins s σ H _ _ v us Q I rx rxs ⟨_, ns, i, rfl, rfl, .of q, k.ret hS (.int _)⟩
      · cases hr
    · cases hr
  · cases hr
/-! #### the calls -/
/-- the type whose method it is -/
def mty : Mth → String
  | .get => "dict"
  | _ => "list"
theorem methT_V {m : Mth} {x : D} (hk : m ≠ .tcount ∧ m ≠ .tindex) (s : SR K ρ H S) (r : VR ρ H x v) (h : methT S m x = true) : tyV K (mty m) v H := by
  unfold methT at h
  split at h
  · rename_i n
    cases r with
    | ref ea =>
      split at h
      · rename_i xs e1
        obtain ⟨vs, q, _⟩ := s.row e1 ea
        cases m <;> first | exact .inl ⟨rfl, vs, q⟩ | cases h
      · rcases of_decide_eq_true h with h | h
        · exact absurd h hk.1
        · exact absurd h hk.2
      · rename_i kvs e1
        cases m <;> first | cases h | skip
        refine .inr (.inr (.inl ⟨rfl, ?_⟩))
        rcases s.at_ n _ _ e1 ea with ⟨ks, e2, _⟩ | ⟨ks, e2, _⟩
        · exact .inl ⟨ks, e2⟩
        · exact .inr ⟨ks, e2⟩
      · cases h
  · cases h
theorem se_meth {m : Mth} {id : String} {name : Str} {g : Sto → D → List D → RE} {O E : Expr} {Es : List Expr} {o y : Ex} {ys : List Ex} {apos cpos : Pos} (hk : m ≠ .tcount ∧ m ≠ .tindex) (hg : ∀ S x ds, methI S m x ds = g S x ds) (pa : PlainAttrs (mty m)) (slot : Slot (mty m) name id) (hty : typeOf (.builtin id) = pure (.type "method_descriptor")) (hm : MtR X id (rM X.K g))
    (ho : SE X O (evalE o)) (ha : SA X (E :: Es) (evalEs (y :: ys))) (hbase : attributeBase O name X.env (eval O X.env) = eval O X.env)
    (hfew : ((backTo cpos (starEach (E :: Es) X.env)).all (fun x => !x.1) && (backToKw cpos (keywordEach [] X.env)).all (fun x => x.1.isSome)
      && decide ((E :: Es).length + ([] : List Keyword).length + (if ([] : List Keyword).isEmpty then 0 else 1) < 30)) = true)
    (hline : (apos.endLine == cpos.line) = true) (hs : starEach (E :: Es) X.env = (false, eval E X.env) :: starEach Es X.env) (hplain : (backTo cpos (starEach Es X.env)).any (·.1) = false) :
    SE X (.Call (.Attribute O name apos) (E :: Es) [] cpos) (evalE (.meth m o (y :: ys))) := PE.imp (pe_bm pa slot hty hm ho ha hbase hfew hline hs hplain) fun σ H Q q => by
  obtain ⟨ρ, e, S, d, S', h1, h2, h3, k⟩ := q
  simp only [evalE] at h3
  split at h3
  · cases h3
  rename_i x S1 e1
  split at h3
  case isFalse => cases h3
  rename_i ht
  split at h3
  · cases h3
  rename_i ds S2 e2
  rw [hg] at h3
  exact ⟨ρ, e, S, x, S1, h1, h2, e1, fun ρ1 H1 v1 g1 s1 r1 => ⟨methT_V hk s1 r1 ht, ρ1, e, S1, ds, S2, h1.go g1, s1, e2, fun ρ2 H2 vs g2 s2 r2 => ⟨ρ2, S2, x, ds, d, S', s2, r1.go g2, r2, h3, k.go (g1.trans g2)⟩⟩⟩
theorem se_meth0 {m : Mth} {id : String} {name : Str} {g : Sto → D → List D → RE} {O : Expr} {o : Ex} {apos cpos : Pos} (hk : m ≠ .tcount ∧ m ≠ .tindex) (hg : ∀ S x ds, methI S m x ds = g S x ds) (pa : PlainAttrs (mty m)) (slot : Slot (mty m) name id) (hty : typeOf (.builtin id) = pure (.type "method_descriptor")) (hm : MtR X id (rM X.K g))
    (ho : SE X O (evalE o)) (hbase : attributeBase O name X.env (eval O X.env) = eval O X.env) (hline : (apos.endLine == cpos.line) = true) :
    SE X (.Call (.Attribute O name apos) [] [] cpos) (evalE (.meth m o [])) := PE.imp (pe_bm0 pa slot hty hm ho hbase hline) fun σ H Q q => by
  obtain ⟨ρ, e, S, d, S', h1, h2, h3, k⟩ := q
  simp only [evalE, evalEs] at h3
  split at h3
  · cases h3
  rename_i x S1 e1
  split at h3
  case isFalse => cases h3
  rename_i ht
  rw [hg] at h3
  exact ⟨ρ, e, S, x, S1, h1, h2, e1, fun ρ1 H1 v1 g1 s1 r1 => ⟨methT_V hk s1 r1 ht, ρ1, S1, x, [], d, S', s1, r1, .nil, h3, k.go g1⟩⟩
end
end N
set_option autoImplicit false
set_option Elab.async false
set_option linter.all false
set_option maxRecDepth 100000
set_option maxHeartbeats 4000000
namespace N
open PySem L2 PySem.Spec PyProof.Rows
/-! ### no stars -/
def noStar : Expr → Bool
  | .Starred _ _ => false
  | _ => true
def noStars : List Expr → Bool
  | [] => true
  | e :: es => noStar e && noStars es
theorem star_cons {e : Expr} {es : List Expr} {env : PySem.Env} (h : noStar e = true) : starEach (e :: es) env = (false, eval e env) :: starEach es env := by
  cases e <;> first | rfl | cases h
theorem star_any {pos : Pos} {env : PySem.Env} : ∀ {es : List Expr}, noStars es = true → (backTo pos (starEach es env)).any (·.1) = false
  | [], _ => rfl
  | e :: es, h => by
    have h := Bool.and_eq_true_iff.mp (show (noStar e && noStars es) = true from h)
    rw [star_cons h.1]
    show (false || (backTo pos (starEach es env)).any (·.1)) = false
    rw [star_any h.2]; rfl
theorem star_all {pos : Pos} {env : PySem.Env} : ∀ {es : List Expr}, noStars es = true → (backTo pos (starEach es env)).all (fun x => !x.1) = true
  | [], _ => rfl
  | e :: es, h => by
    have h := Bool.and_eq_true_iff.mp (show (noStar e && noStars es) = true from h)
    rw [star_cons h.1]
    show (!false && (backTo pos (starEach es env)).all (fun x => !x.1)) = true
    rw [star_all h.2]; rfl
theorem asg_cons {e : Expr} {es : List Expr} {env : PySem.Env} (h : noStar e = true) : assignEach (e :: es) env = (false, assign e env) :: assignEach es env := by
  cases e <;> first | rfl | cases h
theorem asg_len {env : PySem.Env} : ∀ {es : List Expr}, noStars es = true → (assignEach es env).length = es.length ∧ (assignEach es env).findIdx? (·.1) = none
  | [], _ => ⟨rfl, rfl⟩
  | e :: es, h => by
    have h := Bool.and_eq_true_iff.mp (show (noStar e && noStars es) = true from h)
    obtain ⟨h1, h2⟩ := asg_len (env := env) h.2
    rw [asg_cons h.1]
    refine ⟨by rw [List.length_cons, List.length_cons, h1], ?_⟩
    rw [List.findIdx?_cons]
    simp [h2]
section
variable {X : Cx} {K : PySem.W.Frag} {ρ ρ' : List Addr} {H H' : Hp} {S S' : Sto} {d : D} {v : V} {e : Env} {σ : L2.St} {Q : VK} {p pos : Pos}
/-! #### built-ins -/
theorem se_bltF {x : Str} {id : String} {g : Sto → List D → RE} {E : Expr} {Es : List Expr} {ys : List Ex} (hc : CallR X (.builtin id) (rN X.K g)) (hv : bootBuiltins x = some (.builtin id)) (hg : Gl X x) (hm : X.mg x = none) (ha : SA X (E :: Es) (evalEs ys)) (ns : noStars (E :: Es) = true)
    (hn : x ≠ "__name__") (hdb : (x == ("__debug__" : Str)) = false) : SE X (.Call (.Name x p) (E :: Es) [] pos) (fun e S => match evalEs ys e S with
      | none => none
      | some (ds, S1) => g S1 ds) := by
  have h := Bool.and_eq_true_iff.mp (show (noStar E && noStars Es) = true from ns)
  refine PE.imp (pe_callB hc hg hm hv ha hn hdb (star_cons h.1) (star_any h.2)) fun σ H Q q => ?_
  obtain ⟨ρ, e, S, d, S', h1, h2, h3, k⟩ := q
  simp only at h3
  split at h3
  · cases h3
  rename_i ds S1 e1
  exact ⟨ρ, e, S, ds, S1, h1, h2, e1, fun ρ1 H1 vs g1 s1 r1 => ⟨ρ1, S1, ds, d, S', s1, r1, h3, k.go g1⟩⟩
theorem se_bltT {x : Str} {T : String} {g : Sto → List D → RE} {E : Expr} {Es : List Expr} {ys : List Ex} (hc : CallR X (.type T) (rN X.K g)) (hv : bootBuiltins x = some (.type T)) (hg : Gl X x) (hm : X.mg x = none) (ha : SA X (E :: Es) (evalEs ys)) (ns : noStars (E :: Es) = true)
    (hn : x ≠ "__name__") (hdb : (x == ("__debug__" : Str)) = false) : SE X (.Call (.Name x p) (E :: Es) [] pos) (fun e S => match evalEs ys e S with
      | none => none
      | some (ds, S1) => g S1 ds) := by
  have h := Bool.and_eq_true_iff.mp (show (noStar E && noStars Es) = true from ns)
  refine PE.imp (pe_callTy hc hg hm hv ha hn hdb (star_cons h.1) (star_any h.2)) fun σ H Q q => ?_
  obtain ⟨ρ, e, S, d, S', h1, h2, h3, k⟩ := q
  simp only at h3
  split at h3
  · cases h3
  rename_i ds S1 e1
  exact ⟨ρ, e, S, ds, S1, h1, h2, e1, fun ρ1 H1 vs g1 s1 r1 => ⟨ρ1, S1, ds, d, S', s1, r1, h3, k.go g1⟩⟩
/-! isinstance -/
def tyS : Ty → String
  | .int => "int" | .bool => "bool" | .str => "str" | .tuple => "tuple" | .list => "list"
def dTy : D → String
  | .non => "NoneType" | .bl _ => "bool" | .int _ => "int" | .str _ => "str" | .tup _ => "tuple" | _ => "list"
theorem kit5 : (["NoneType", "bool", "int", "str", "tuple", "list"].all fun a => [Ty.int, .bool, .str, .tuple, .list].all fun t => decide (kitB a (tyS t) = some (a == tyS t || (a == "bool" && tyS t == "int")))) = true := by decide +kernel
theorem kit_at {a : String} {t : Ty} (h : a ∈ ["NoneType", "bool", "int", "str", "tuple", "list"]) : kitB a (tyS t) = some (a == tyS t || (a == "bool" && tyS t == "int")) := by
  have h1 := List.all_eq_true.mp kit5 a h
  have h2 := List.all_eq_true.mp h1 t (by cases t <;> simp)
  exact of_decide_eq_true h2
theorem isi_V {x : D} {t : Ty} {b : Bool} (s : SR K ρ H S) (r : VR ρ H x v) (h : isiI S t x = some b) : ∃ a, a ∈ ["NoneType", "bool", "int", "str", "tuple", "list"] ∧ TyX K H v (.type a) ∧ (a == tyS t || (a == "bool" && tyS t == "int")) = b := by
  cases r with
  | non => refine ⟨"NoneType", by simp, .base .non, ?_⟩; cases t <;> cases h <;> rfl
  | bl x => refine ⟨"bool", by simp, .base (.bl x), ?_⟩; cases t <;> cases h <;> rfl
  | int x => refine ⟨"int", by simp, .base (.int x), ?_⟩; cases t <;> cases h <;> rfl
  | str x => refine ⟨"str", by simp, .base (.str _), ?_⟩; cases t <;> cases h <;> rfl
  | rep => cases t <;> cases h
  | tup ea rs => refine ⟨"tuple", by simp, .base (.tup ea), ?_⟩; cases t <;> cases h <;> rfl
  | ref ea =>
    rename_i n a
    have key : ∃ xs, S[n]? = some (.lst xs) ∧ b = decide (t = .list) := by
      cases t <;> simp only [isiI] at h <;> (split at h <;> first | (rename_i xs e1; cases h; exact ⟨xs, e1, rfl⟩) | cases h)
    obtain ⟨xs, e1, rfl⟩ := key
    obtain ⟨vs, q, _⟩ := s.lst e1 ea
    refine ⟨"list", by simp, .base (.lst q), ?_⟩
    cases t <;> rfl
theorem se_isi {t : Ty} {E : Expr} {y : Ex} {p2 : Pos} {T : Str} (hT : bootBuiltins T = some (.type (tyS t))) (hg : Gl X "isinstance") (hm : X.mg "isinstance" = none) (hg2 : Gl X T) (hm2 : X.mg T = none) (hn : T ≠ "__name__") (hdb : (T == ("__debug__" : Str)) = false) (he : SE X E (evalE y)) (ns : noStar E = true) :
    SE X (.Call (.Name "isinstance" p) [E, .Name T p2] [] pos) (evalE (.blt (.isi t) [y])) := by
  have hT2 := pe_bltn (pos := p2) hg2 hm2 hT (v := .ty (tyS t)) rfl hn hdb
  refine PE.imp (pe_callB call_isi hg hm PyProof.Rows.boot_isinstance (pa_cons he (pa_cons hT2 pa_nil rfl) (star_cons ns)) (by decide) (by decide) (star_cons ns) rfl) fun σ H Q q => ?_
  obtain ⟨ρ, e, S, d, S', h1, h2, h3, k⟩ := q
  simp only [evalE, evalEs] at h3
  split at h3
  · cases h3
  rename_i ds S1 e0
  split at e0
  · cases e0
  rename_i d1 S2 e1
  cases e0
  simp only [bltI, isiB] at h3
  split at h3
  · rename_i b e2
    cases h3
    refine ⟨ρ, e, S, d1, _, h1, h2, e1, fun ρ1 H1 v1 g1 s1 r1 => ?_⟩
    obtain ⟨a, ha, ty, eb⟩ := isi_V s1 r1 e2
    exact ⟨v1, .ty (tyS t), .type a, .type (tyS t), b, rfl, .ty _, ty, kit_ty (by rw [kit_at ha, eb]), k ρ1 H1 _ g1 s1 (.bl b)⟩
  · cases h3
/-! ranges laid -/
theorem rgV_R (i j : Int) : VRs ρ H (rngV i j 1) (rgV i j) := by
  rw [rngV_up]
  have : (List.range (j - i).toNat).map (fun k => D.int (i + (k : Nat))) = ((List.range (j - i).toNat).map fun k => i + ((k : Nat) : Int)).map .int := by rw [List.map_map]; rfl
  rw [this]
  have e2 : rgV i j = ((List.range (j - i).toNat).map fun k => i + ((k : Nat) : Int)).map V.int := by unfold rgV; rw [List.map_map]; rfl
  rw [e2]
  exact VRs.ofInts _
theorem rg_read1 {y : Ex} {xs : List D} (h : (match evalEs [y] e S with
    | none => none
    | some (ds, S1) => match rngI ds with
      | none => none
      | some xs => some (xs, S1)) = some (xs, S')) : ∃ i, evalE y e S = some (.int i, S') ∧ (-1000000000 ≤ i ∧ i ≤ line) ∧ xs = rngV 0 i 1 := by
  split at h
  · cases h
  rename_i ds S1 e1
  split at h
  · cases h
  rename_i zs e2
  cases h
  simp only [evalEs] at e1
  split at e1
  · cases e1
  rename_i d1 S2 e3
  cases e1
  rcases rng_args e2 with ⟨i, h⟩ | ⟨i, j, h⟩ | ⟨i, j, c, h⟩
  · cases h
    obtain ⟨b, rfl⟩ := rng1 e2
    exact ⟨i, e3, b, rfl⟩
  · cases h
  · cases h
theorem rg_read2 {y z : Ex} {xs : List D} (h : (match evalEs [y, z] e S with
    | none => none
    | some (ds, S1) => match rngI ds with
      | none => none
      | some xs => some (xs, S1)) = some (xs, S')) : ∃ i j S1, evalE y e S = some (.int i, S1) ∧ evalE z e S1 = some (.int j, S') ∧ (-1000000000 ≤ i ∧ i ≤ 1000000000 ∧ -1000000000 ≤ j ∧ j ≤ 1000000000 ∧ j - i ≤ line) ∧ xs = rngV i j 1 := by
  split at h
  · cases h
  rename_i ds S1 e1
  split at h
  · cases h
  rename_i zs e2
  cases h
  simp only [evalEs] at e1
  split at e1
  · cases e1
  rename_i d1 S2 e3
  split at e1
  · cases e1
  rename_i ds' S3 e4
  cases e1
  split at e4
  · cases e4
  rename_i d2 S4 e5
  cases e4
  rcases rng_args e2 with ⟨i, h⟩ | ⟨i, j, h⟩ | ⟨i, j, c, h⟩
  · cases h
  · cases h
    obtain ⟨b, rfl⟩ := rng2 e2
    exact ⟨i, j, _, e3, e5, b, rfl⟩
  · cases h
theorem rngT_read {es : List Ex} (h : evalE (.rngT es) e S = some (d, S')) : ∃ xs, d = .tup xs ∧ (match evalEs es e S with
    | none => none
    | some (ds, S1) => match rngI ds with
      | none => none
      | some xs => some (xs, S1)) = some (xs, S') := by
  simp only [evalE] at h
  split at h
  · cases h
  rename_i ds S1 e1
  split at h
  · cases h
  rename_i zs e2
  cases h
  exact ⟨zs, rfl, by first | (rw [e1]; simp [e2]) | simp [e1, e2] | rfl⟩
theorem rngL_read {es : List Ex} (h : evalE (.rngL es) e S = some (d, S')) : ∃ xs S1, new S1 (.lst xs) = some (d, S') ∧ (match evalEs es e S with
    | none => none
    | some (ds, S1) => match rngI ds with
      | none => none
      | some xs => some (xs, S1)) = some (xs, S1) := by
  simp only [evalE] at h
  split at h
  · cases h
  rename_i ds S1 e1
  split at h
  · cases h
  rename_i zs e2
  exact ⟨zs, S1, h, by first | (rw [e1]; simp [e2]) | simp [e1, e2] | rfl⟩
theorem rgOk1 {i : Int} (b : -1000000000 ≤ i ∧ i ≤ line) : RgOk 0 i := by
  have : ((line : Nat) : Int) = 16777216 := rfl
  exact ⟨by omega, by omega, by omega, by omega, by omega⟩
theorem rgOk2 {i j : Int} (b : -1000000000 ≤ i ∧ i ≤ 1000000000 ∧ -1000000000 ≤ j ∧ j ≤ 1000000000 ∧ j - i ≤ line) : RgOk i j := by
  have : ((line : Nat) : Int) = 16777216 := rfl
  exact ⟨by omega, by omega, by omega, by omega, by omega⟩
theorem se_rngT1 {E : Expr} {y : Ex} {p2 pos2 : Pos} (hc : X.calm = true) (hg : Gl X "tuple") (hm : X.mg "tuple" = none) (hg2 : Gl X "range") (hm2 : X.mg "range" = none) (he : SE X E (evalE y)) (ns : noStar E = true) : SE X (.Call (.Name "tuple" p) [.Call (.Name "range" p2) [E] [] pos2] [] pos) (evalE (.rngT [y])) :=
  PE.imp (pe_tupRg hc hg hm (prg_1 hg2 hm2 he (star_cons ns)) rfl) fun σ H Q q => by
    obtain ⟨ρ, e, S, d, S', h1, h2, h3, k⟩ := q
    obtain ⟨xs, rfl, h⟩ := rngT_read h3
    obtain ⟨i, e1, b, rfl⟩ := rg_read1 h
    exact ⟨ρ, e, S, .int i, S', h1, h2, e1, fun ρ1 H1 v g s r => by cases r; exact ⟨i, rfl, rgOk1 b, (k.go g).tup s (rgV_R 0 i)⟩⟩
theorem se_rngL1 {E : Expr} {y : Ex} {p2 pos2 : Pos} (hc : X.calm = true) (hg : Gl X "list") (hm : X.mg "list" = none) (hg2 : Gl X "range") (hm2 : X.mg "range" = none) (he : SE X E (evalE y)) (ns : noStar E = true) : SE X (.Call (.Name "list" p) [.Call (.Name "range" p2) [E] [] pos2] [] pos) (evalE (.rngL [y])) :=
  PE.imp (pe_listRg hc hg hm (prg_1 hg2 hm2 he (star_cons ns)) rfl) fun σ H Q q => by
    obtain ⟨ρ, e, S, d, S', h1, h2, h3, k⟩ := q
    obtain ⟨xs, S1, hn, h⟩ := rngL_read h3
    cases hn
    obtain ⟨i, e1, b, rfl⟩ := rg_read1 h
    exact ⟨ρ, e, S, .int i, S1, h1, h2, e1, fun ρ1 H1 v g s r => by cases r; exact ⟨i, rfl, rgOk1 b, (k.go g).lst s (rgV_R 0 i)⟩⟩
theorem se_rngT2 {E E2 : Expr} {y z : Ex} {p2 pos2 : Pos} (hc : X.calm = true) (hg : Gl X "tuple") (hm : X.mg "tuple" = none) (hg2 : Gl X "range") (hm2 : X.mg "range" = none) (he : SE X E (evalE y)) (he2 : SE X E2 (evalE z)) (ns : noStar E = true) (ns2 : noStar E2 = true) : SE X (.Call (.Name "tuple" p) [.Call (.Name "range" p2) [E, E2] [] pos2] [] pos) (evalE (.rngT [y, z])) :=
  PE.imp (pe_tupRg hc hg hm (prg_2 hg2 hm2 he he2 (star_cons ns) (star_cons ns2) (by rw [star_cons ns2]; rfl)) rfl) fun σ H Q q => by
    obtain ⟨ρ, e, S, d, S', h1, h2, h3, k⟩ := q
    obtain ⟨xs, rfl, h⟩ := rngT_read h3
    obtain ⟨i, j, S1, e1, e2, b, rfl⟩ := rg_read2 h
    exact ⟨ρ, e, S, .int i, S1, h1, h2, e1, fun ρ1 H1 v g s r => by cases r; exact ⟨ρ1, e, S1, .int j, S', h1.go g, s, e2, fun ρ2 H2 v2 g2 s2 r2 => by cases r2; exact ⟨i, j, rfl, rfl, rgOk2 b, (k.go (g.trans g2)).tup s2 (rgV_R i j)⟩⟩⟩
theorem se_rngL2 {E E2 : Expr} {y z : Ex} {p2 pos2 : Pos} (hc : X.calm = true) (hg : Gl X "list") (hm : X.mg "list" = none) (hg2 : Gl X "range") (hm2 : X.mg "range" = none) (he : SE X E (evalE y)) (he2 : SE X E2 (evalE z)) (ns : noStar E = true) (ns2 : noStar E2 = true) : SE X (.Call (.Name "list" p) [.Call (.Name "range" p2) [E, E2] [] pos2] [] pos) (evalE (.rngL [y, z])) :=
  PE.imp (pe_listRg hc hg hm (prg_2 hg2 hm2 he he2 (star_cons ns) (star_cons ns2) (by rw [star_cons ns2]; rfl)) rfl) fun σ H Q q => by
    obtain ⟨ρ, e, S, d, S', h1, h2, h3, k⟩ := q
    obtain ⟨xs, S0, hn, h⟩ := rngL_read h3
    cases hn
    obtain ⟨i, j, S1, e1, e2, b, rfl⟩ := rg_read2 h
    exact ⟨ρ, e, S, .int i, S1, h1, h2, e1, fun ρ1 H1 v g s r => by cases r; exact ⟨ρ1, e, S1, .int j, S0, h1.go g, s, e2, fun ρ2 H2 v2 g2 s2 r2 => by cases r2; exact ⟨i, j, rfl, rfl, rgOk2 b, (k.go (g.trans g2)).lst s2 (rgV_R i j)⟩⟩⟩
/-! #### defs of the module -/
theorem se_call {j k : Nat} {x : Str} {xn : List Nat} {f : Fn} {E : Expr} {Es : List Expr} {ys : List Ex} (c : CalG X.prog X.w X.K X.mg X.base k x f) (hr : Room j X.A) (hk : k ≤ j) (gd : X.A.guards = some []) (hg : Gl X x) (ha : SA X (E :: Es) (evalEs ys)) (ns : noStars (E :: Es) = true) (hdb : (x == ("__debug__" : Str)) = false) :
    SE X (.Call (.Name x p) (E :: Es) [] pos) (evalE (.call xn f ys)) := by
  obtain ⟨fa, fd, ps, G, hm, hkp, hlen, hb⟩ := c.ex
  have h := Bool.and_eq_true_iff.mp (show (noStar E && noStars Es) = true from ns)
  refine ⟨fun pins s σ H Q I q => ?_⟩
  obtain ⟨ρ, e, S, d, S', h1, h2, h3, k⟩ := q
  simp only [evalE] at h3
  split at h3
  · cases h3
  rename_i ds S1 e1
  refine wpAny_Call_Name_kw (ld_glob I hg hm ?_ hdb)
  refine PySem.W.callWith_K (h₀ := X.base) I.ok.mod.kin hkp (thn (ha.run pos pins s σ H (fun vs H1 => ∃ ρ1, Go ρ H ρ1 H1 ∧ SR X.K ρ1 H1 S1 ∧ VRs ρ1 H1 ds vs) I ⟨ρ, e, S, ds, S1, h1, h2, e1, fun ρ1 H1 vs g1 s1 r1 => ⟨ρ1, g1, s1, r1⟩⟩) fun us s1 ⟨vs, H1, I1, r, ρ1, g1, s1', rr⟩ => ⟨I1.kIn, ?_⟩) (star_cons h.1) (star_any h.2)
  have hn := callI_len hlen h3
  exact call_own (x := x) G gd hr hk hb I1 r (rF_of s1' rr (by rw [← rr.len]; exact hn) h3 (k.go g1))
theorem se_call0 {j k : Nat} {x : Str} {xn : List Nat} {f : Fn} (c : CalG X.prog X.w X.K X.mg X.base k x f) (hr : Room j X.A) (hk : k ≤ j) (gd : X.A.guards = some []) (hg : Gl X x) (hdb : (x == ("__debug__" : Str)) = false) :
    SE X (.Call (.Name x p) [] [] pos) (evalE (.call xn f [])) := by
  obtain ⟨fa, fd, ps, G, hm, hkp, hlen, hb⟩ := c.ex
  refine ⟨fun pins s σ H Q I q => ?_⟩
  obtain ⟨ρ, e, S, d, S', h1, h2, h3, k⟩ := q
  simp only [evalE, evalEs] at h3
  refine wpAny_Call_Name_kw (ld_glob I hg hm ?_ hdb)
  have hn := callI_len hlen h3
  exact PySem.W.callWith_K0 I.kIn hkp (call_own (x := x) (us := []) (vs := []) G gd hr hk hb I .nil (rF_of h2 .nil hn h3 k))
/-! #### .. by keywords -/
/-- the values of keywords, from the left -/
def SK (X : Cx) (kws : List Keyword) (ys : List Ex) : Prop := PK X kws (TAv X.K (evalEs ys))
theorem PK.imp {kws : List Keyword} {t u : TA} (h : PK X kws t) (i : ∀ σ H Q, u σ H Q → t σ H Q) : PK X kws u := ⟨fun pos pins s σ H Q I q => h.run pos pins s σ H Q I (i σ H Q q)⟩
theorem sk_nil : SK X [] [] := PK.imp pk_nil fun σ H Q q => by
  obtain ⟨ρ, e, S, ds, S', h1, h2, h3, h4⟩ := q
  simp only [evalEs] at h3
  cases h3
  exact h4 ρ H _ .refl h2 .nil
theorem sk_cons {nm : Option Str} {E : Expr} {kp : Pos} {kws : List Keyword} {y : Ex} {ys : List Ex} (ha : SE X E (evalE y)) (hr : SK X kws ys) : SK X (⟨nm, E, kp⟩ :: kws) (y :: ys) := PK.imp (pk_cons ha hr) fun σ H Q q => by
  obtain ⟨ρ, e, S, ds, S', h1, h2, h3, h4⟩ := q
  simp only [evalEs] at h3
  split at h3
  · cases h3
  rename_i d S1 e1
  split at h3
  · cases h3
  rename_i ds' S2 e2
  cases h3
  exact ⟨ρ, e, S, d, S1, h1, h2, e1, fun ρ1 H1 v1 g1 s1 r1 => ⟨ρ1, e, S1, ds', _, h1.go g1, s1, e2, fun ρ2 H2 vs g2 s2 r2 => h4 ρ2 H2 _ (g1.trans g2) s2 (.cons (r1.go g2) r2)⟩⟩
/-- the written names -/
def kwNames : List Keyword → Option (List Str)
  | [] => some []
  | ⟨some n, _, _⟩ :: r => (kwNames r).map (n :: ·)
  | ⟨none, _, _⟩ :: _ => none
theorem kw_all {env : PySem.Env} : ∀ {kws : List Keyword} {ns : List Str}, kwNames kws = some ns → (backToKw pos (keywordEach kws env)).all (·.1.isSome) = true ∧ (backToKw pos (keywordEach kws env)).any (·.1.isNone) = false ∧ (backToKw pos (keywordEach kws env)).filterMap (·.1) = ns
  | [], _, h => by cases h; exact ⟨rfl, rfl, rfl⟩
  | ⟨some n, v, p⟩ :: r, ns, h => by
    obtain ⟨ms, h1, rfl⟩ := Option.map_eq_some_iff.mp (show (kwNames r).map (n :: ·) = some ns from h)
    obtain ⟨a, b, c⟩ := kw_all (env := env) h1
    refine ⟨?_, ?_, ?_⟩
    · show (true && (backToKw pos (keywordEach r env)).all (·.1.isSome)) = true
      rw [a]; rfl
    · show (false || (backToKw pos (keywordEach r env)).any (·.1.isNone)) = false
      rw [b]; rfl
    · show n :: (backToKw pos (keywordEach r env)).filterMap (·.1) = _
      rw [c]
  | ⟨none, _, _⟩ :: _, _, h => by cases h
theorem se_callk {j k : Nat} {x : Str} {xn : List Nat} {xks : List (List Nat)} {ks : List Str} {perm : List Nat} {f : Fn} {kws : List Keyword} {ys : List Ex} (c : CalK X.prog X.w X.K X.mg X.base k x ks perm f) (hr : Room j X.A) (hk : k ≤ j) (gd : X.A.guards = some []) (hg : Gl X x) (ha : SK X kws ys) (hks : kwNames kws = some ks) (hl : ys.length = ks.length) (hdb : (x == ("__debug__" : Str)) = false) :
    SE X (.Call (.Name x p) [] kws pos) (evalE (.callk xn xks f perm ys)) := by
  obtain ⟨fa, fd, ps, G, hm, hkp, hlen, hp1, hp2, hb⟩ := c.ex
  obtain ⟨q1, q2, q3⟩ := kw_all (pos := pos) (env := X.env) hks
  refine ⟨fun pins s σ H Q I q => ?_⟩
  obtain ⟨ρ, e, S, d, S', h1, h2, h3, k⟩ := q
  simp only [evalE] at h3
  split at h3
  · cases h3
  rename_i ds S1 e1
  refine wpAny_Call_Name_kw (ld_glob I hg hm ?_ hdb)
  refine PySem.W.callWith_KW0 (h₀ := X.base) I.ok.mod.kin hkp q1 (thn (ha.run pos pins s σ H (fun vs H1 => ∃ ρ1, Go ρ H ρ1 H1 ∧ SR X.K ρ1 H1 S1 ∧ VRs ρ1 H1 ds vs) I ⟨ρ, e, S, ds, S1, h1, h2, e1, fun ρ1 H1 vs g1 s1 r1 => ⟨ρ1, g1, s1, r1⟩⟩) fun us s1 ⟨vs, H1, I1, r, ρ1, g1, s1', rr⟩ => ⟨I1.kIn, ?_⟩) (by rw [q2]; rfl)
  rw [q3]
  have hul : us.length = ks.length := by rw [← r.length, ← rr.len, evalEs_len e1]; exact hl
  refine call_kw (x := x) G gd hr hk hb hul I1 r (rF_of s1' (vrs_pick perm rr) ?_ h3 (k.go g1))
  rw [pick_len perm vs fun i hi => by rw [r.length, hul]; exact hp2 i hi, hp1]
/-! #### stores of tuples of names, from the right -/
theorem ER.set2 {i j : Nat} {d1 d2 : D} {v1 v2 : V} (h : ER ρ H e σ) (r1 : VR ρ H d1 v1) (r2 : VR ρ H d2 v2) : ER ρ H ((e.set i (some d1)).set j (some d2)) ((σ.set i (some v1)).set j (some v2)) := (h.set r1).set r2
theorem ss_par2 {i j : Nat} {x y : Str} {A B : Expr} {a b : Ex} {px py pt : Pos} {kt k2 pt2} (hc : X.calm = true) (hN : X.N.Nodup) (hi : X.N[i]? = some x) (hj : X.N[j]? = some y) (hij : i ≠ j)
    (hx : X.env.scope.names.lookup x = some .local) (hy : X.env.scope.names.lookup y = some .local) (ha : SA X [A, B] (evalEs [a, b]))
    (hw : swappedStores [.Tuple [.Name x px, .Name y py] kt pt] (.Tuple [A, B] k2 pt2) X.env = pure (some [x, y])) :
    SS X (.Assign [.Tuple [.Name x px, .Name y py] kt pt] (.Tuple [A, B] k2 pt2) pos) (execS (.asg (.tgT [.tgN i, .tgN j]) (.tup [a, b]))) := PS.imp (ps_par hc hN hi hj hij hx hy ha hw rfl) fun De σ H q => by
  obtain ⟨ρ, e, S, f, e', S', h1, h2, h3, k⟩ := q
  simp only [execS, evalE] at h3
  split at h3
  · cases h3
  rename_i d S1 e1
  split at e1
  · cases e1
  rename_i ds S2 e2
  cases e1
  have hl := evalEs_len e2
  obtain ⟨d1, d2, rfl⟩ : ∃ d1 d2, ds = [d1, d2] := by
    cases ds with
    | nil => cases hl
    | cons d1 ds =>
      cases ds with
      | nil => cases hl
      | cons d2 ds =>
        cases ds with
        | nil => exact ⟨d1, d2, rfl⟩
        | cons _ _ => cases hl
  simp only [bindT, itemsI, bindTs] at h3
  cases h3
  refine ⟨ρ, e, S, _, _, h1, h2, e2, fun ρ1 H1 vs g1 s1 r1 => ?_⟩
  obtain ⟨v1, v2, rfl, q1, q2⟩ := r1.two'
  exact ⟨v1, v2, rfl, k ρ1 H1 g1 s1 _ ((h1.go g1).set2 q1 q2)⟩
theorem ss_par3 {i j l : Nat} {x y z : Str} {A B C : Expr} {a b c : Ex} {px py pz pt : Pos} {kt k2 pt2} (hc : X.calm = true) (hN : X.N.Nodup) (hi : X.N[i]? = some x) (hj : X.N[j]? = some y) (hl : X.N[l]? = some z) (hij : i ≠ j) (hil : i ≠ l) (hjl : j ≠ l)
    (hx : X.env.scope.names.lookup x = some .local) (hy : X.env.scope.names.lookup y = some .local) (hz : X.env.scope.names.lookup z = some .local) (ha : SA X [A, B, C] (evalEs [a, b, c]))
    (hw : swappedStores [.Tuple [.Name x px, .Name y py, .Name z pz] kt pt] (.Tuple [A, B, C] k2 pt2) X.env = pure (some [x, y, z])) :
    SS X (.Assign [.Tuple [.Name x px, .Name y py, .Name z pz] kt pt] (.Tuple [A, B, C] k2 pt2) pos) (execS (.asg (.tgT [.tgN i, .tgN j, .tgN l]) (.tup [a, b, c]))) := PS.imp (ps_par3 hc hN hi hj hl hij hil hjl hx hy hz ha hw rfl) fun De σ H q => by
  obtain ⟨ρ, e, S, f, e', S', h1, h2, h3, k⟩ := q
  simp only [execS, evalE] at h3
  split at h3
  · cases h3
  rename_i d S1 e1
  split at e1
  · cases e1
  rename_i ds S2 e2
  cases e1
  have hl := evalEs_len e2
  obtain ⟨d1, d2, d3, rfl⟩ : ∃ d1 d2 d3, ds = [d1, d2, d3] := by
    cases ds with
    | nil => cases hl
    | cons d1 ds =>
      cases ds with
      | nil => cases hl
      | cons d2 ds =>
        cases ds with
        | nil => cases hl
        | cons d3 ds =>
          cases ds with
          | nil => exact ⟨d1, d2, d3, rfl⟩
          | cons _ _ => cases hl
  simp only [bindT, itemsI, bindTs] at h3
  cases h3
  refine ⟨ρ, e, S, _, _, h1, h2, e2, fun ρ1 H1 vs g1 s1 r1 => ?_⟩
  cases r1 with
  | cons q1 r1 =>
    obtain ⟨v2, v3, rfl, q2, q3⟩ := r1.two'
    exact ⟨_, v2, v3, rfl, k ρ1 H1 g1 s1 _ (((h1.go g1).set2 q1 q2).set q3)⟩
end
end N
set_option autoImplicit false
set_option Elab.async false
set_option linter.all false
set_option maxRecDepth 100000
set_option maxHeartbeats 4000000
namespace N
open PySem L2 PySem.Spec PyProof.Rows
/-! ### how many are unlike -/
theorem nub_mem {α : Type} [DecidableEq α] {a : α} : ∀ {xs : List α}, a ∈ nub xs ↔ a ∈ xs
  | [] => by simp [nub]
  | x :: xs => by
    unfold nub
    split
    · rename_i h
      rw [nub_mem, List.mem_cons]
      constructor
      · exact .inr
      · rintro (rfl | q)
        · exact h
        · exact q
    · rw [List.mem_cons, List.mem_cons, nub_mem]
theorem nub_nodup {α : Type} [DecidableEq α] : ∀ xs : List α, (nub xs).Nodup
  | [] => by simp [nub]
  | x :: xs => by
    unfold nub
    split
    · exact nub_nodup xs
    · rename_i h
      exact List.nodup_cons.mpr ⟨fun q => h (nub_mem.mp q), nub_nodup xs⟩
/-- two rows without repeats, of the same things, are as long -/
theorem len_of_mem {α : Type} [DecidableEq α] : ∀ {xs ys : List α}, xs.Nodup → ys.Nodup → (∀ a, a ∈ xs ↔ a ∈ ys) → xs.length = ys.length
  | [], ys, _, _, h => by
    cases ys with
    | nil => rfl
    | cons y ys => exact absurd ((h y).mpr (by simp)) (by simp)
  | x :: xs, ys, hx, hy, h => by
    have hm : x ∈ ys := (h x).mp (by simp)
    obtain ⟨nx, nxs⟩ := List.nodup_cons.mp hx
    have q := len_of_mem (ys := ys.erase x) nxs (hy.erase x) fun a => by
      rw [hy.mem_erase_iff]
      constructor
      · intro ha
        exact ⟨fun z => nx (z ▸ ha), (h a).mp (by simp [ha])⟩
      · rintro ⟨h1, h2⟩
        rcases List.mem_cons.mp ((h a).mpr h2) with z | z
        · exact absurd z h1
        · exact z
    rw [List.length_erase_of_mem hm] at q
    have : 0 < ys.length := List.length_pos_of_mem hm
    rw [List.length_cons, q]
    omega
theorem dedup_step (acc : List Int) (x : Int) (h : acc.Nodup) : (step_dedup acc x).Nodup ∧ ∀ a, a ∈ step_dedup acc x ↔ a ∈ acc ∨ a = x := by
  unfold step_dedup
  split
  · rename_i c
    have hx : x ∈ acc := by
      obtain ⟨y, hy, e⟩ := List.any_eq_true.mp c
      rw [← eq_of_beq e]; exact hy
    exact ⟨h, fun a => ⟨.inl, fun q => q.elim id fun z => z ▸ hx⟩⟩
  · rename_i c
    have hx : x ∉ acc := fun q => c (List.any_eq_true.mpr ⟨x, q, by simp⟩)
    refine ⟨List.nodup_append.mpr ⟨h, by simp, fun a ha b hb => by rw [List.mem_singleton.mp hb]; exact fun z => hx (z ▸ ha)⟩, fun a => by simp⟩
theorem firstMet_ok (ns : List Int) : (firstMet (fun i => ns.getD i 0) ns.length).Nodup ∧ ∀ a, a ∈ firstMet (fun i => ns.getD i 0) ns.length ↔ a ∈ ns := by
  have key : ∀ k, k ≤ ns.length → (firstMet (fun i => ns.getD i 0) k).Nodup ∧ ∀ a, a ∈ firstMet (fun i => ns.getD i 0) k ↔ a ∈ ns.take k := by
    intro k
    induction k with
    | zero => intro _; rw [firstMet_zero]; simp
    | succ k ih =>
      intro hk
      obtain ⟨h1, h2⟩ := ih (by omega)
      rw [firstMet_succ]
      obtain ⟨h3, h4⟩ := dedup_step _ (ns.getD k 0) h1
      refine ⟨h3, fun a => ?_⟩
      rw [h4, h2, List.take_succ, List.mem_append]
      have e : ns[k]? = some (ns.getD k 0) := by rw [List.getD_eq_getElem?_getD, List.getElem?_eq_getElem (by omega)]; rfl
      rw [e]
      simp
  have q := key ns.length (Nat.le_refl _)
  rw [List.take_length] at q
  exact q
section
variable {X : Cx} {K : PySem.W.Frag} {ρ ρ' : List Addr} {H H' : Hp} {S S' : Sto} {d : D} {v : V} {e : Env} {σ : L2.St} {Q : VK} {p pos : Pos}
theorem rows_V : ∀ {xs : List D} {rs : List (List Int)} {vs : List V}, rowsD xs = some rs → VRs ρ H xs vs → ∃ ks : List (Addr × List Int), vs = ks.map (fun p => V.ref p.1) ∧ ks.map (·.2) = rs ∧ ∀ p ∈ ks, H p.1 = some (.tup (p.2.map V.int))
  | [], rs, vs, h, r => by
    cases h
    cases r
    exact ⟨[], rfl, rfl, by simp⟩
  | x :: xs, rs, vs, h, r => by
    cases r with
    | cons r1 t =>
      cases x <;> simp only [rowsD] at h <;> try (cases h; done)
      rename_i ys
      split at h
      · cases h
      · rename_i ns e1
        obtain ⟨rs', h1, rfl⟩ := Option.map_eq_some_iff.mp h
        obtain ⟨ks, q1, q2, q3⟩ := rows_V h1 t
        cases r1 with
        | tup ea rr =>
          rw [ints_app e1] at rr
          have := rr.toInts
          subst this
          refine ⟨(_, ns) :: ks, by rw [q1]; rfl, by rw [List.map_cons, q2], fun p hp => ?_⟩
          rcases List.mem_cons.mp hp with rfl | hp
          · exact ea
          · exact q3 p hp
/-- len(set(a)) -/
theorem se_setlen {A : Expr} {a : Ex} {p2 q : Pos} (hc : X.calm = true) (hu : X.A.units + 65 < cLine) (hg : Gl X "len") (hm : X.mg "len" = none) (hg2 : Gl X "set") (hm2 : X.mg "set" = none) (ha : SE X A (evalE a)) (ns : noStar A = true) :
    SE X (.Call (.Name "len" p) [.Call (.Name "set" p2) [A] [] q] [] pos) (evalE (.setlen a)) := by
  refine ⟨fun pins s σ H Q I h => ?_⟩
  obtain ⟨ρ, e, S, d, S', h1, h2, h3, k⟩ := h
  simp only [evalE] at h3
  split at h3
  · cases h3
  rename_i x S1 e1
  split at h3
  · cases h3
  rename_i n e2
  cases h3
  refine Call_ (ld_blt I hg hm PySem.boot_len ?_)
  refine PyProof.Rows.callWith_builtin1 (PyProof.Rows.args_cons ?_ rfl) rfl rfl
  refine Call_ (ld_blt I hg2 hm2 PyProof.Rows.boot_set ?_)
  refine PyProof.Rows.callWith_type1 (PyProof.Rows.args_cons (thn (ha.run pins s σ H (fun v H1 => ∃ ρ1, Go ρ H ρ1 H1 ∧ SR X.K ρ1 H1 S' ∧ VR ρ1 H1 x v) I ⟨ρ, e, S, x, S', h1, h2, e1, fun ρ1 H1 v g s r => ⟨ρ1, g, s, r⟩⟩) fun v s1 ⟨xv, H1, I1, r1, ρ1, g1, hS, rx⟩ => PyProof.Rows.args_nil ?_) (star_cons ns)) (star_cons ns) rfl
  have k1 := k.go g1
  unfold setlenI at e2
  split at e2
  · cases e2
  rename_i xs e3
  obtain ⟨pa, vs, rfl, rr, c⟩ := items_V hS rx e3
  cases r1
  split at e2
  · rename_i ms e4
    split at e2
    · rename_i hl
      have hl := of_decide_eq_true hl
      cases e2
      rw [ints_app e4] at rr
      have := rr.toInts
      subst this
      rcases c with ⟨m, _, eH⟩ | ⟨_, eH⟩
      · obtain ⟨its, r, pl, hz⟩ := I1.list (.of eH)
        have hlen : its.toArray.size = ms.length := by rw [List.size_toArray, ← r.length, List.length_map]
        refine call_set_list (I1.ok.hd hc) pl.isList (ns := ms) (by simpa using r.ints) (by rw [hlen]; unfold scanBound; omega) fun h' tk hS' hk => ?_
        rw [hlen] at hS'
        obtain ⟨f1, f2⟩ := firstMet_ok ms
        have el : (firstMet (fun i => ms.getD i 0) ms.length).length = (nub ms).length := len_of_mem f1 (nub_nodup ms) fun a => by rw [f2, nub_mem]
        rw [el] at hS'
        refine PyProof.Rows.args_nil ?_
        obtain ⟨o, es, ep, t, ho, hex, hd, _, _, _, hf, hn⟩ := hS'
        have I2 : L2.Inv X pins σ H1 { s1 with heap := h', toks := tk } := I1.kept fun b o e => hk b o (Heap.lt_size e) e
        have hn2 : (nub ms).length ≤ 4000 := by
          rw [← el]
          have := firstMet_length_le (fun i => ms.getD i 0) ms.length
          omega
        exact call_len_set ho hex hd hf (by rw [hn]; omega) ⟨.int (nub ms).length, H1, I2.tok _, ⟨_, by rw [hn]⟩, k1.ret hS (.int _)⟩
      · obtain ⟨its, r, pl, hz⟩ := I1.tuple (.of eH)
        refine call_set_tupI ms (I1.ok.hd hc) pl (by simpa using r.ints) (by unfold scanBound; omega) fun h' tk c' hR hle hk => ?_
        refine PyProof.Rows.args_nil ?_
        obtain ⟨o, es, ep, t, ho, hex, hd, _, nd, mem, _, hf, hn, _, _⟩ := hR
        have el : es.size = (nub ms).length := by
          have := len_of_mem nd (nub_nodup ms) fun a => by
            rw [nub_mem]
            have := mem a
            simp only [decide_eq_true_eq] at this
            exact this.symm
          rw [List.length_map, Array.length_toList] at this
          exact this
        have I2 : L2.Inv X pins σ H1 { s1 with heap := h', toks := tk } := I1.kept hk
        exact call_len_set ho hex hd hf (by omega) ⟨.int (nub ms).length, H1, I2.tok _, ⟨_, by rw [el]⟩, k1.ret hS (.int _)⟩
    · cases e2
  · split at e2
    · split at e2
      · rename_i m _ rs e5
        split at e2
        · rename_i hl
          have hl := of_decide_eq_true hl
          cases e2
          obtain ⟨ks, q1, q2, q3⟩ := rows_V e5 rr
          subst q1
          rcases c with ⟨m, _, eH⟩ | ⟨z, _⟩
          · obtain ⟨its, r, pl, hz⟩ := I1.list (.of eH)
            have hkl : ks.length = rs.length := by rw [← q2, List.length_map]
            refine call_set_tups ks (I1.ok.hd hc) pl.isList (by simpa using refs_of_vals r) (fun p hp => I1.isT (.of (q3 p hp))) (by omega) (by omega) fun h' tk L es ep t R g kp => ?_
            refine PyProof.Rows.args_nil ?_
            obtain ⟨o, ho, hex, hd⟩ := R.ob
            have hsz : es.size = L.length := by
              have := congrArg List.length R.rows
              unfold rowsOf at this
              rw [List.length_map, Array.length_toList] at this
              exact this
            have el : L.length = (nub rs).length := by
              have := len_of_mem R.nd (nub_nodup rs) fun a => by
                rw [nub_mem, ← q2]
                constructor
                · intro h
                  obtain ⟨p, hp, rfl⟩ := List.mem_map.mp h
                  exact List.mem_map.mpr ⟨p, List.mem_of_mem_take (g.sub p hp), rfl⟩
                · intro h
                  obtain ⟨p, hp, rfl⟩ := List.mem_map.mp h
                  exact g.all p (by rw [List.take_length]; exact hp)
              rw [List.length_map] at this
              exact this
            have I2 : L2.Inv X pins σ H1 { s1 with heap := h', toks := tk } := I1.kept kp
            have hfit := SetTR.fits (s := { s1 with heap := h', toks := tk }) R
            have hfew := R.few
            exact call_len_set ho hex hd hfit (by omega) ⟨.int (nub rs).length, H1, I2.tok _, ⟨_, by rw [hsz, el]⟩, k1.ret hS (.int _)⟩
          · cases z
        · cases e2
      · cases e2
    · cases e2
end
end N
set_option autoImplicit false
set_option Elab.async false
set_option linter.all false
set_option maxRecDepth 100000
set_option maxHeartbeats 4000000
/-! enumerate of a tuple -/
namespace PySem
open PySem PyProof.Rows
theorem enumTupMeets (t : Addr) (items : Array Value) :
    Meets (Builtin.«enumerate.__new__» ⟨[.type "enumerate", .ref t], []⟩) (fun _ R s => s.heap.IsTuple t items ∧
      R (.ok (.ret (.ref (s.heap.push { cls := .type "tuple_iterator", data := .fields #[.ref t, .int 0 0] }).objs.size)))
        { s with heap := (s.heap.push { cls := .type "tuple_iterator", data := .fields #[.ref t, .int 0 0] }).push { cls := .type "enumerate", data := .fields #[.none, .bool false, .ref s.heap.objs.size, rawInt 0, .none, .none] } }) :=
  .of_wp fun prog w A R st pre => by
    obtain ⟨hp, g, d, tk, os⟩ := st
    obtain ⟨isT, post⟩ := pre
    have sub := sub_enumerate
    have begin_ : ∀ {A' : Around} {E : Value → Shared → Prop} {Q : Value → Shared → Prop}, Q (.ref hp.objs.size) ⟨hp.push { cls := .type "tuple_iterator", data := .fields #[.ref t, .int 0 0] }, g, d, tk, os⟩ → wpAny (model prog w) A' (pyIter (.ref t)) Q E ⟨hp, g, d, tk, os⟩ :=
      fun q => wpAny_pyIter_tuple (s := ⟨hp, g, d, tk, os⟩) isT q
    wp_walk using begin_
    refine wpAny_stack_any fun _ => wpAny_pure ?_
    split
    · rename_i c _ _ _ _ _
      cases (c == Value.type "enumerate")
      all_goals
        wp_walk using begin_
        exact ⟨_, rfl, post⟩
    · wp_walk using begin_
      exact ⟨_, rfl, post⟩
end PySem
namespace N
open PySem L2 PySem.Spec PyProof.Rows
section
variable {prog : Program} {w : World} {A : Around} {E : Value → Shared → Prop} {s : Shared}
theorem call_enumT {t : Addr} {items : Array Value} {Q : Value → Shared → Prop} (hT : s.heap.IsTuple t items)
    (h : ∀ h', IsEnum h' (s.heap.objs.size + 1) s.heap.objs.size 0 .none → h'.IsTupleIter s.heap.objs.size t 0 → (∀ b o, s.heap.get? b = some o → h'.get? b = some o) → Q (.ref (s.heap.objs.size + 1)) { s with heap := h' }) :
    wpAny (model prog w) A (call (.type "enumerate") [.ref t]) Q E s := by
  refine callType_new F.called_enumerate (by decide) (F.typeCall_enumerate_1 _) (F.newCall_enumerate_1 _) (fun obj => F.args_object_init_2 obj _) F.entry_enumerate_new (enumTupMeets t items) ⟨hT, ?_⟩
  have size1 : (s.heap.push { cls := .type "tuple_iterator", data := .fields #[.ref t, .int 0 0] }).objs.size = s.heap.objs.size + 1 := Heap.size_push ..
  show _ ∧ _
  rw [size1]
  have isE : IsEnum ((s.heap.push { cls := .type "tuple_iterator", data := .fields #[.ref t, .int 0 0] }).push { cls := .type "enumerate", data := .fields #[.none, .bool false, .ref s.heap.objs.size, rawInt 0, .none, .none] }) (s.heap.objs.size + 1) s.heap.objs.size 0 .none := by
    have q := Heap.get?_push_size (s.heap.push { cls := .type "tuple_iterator", data := .fields #[.ref t, .int 0 0] }) (o := { cls := .type "enumerate", data := .fields #[.none, .bool false, .ref s.heap.objs.size, rawInt 0, .none, .none] }) rfl
    rwa [size1] at q
  exact ⟨⟨_, isE, rfl⟩, h _ isE ⟨_, Heap.get?_push_of_some _ (Heap.get?_push_size _ rfl), rfl, rfl⟩ fun b o e => Heap.get?_push_of_some _ (Heap.get?_push_of_some _ e)⟩
end
/-- the tuple at a, each item in a new pair -/
def Iet (K : PySem.W.Frag) (a : Addr) : It :=
  ⟨fun i H => ∃ (xs : List V) (x : V), SqT K H a xs ∧ xs[i]? = some x, fun i H v H' => ∃ T x, v = .ref T ∧ H T = none ∧ H' = upd H T (.tup [.int (i : Nat), x]) ∧ ∀ xs, SqT K H a xs → xs[i]? = some x, fun i H => ∃ xs : List V, SqT K H a xs ∧ xs.length ≤ i⟩
theorem turn_enumT {P : Program} {w : World} {K : PySem.W.Frag} {elts : List Expr} {kk : Nat} {tpos : Pos} (a e it : Addr) :
    Turn P w K (.Tuple elts kk tpos) (Iet K a) [e, it] e (fun i h => (∃ old, IsEnum h e it ((i : Nat) : Int) old) ∧ h.IsTupleIter it a i ∧ e ≠ it) where
  mem := by simp
  obj := fun i h st b hb => by
    obtain ⟨⟨old, he⟩, ⟨o, ho, hc, hd⟩, _⟩ := st
    rcases (show b = e ∨ b = it by simpa using hb) with z | z
    · rw [z]; exact ⟨_, he, fun v q => nomatch q⟩
    · rw [z]; exact ⟨o, ho, fun v q => by rw [hd] at q; cases q⟩
  keep := fun i h h' st k => let ⟨⟨old, he⟩, hi, hne⟩ := st; ⟨⟨old, k e (by simp) _ he⟩, hi.at fun o q => k it (by simp) o q, hne⟩
  item := by
    intro X hP hw hK hc i pins s σ H E I hf st hg
    subst hP hw hK
    obtain ⟨⟨old, he⟩, hit, hne⟩ := st
    obtain ⟨xs, x, hq, hx⟩ := hg
    obtain ⟨its, rv, tp, _⟩ := I.tuple hq
    have hT0 : s.heap.IsTuple a its.toArray := tp
    obtain ⟨u, hu, ru⟩ := rv.get hx
    have elt : e < s.heap.objs.size := Heap.lt_size he
    have ilt : it < s.heap.objs.size := by obtain ⟨_, q, _⟩ := hit; exact Heap.lt_size q
    have hai : a ≠ it := by
      rintro rfl
      obtain ⟨o1, q1, c1, _⟩ := hit
      obtain ⟨o2, q2, c2, _⟩ := hT0
      rw [q1] at q2; cases q2
      rw [c1] at c2
      injection c2 with c3
      exact absurd c3 (by decide)
    have hea : e ≠ a := by
      rintro rfl
      obtain ⟨o2, q2, c2, _⟩ := hT0
      rw [he] at q2; cases q2
      injection c2 with c3
      exact absurd c3 (by decide)
    have Dr := PySem.Draws.tuple (prog := X.prog) (w := X.w) (A := X.A.in1) (I.ok.hd hc) it a hai its.toArray
    refine wpAny_pyNext_enum_itemD Dr he ⟨hit, hT0⟩ (by have := (List.getElem?_eq_some_iff.mp hu).1; simpa using this) hne (by simp [hne, hea]) fun y h' tk hy ho' hst hnew hsz hk => ?_
    have hyu : y = u := by
      have hy : its.toArray[i]? = some y := hy
      simp only [List.getElem?_toArray] at hy
      rw [hu] at hy; exact (Option.some.inj hy).symm
    subst hyu
    refine ⟨_, rfl, wpAny_letOwnedTupleGo_enum (s := { s with heap := h', toks := tk + 1 }) ho' fun h2 he2 sb => ?_⟩
    have hnew2 : h2.get? s.heap.objs.size = some { cls := .type "tuple", data := .seq #[.int i tk, y] } := (sb.2 _ (Nat.ne_of_gt elt)).trans hnew
    have fresh : ObjOk X.prog X.w (upd H s.heap.objs.size (.tup [.int (i : Nat), x])) h2 s.heap.objs.size (.tup [.int (i : Nat), x]) :=
      ⟨by show 2 ≤ sizeLine; decide, [.int i tk, y], .cons ⟨_, rfl⟩ (.cons ru .nil), ⟨_, hnew2, rfl, _, rfl⟩⟩
    have I1 : L2.Inv X pins σ (upd H s.heap.objs.size (.tup [.int (i : Nat), x])) { s with heap := h2, toks := tk + 1 } :=
      I.turnedNew (ch := [e, it]) (fun b ob hb q => (sb.2 b (fun z => hb (by simp [z]))).trans (hk b ob (fun z => hb (by simp [z])) (fun z => hb (by simp [z])) q)) hf (Nat.le_refl _) fresh
    refine ⟨.ref s.heap.objs.size, _, I1, rfl, ⟨_, x, rfl, I.hok.fresh (Nat.le_refl _), rfl, fun ys hy' => by rw [I.tuple_inj hy' hq]; exact hx⟩, ⟨⟨y, ?_⟩, hst.1.at fun o q => (sb.2 it (Ne.symm hne)).trans q, hne⟩, fun b hb => ?_⟩
    · rw [show ((i + 1 : Nat) : Int) = (i : Int) + 1 by omega]; exact he2
    · have hb' : b < s.heap.objs.size := by
        rcases (show b = e ∨ b = it by simpa using hb) with z | z
        · rw [z]; exact elt
        · rw [z]; exact ilt
      rw [upd_ne (Nat.ne_of_lt hb')]
      exact (hf b hb).1
  done := by
    intro X hP hw hK hc i pins s σ H E I hf st hg
    subst hP hw hK
    obtain ⟨⟨old, he⟩, hit, hne⟩ := st
    obtain ⟨xs, hq, hx⟩ := hg
    obtain ⟨its, rv, tp, _⟩ := I.tuple hq
    have hT0 : s.heap.IsTuple a its.toArray := tp
    obtain ⟨f0, f1, f2, f3, f4, f5⟩ := hf it (by simp)
    have hT : s.TypeIs (.ref e) "enumerate" := ⟨_, he, rfl⟩
    unfold pyNext
    refine wpAny_bind (wpAny_attempt (wpAny_callSpecial?_slot (name := Str.ofString "__next__") hT F.slot_enumerate_next (wpAny_call_entry F.slot_enumerate_next hT F.entry_enumerate_next ?_ (F.args_enumerate_next_1 _))))
    show wpAny _ _ (field (.ref e) 2 >>= _) _ _ _
    refine wpAny_bind (wpAny_field he rfl (x := .ref it) rfl ?_)
    refine wpAny_bind (wpAny_nextOf_tuple_end (I.ok.hd hc) hit hT0 (by have := rv.length; simp; omega) fun h' x he' hx' => ?_)
    obtain ⟨o, ho, hcl⟩ := hx'
    refine wpAny_bind (wpAny_isInstance (T := "StopIteration") (b := true) ⟨o, ho, hcl⟩ isSubtype_stop ?_)
    exact wpAny_pure ⟨rfl, I.turned (t' := s.toks) (fun b o hb q => he' b o hb q) f0 f1 f3 f4 f5⟩
  self := fun A i s Q E st h => let ⟨⟨_, he⟩, _⟩ := st; wpAny_pyIter_enum he h
section
variable {X : Cx}
theorem yields_enumT {K : PySem.W.Frag} {ρ0 : List Addr} {H0 : Hp} {a : Addr} {ds : List D} {vs : List V} (ea : H0 a = some (.tup vs)) (rs : VRs ρ0 H0 ds vs) : Yields K (Iet K a) ρ0 H0 (enumV ds) [] := by
  intro i ρ H S gg s ok
  have q := SqT.of (K := K) (gg.tup ea)
  have rs := rs.go gg
  refine ⟨fun hl => ⟨vs, q, by rw [← rs.len]; simpa [enumV] using hl⟩, fun d hd => ?_⟩
  unfold enumV at hd
  rw [List.getElem?_map, List.getElem?_zipIdx] at hd
  obtain ⟨p, hp, rfl⟩ := Option.map_eq_some_iff.mp hd
  obtain ⟨d1, h1, rfl⟩ := Option.map_eq_some_iff.mp hp
  obtain ⟨v, e1, r⟩ := rs.get h1
  refine ⟨⟨vs, v, q, e1⟩, fun x H' y => ?_⟩
  obtain ⟨T', z, rfl, hT, rfl, y⟩ := y
  have := y vs q
  rw [e1] at this
  cases this
  rw [Nat.zero_add]
  exact laid_pair s hT (.int _) r
theorem si_enum {E : Expr} {x : Ex} {elts : List Expr} {kk : Nat} {p pos tpos : Pos} (hg : Gl X "enumerate") (hm : X.mg "enumerate" = none) (he : SE X E (evalE x)) (hs : starEach [E] X.env = (false, eval E X.env) :: starEach [] X.env) :
    SI X (.Tuple elts kk tpos) (.Call (.Name "enumerate" p) [E] [] pos) (evalIt (.enum x)) := by
  refine ⟨fun pins s σ H R I h => ?_⟩
  obtain ⟨ρ, e, S, ds, g, S', h1, h2, h3, k⟩ := h
  simp only [evalIt] at h3
  split at h3
  · cases h3
  rename_i d S1 e1
  split at h3
  · cases h3
  rename_i xs g' e2
  cases h3
  unfold enumI at e2
  split at e2
  · rename_i ys
    cases e2
    refine Call_ (ld_blt I hg hm boot_enumerate (PyProof.Rows.callWith_type1 (PyProof.Rows.args_cons (thn (he.run pins s σ H (fun v H1 => ∃ ρ1, Go ρ H ρ1 H1 ∧ SR X.K ρ1 H1 S' ∧ VR ρ1 H1 (.tup ys) v) I ⟨ρ, e, S, _, S', h1, h2, e1, fun ρ1 H1 v g s r => ⟨ρ1, g, s, r⟩⟩) fun v s1 ⟨xv, H1, I1, r1, ρ1, g1, hS, rx⟩ => PyProof.Rows.args_nil ?_) hs) hs rfl))
    cases rx with
    | tup ea rr =>
      rename_i a vs
      cases r1
      obtain ⟨its, rv, tp, _⟩ := I1.tuple (.of ea)
      refine call_enumT (show s1.heap.IsTuple a its.toArray from tp) fun h' isE hit hk => wpAny_pyIter_enum isE ?_
      have I2 : L2.Inv X pins σ H1 { s1 with heap := h' } := I1.kept (t' := s1.toks) hk
      refine ⟨s1.heap.objs.size + 1, [s1.heap.objs.size + 1, s1.heap.objs.size], _, _, H1, rfl, I2, turn_enumT a (s1.heap.objs.size + 1) s1.heap.objs.size, ⟨⟨.none, isE⟩, hit, Nat.succ_ne_self _⟩, fun b hb => ?_, k ρ1 H1 _ g1 hS (yields_enumT ea rr)⟩
      have hle : s1.heap.objs.size ≤ b := by
        rcases (show b = s1.heap.objs.size + 1 ∨ b = s1.heap.objs.size by simpa using hb) with z | z
        · rw [z]; exact Nat.le_add_right _ _
        · rw [z]; exact Nat.le_refl _
      exact I1.fpOk hle (I1.hok.fresh hle)
  · exact (si_enumL hg hm he hs).run pins s σ H R I ⟨ρ, e, S, ds, g, S', h1, h2, by simp only [e1, e2], k⟩
end
end N
set_option autoImplicit false
set_option Elab.async false
set_option linter.all false
set_option maxRecDepth 100000
set_option maxHeartbeats 4000000
namespace N
open PySem L2 PySem.Spec PyProof.Rows
/-! ### displays of dicts -/
/-- the texts of a display, key and value by turns -/
def inter : List (Option Expr) → List Expr → Option (List Expr)
  | [], [] => some []
  | some k :: ks, v :: vs => (inter ks vs).map fun r => k :: v :: r
  | _, _ => none
section
variable {X : Cx} {pos : Pos} {K : PySem.W.Frag}
def tPn (K : PySem.W.Frag) : List Ex → List (TE × TE)
  | k :: v :: r => (TEv K (evalE k), TEv K (evalE v)) :: tPn K r
  | _ => []
theorem inter_all : ∀ {ks : List (Option Expr)} {vs : List Expr} {Es : List Expr}, inter ks vs = some Es → ks.all (·.isSome) = true ∧ ks.length = vs.length
  | [], [], _, _ => ⟨rfl, rfl⟩
  | [], _ :: _, _, h => by simp [inter] at h
  | none :: _, _, _, h => by simp [inter] at h
  | some _ :: _, [], _, h => by simp [inter] at h
  | some k :: ks, v :: vs, _, h => by
    simp only [inter] at h
    cases q : inter ks vs with
    | none => rw [q] at h; cases h
    | some r =>
      obtain ⟨h1, h2⟩ := inter_all q
      exact ⟨by simpa using h1, by simp [h2]⟩
theorem pps_all : ∀ {ks : List (Option Expr)} {vs : List Expr} {Es : List Expr} {xs : List Ex}, inter ks vs = some Es → All2 (Is X) xs Es → PPs X pos ks vs (tPn X.K xs)
  | [], [], _, _, h, r => by
    simp only [inter] at h
    cases h
    cases r
    exact pps_nil
  | [], _ :: _, _, _, h, _ => by simp [inter] at h
  | none :: _, _, _, _, h, _ => by simp [inter] at h
  | some _ :: _, [], _, _, h, _ => by simp [inter] at h
  | some k :: ks, v :: vs, _, _, h, r => by
    simp only [inter] at h
    cases q : inter ks vs with
    | none => rw [q] at h; cases h
    | some Es =>
      rw [q] at h
      cases h
      cases r with
      | cons a r =>
        cases r with
        | cons b r => exact pps_cons a.v b.v (pps_all q r)
/-- the pairs, as they stand -/
inductive PrR (ρ : List Addr) (H : Hp) : List (D × D) → List (V × V) → Prop
  | nil : PrR ρ H [] []
  | cons {p : D × D} {q : V × V} {ps : List (D × D)} {qs : List (V × V)} : VR ρ H p.1 q.1 → VR ρ H p.2 q.2 → PrR ρ H ps qs → PrR ρ H (p :: ps) (q :: qs)
theorem tPn_run {σ : L2.St} : ∀ {xs : List Ex} {ρ : List Addr} {H : Hp} {e : Env} {S S' : Sto} {ds : List D} {ps : List (D × D)} {Q : List (V × V) → Hp → Prop}, ER ρ H e σ → SR K ρ H S → evalEs xs e S = some (ds, S') → pairsD ds = some ps →
    (∀ ρ' H' qs, Go ρ H ρ' H' → SR K ρ' H' S' → PrR ρ' H' ps qs → Q qs H') → tPairs (tPn K xs) σ H Q
  | [], ρ, H, e, S, S', ds, ps, Q, hE, hS, h, hp, k => by
    simp only [evalEs] at h
    cases h
    cases hp
    exact k ρ H [] .refl hS .nil
  | [x], ρ, H, e, S, S', ds, ps, Q, hE, hS, h, hp, k => by
    have hl := evalEs_len h
    cases ds with
    | nil => cases hl
    | cons d ds =>
      cases ds with
      | nil => cases hp
      | cons _ _ => cases hl
  | x :: y :: xs, ρ, H, e, S, S', ds, ps, Q, hE, hS, h, hp, k => by
    simp only [evalEs] at h
    split at h
    · cases h
    rename_i d1 S1 e1
    split at h
    · cases h
    rename_i ds1 S2 e2
    cases h
    split at e2
    · cases e2
    rename_i d2 S3 e3
    split at e2
    · cases e2
    rename_i ds2 S4 e4
    cases e2
    simp only [pairsD] at hp
    cases q : pairsD ds2 with
    | none => rw [q] at hp; cases hp
    | some ps2 =>
      rw [q] at hp
      cases hp
      refine ⟨ρ, e, S, d1, S1, hE, hS, e1, fun ρ1 H1 v1 g1 s1 r1 => ⟨ρ1, e, S1, d2, S3, hE.go g1, s1, e3, fun ρ2 H2 v2 g2 s2 r2 => ?_⟩⟩
      refine tPn_run ((hE.go g1).go g2) s2 e4 q fun ρ3 H3 qs g3 s3 r3 => ?_
      exact k ρ3 H3 _ ((g1.trans g2).trans g3) s3 (.cons (r1.go (g2.trans g3)) (r2.go g3) r3)
theorem PrR.keys {ρ : List Addr} {H : Hp} : ∀ {ps : List (D × D)} {qs : List (V × V)}, PrR ρ H ps qs → (ps.all fun p => keyK p.1) = true → ∃ kvs : List (Key × V), qs = kvs.map (fun kv => (kV kv.1, kv.2)) ∧ kR ρ H ps kvs
  | _, _, .nil, _ => ⟨[], rfl, trivial⟩
  | _, _, .cons (p := p) (q := q) r1 r2 t, h => by
    have h := Bool.and_eq_true_iff.mp (by simpa only [List.all_cons] using h)
    obtain ⟨kvs, e, r⟩ := t.keys h.2
    obtain ⟨c, ec⟩ := keyK_kD h.1
    rw [ec] at r1
    have e1 := r1.key
    refine ⟨(c, q.2) :: kvs, ?_, ec, r2, r⟩
    rw [e, List.map_cons, ← e1]
theorem kR.puts {ρ : List Addr} {H : Hp} : ∀ {ps : List (D × D)} {qs : List (Key × V)} {as : List (D × D)} {bs : List (Key × V)}, kR ρ H ps qs → kR ρ H as bs → kR ρ H (dputs as ps) (mergeK bs qs)
  | [], [], _, _, _, r => r
  | [], _ :: _, _, _, h, _ => h.elim
  | _ :: _, [], _, _, h, _ => h.elim
  | p :: ps, q :: qs, as, bs, h, r => by
    show kR ρ H (dputs (dput as p.1 p.2) ps) (mergeK (putK bs q.1 q.2) qs)
    refine kR.puts h.2.2 ?_
    rw [h.1]
    exact r.put q.1 h.2.1
theorem pairs_len : ∀ {ds : List D} {ps : List (D × D)}, pairsD ds = some ps → ds.length = 2 * ps.length
  | [], _, h => by cases h; rfl
  | [_], _, h => by cases h
  | x :: y :: r, _, h => by
    simp only [pairsD] at h
    cases q : pairsD r with
    | none => rw [q] at h; cases h
    | some ps =>
      rw [q] at h
      cases h
      have := pairs_len q
      simp only [List.length_cons]; omega
theorem PrR.len {ρ : List Addr} {H : Hp} : ∀ {ps : List (D × D)} {qs : List (V × V)}, PrR ρ H ps qs → ps.length = qs.length
  | _, _, .nil => rfl
  | _, _, .cons _ _ t => congrArg Nat.succ t.len
theorem inter_len : ∀ {ks : List (Option Expr)} {vs : List Expr} {Es : List Expr}, inter ks vs = some Es → Es.length = 2 * ks.length
  | [], [], _, h => by simp only [inter] at h; cases h; rfl
  | [], _ :: _, _, h => by simp [inter] at h
  | none :: _, _, _, h => by simp [inter] at h
  | some _ :: _, [], _, h => by simp [inter] at h
  | some k :: ks, v :: vs, _, h => by
    simp only [inter] at h
    cases q : inter ks vs with
    | none => rw [q] at h; cases h
    | some r =>
      rw [q] at h
      cases h
      have := inter_len q
      simp only [List.length_cons]; omega
/-- an object that stood apart comes into the store -/
theorem SR.adopt {ρ : List Addr} {H : Hp} {S : Sto} {p : Addr} {u0 u : HO} {o : O} (s : SR K ρ H S) (hp : p ∉ ρ) (e : H p = some u0) (m : Mut (some u0)) (h : OR K (ρ ++ [p]) (upd H p u) p o) : SR K (ρ ++ [p]) (upd H p u) (S ++ [o]) := by
  have g : Go (ρ ++ [p]) H (ρ ++ [p]) (upd H p u) := Go.write (by simp) e m
  have lt : ∀ {n : Nat} {b : Addr}, (ρ ++ [p])[n]? = some b → (n < ρ.length ∧ ρ[n]? = some b) ∨ (n = ρ.length ∧ b = p) := fun {n b} e => by
    by_cases h : n < ρ.length
    · rw [List.getElem?_append_left h] at e; exact .inl ⟨h, e⟩
    · rw [List.getElem?_append_right (by omega)] at e
      have h1 := (List.getElem?_eq_some_iff.mp e).1
      have h2 : n = ρ.length := by simp at h1; omega
      subst h2
      simp at e
      exact .inr ⟨rfl, e.symm⟩
  have lo : ∀ {n : Nat} {w : O}, n < ρ.length → (S ++ [o])[n]? = some w → S[n]? = some w := fun {n w} h e => by
    rw [List.getElem?_append_left (by rw [← s.len]; exact h)] at e; exact e
  have last : ∀ {w : O}, (S ++ [o])[ρ.length]? = some w → w = o := fun {w} e => by
    rw [s.len, List.getElem?_append_right (Nat.le_refl _)] at e; simp at e; exact e.symm
  have mem : ∀ {n : Nat} {b : Addr}, ρ[n]? = some b → b ≠ p := fun {n b} q z => hp (by rw [← z]; exact List.mem_of_getElem? q)
  refine ⟨by simp [s.len], fun n w b h1 h2 => ?_, fun m n b w z h1 h2 h3 h4 l1 l2 => ?_⟩
  · rcases lt h2 with ⟨hn, e⟩ | ⟨hn, e⟩
    · exact (s.at_ n w b (lo hn h1) e).same (fun _ q => by rw [upd_ne (mem e)]; exact q) (fun _ _ r => r.cat.go g) fun _ _ r => VRs.go g r.cat
    · subst e; subst hn
      rw [last h1]
      exact h
  · rcases lt h1 with ⟨x1, e1⟩ | ⟨x1, e1⟩ <;> rcases lt h2 with ⟨x2, e2⟩ | ⟨x2, e2⟩
    · exact s.nd m n b w z e1 e2 (lo x1 h3) (lo x2 h4) l1 l2
    · exact absurd e2 (mem e1)
    · exact absurd e1 (mem e2)
    · rw [x1, x2]
theorem se_dict {ks : List (Option Expr)} {vs : List Expr} {Es : List Expr} {xs : List Ex} (hi : inter ks vs = some Es) (ha : All2 (Is X) xs Es) (h15 : ks.length ≤ 15) : SE X (.Dict ks vs pos) (evalE (.dict xs)) := by
  by_cases h0 : ks = []
  · subst h0
    cases vs with
    | cons _ _ => simp [inter] at hi
    | nil =>
      simp only [inter] at hi
      cases hi
      cases ha
      refine PE.imp pe_dnewK fun σ H Q q p hp => ?_
      obtain ⟨ρ, e, S, d, S', h1, h2, h3, k⟩ := q
      simp only [evalE, evalEs, pairsD] at h3
      rw [if_pos (by simp)] at h3
      cases h3
      exact k.new h2 (fun p hp => .inl ⟨[], upd_same, trivial⟩) p hp
  · obtain ⟨hall, hl⟩ := inter_all hi
    refine PE.imp (pe_disp (pps_all hi ha) hall hl h0 h15) fun σ H Q q p hp => ?_
    obtain ⟨ρ, e, S, d, S', h1, h2, h3, k⟩ := q
    simp only [evalE] at h3
    split at h3
    · cases h3
    rename_i ds S1 e1
    split at h3
    · cases h3
    rename_i ps e2
    split at h3
    case isFalse => cases h3
    rename_i c2
    cases h3
    have g0 : Go ρ H ρ (upd H p (.dK [])) := Go.laid hp
    have pn : p ∉ ρ := fun z => h2.told z hp
    refine tPn_run (h1.go g0) (h2.laid hp) e1 e2 fun ρ' H' qs g s r => ?_
    obtain ⟨kvs, eq, rk⟩ := r.keys c2
    have hz : kvs.length ≤ 15 := by
      have z1 := pairs_len e2
      have z2 := evalEs_len e1
      have z3 := ha.len
      have z4 := inter_len hi
      have z5 := r.len
      rw [eq, List.length_map] at z5
      omega
    have hd : H' p = some (.dK []) := g.fr p _ upd_same fun z => pn z.1
    have pn' : p ∉ ρ' := fun z => by
      obtain ⟨δ, ed, nn⟩ := g.ext
      rw [ed] at z
      rcases List.mem_append.mp z with z | z
      · exact pn z
      · have := nn p z
        rw [upd_same] at this; cases this
    refine ⟨hd, kvs, eq, hz, ?_⟩
    have gw : Go (ρ' ++ [p]) H' (ρ' ++ [p]) (upd H' p (.dK (mergeK [] kvs))) := Go.write (by simp) hd trivial
    have gg : Go ρ H (ρ' ++ [p]) (upd H' p (.dK (mergeK [] kvs))) := by
      obtain ⟨δ, ed, nn⟩ := g.ext
      refine ⟨⟨δ ++ [p], by rw [ed, List.append_assoc], fun x hx => ?_⟩, fun a o ea na => ?_, fun a ea => ?_⟩
      · rcases List.mem_append.mp hx with z | z
        · have := nn x z
          by_cases hxp : x = p
          · rw [hxp]; exact hp
          · rw [upd_ne hxp] at this; exact this
        · rw [List.mem_singleton.mp z]; exact hp
      · have ne : a ≠ p := fun z => by rw [z, hp] at ea; cases ea
        rw [upd_ne ne]
        exact g.fr a o (by rw [upd_ne ne]; exact ea) na
      · have ne : a ≠ p := fun z => by rw [z, hp] at ea; exact ea rfl
        rw [upd_ne ne]
        exact g.th a (by rw [upd_ne ne]; exact ea)
    refine k _ _ _ gg (s.adopt pn' hd trivial (.inl ⟨_, upd_same, ?_⟩)) (.ref (by rw [← s.len]; simp))
    exact kR.puts (rk.imp fun _ _ r => r.cat.go gw) trivial
end
end N
set_option autoImplicit false
set_option Elab.async false
set_option linter.all false
set_option maxRecDepth 100000
set_option maxHeartbeats 4000000
namespace N
open PySem L2 PySem.Spec PyProof.Rows
/-! ### tuples known as objects: tuple(xs), count, index -/
section
variable {X : Cx} {K : PySem.W.Frag} {ρ : List Addr} {H : Hp} {S S' : Sto} {d : D} {v : V}
theorem call_ftpN : CallR X (.type "tuple") (rN X.K ftpB) := by
  intro pins s σ H xs us Q I r h
  obtain ⟨ρ, S, ds, d, S', hS, rs, hr, k⟩ := h
  unfold ftpB at hr
  split at hr
  · rename_i n
    split at hr
    · rename_i ys e1
      cases hr
      obtain ⟨w, rfl, rw'⟩ := rs.one'
      cases rw' with
      | ref ea =>
        obtain ⟨vs, q, rr⟩ := hS.lst e1 ea
        obtain ⟨its, rv, hl, hz⟩ := I.list (.of q)
        rw [Vals.ref1 r]
        have hzi : its.length ≤ sizeLine := by rw [← rv.length]; exact hz
        refine call_tuple_list hl.isList (fun h' hk => ?_) (by rw [List.size_toArray]; exact hzi)
        have I1 : L2.Inv X pins σ H { s with heap := h', toks := s.toks } := I.kept fun b o e => hk b o e
        refine ⟨.ref h'.objs.size, upd H h'.objs.size (.frz { cls := .type "tuple", data := .seq its.toArray } (.tup vs)), I1.laid (t' := s.toks) (fun b u e => Heap.get?_push_of_some _ e) (Nat.le_refl _) ⟨Heap.get?_push_size _ rfl, hz, its, rv, IsTup.new _ _⟩, rfl, ?_⟩
        exact k.new hS (fun p hp => ⟨_, vs, upd_same, rfl, rfl, VRs.go (Go.laid hp) rr⟩) _ (I1.hok.fresh (Nat.le_refl _))
    · cases hr
  · cases hr
/-- a tuple that is known as an object -/
def TyF (x : V) (H : Hp) : Prop := ∃ p o vs, x = .ref p ∧ H p = some (.frz o (.tup vs)) ∧ o.cls = .type "tuple" ∧ o.dict = none
theorem tyF_is {pins : List (Addr × Obj)} {σ : L2.St} {s : Shared} {u : Value} (I : L2.Inv X pins σ H s) (r : RelV v u) (ty : TyF v H) : s.TypeIs u "tuple" ∧ ∀ a, u = .ref a → ∃ ob, s.heap.get? a = some ob ∧ ob.dict = none := by
  obtain ⟨p, o, vs, rfl, e, c, dn⟩ := ty
  cases r
  have g := (I.hok p _ e).1
  exact ⟨⟨o, g, c⟩, fun a ea => by cases ea; exact ⟨o, g, dn⟩⟩
variable {o e : Expr} {es : List Expr} {to : TE} {t : TA} {name : Str} {apos cpos : Pos} {id : String} {r : V → List V → Hp → VK → Prop}
theorem pe_bmF (pa : PlainAttrs "tuple") (slot : Slot "tuple" name id) (hty : typeOf (.builtin id) = pure (.type "method_descriptor")) (hm : MtR X id r) (ho : PE X o to) (ha : PA X (e :: es) t) (hbase : attributeBase o name X.env (eval o X.env) = eval o X.env)
    (hfew : ((backTo cpos (starEach (e :: es) X.env)).all (fun x => !x.1) && (backToKw cpos (keywordEach [] X.env)).all (fun x => x.1.isSome)
      && decide ((e :: es).length + ([] : List Keyword).length + (if ([] : List Keyword).isEmpty then 0 else 1) < 30)) = true)
    (hline : (apos.endLine == cpos.line) = true) (hs : starEach (e :: es) X.env = (false, eval e X.env) :: starEach es X.env) (hplain : (backTo cpos (starEach es X.env)).any (·.1) = false) :
    PE X (.Call (.Attribute o name apos) (e :: es) [] cpos) (fun σ H Q => to σ H fun x H1 => TyF x H1 ∧ t σ H1 fun xs H2 => r x xs H2 Q) := ⟨fun pins s σ H Q I h => by
  refine wpAny_Call_method_late hbase hfew hline rfl (thn (ho.run pins s σ H _ I h) fun v s1 ⟨x, H1, I1, r1, ty, q1⟩ => ?_)
  obtain ⟨h1, h2⟩ := tyF_is I1 r1 ty
  refine ⟨"tuple", id, pa, slot, hty, h1, h2, ?_⟩
  have hA := ha.run cpos pins s1 σ H1 _ I1 q1
  rw [hs] at hA ⊢
  refine Calls.callWith_builtin (by show (false || (backTo cpos (starEach es X.env)).any (·.1)) = false; rw [hplain] <;> rfl) (Calls.evalArgs_plain ?_)
  exact thn hA fun us s2 ⟨vs, H2, I2, r2, q2⟩ => hm pins s2 σ H2 x vs v us Q I2 r1 r2 q2⟩
theorem ftp_ints {n : Nat} {xs : List D} {ns : List Int} {pins : List (Addr × Obj)} {σ : L2.St} {s : Shared} {p : Addr} (hS : SR X.K ρ H S) (e1 : S[n]? = some (.ftp xs)) (ea : ρ[n]? = some p) (e2 : intsD xs = some ns) (I : L2.Inv X pins σ H s) : ∃ its, IsTup s.heap p (List.toArray its) ∧ IntsAre its ns ∧ its.length ≤ sizeLine := by
  obtain ⟨ob, vs, q, c, dn, rr⟩ := hS.at_ _ _ _ e1 ea
  rw [ints_app e2] at rr
  have := rr.toInts
  subst this
  obtain ⟨its, rv, ht, hz⟩ := I.tuple (.inl (.inr ⟨ob, q⟩))
  exact ⟨its, ht, ints_of_vals rv, by rw [← rv.length]; exact hz⟩
theorem mt_cntT : MtR X "tuple.count" (rM X.K cntT) := by
  intro pins s σ H x xs v us Q I rx rxs h
  obtain ⟨ρ, S, dx, ds, d, S', hS, r1, rs, hr, k⟩ := h
  unfold cntT at hr
  split at hr
  · rename_i n i
    split at hr
    · rename_i zs e1
      split at hr
      · rename_i ns e2
        cases hr
        cases r1 with
        | ref ea =>
          obtain ⟨w, rfl, rw'⟩ := rs.one'
          cases rw'
          cases rx
          obtain ⟨u, rfl, ru⟩ := rxs.one
          obtain ⟨t, rfl⟩ := ru
          obtain ⟨its, ⟨⟨cls, dd, data, sl⟩, ho, hc, n2, hd⟩, hi, hz⟩ := ftp_ints hS e1 ea e2 I
          simp only at hc hd
          subst hc hd
          refine call_meets PySem.F.slot_tuple_count ⟨_, ho, rfl⟩ PySem.F.entry_tuple_count (PySem.F.args_tuple_count_2 _ _)
            (SeqAt.tuple_countAt _ its.toArray n2 dd sl (.int i t) (eqk i)) ⟨ho, fun y hy => (eqk_gives hi y (by simpa using hy)).at _ _, ?_⟩
          have ec : its.toArray.toList.countP (eqk i) = ns.count i := eqk_count hi
          refine ⟨.int (ns.count i : Nat), H, I.tok _, ⟨s.toks, ?_⟩, k.ret hS (.int _)⟩
          rw [ec]
      · cases hr
    · cases hr
  · cases hr
theorem mt_idxT : MtR X "tuple.index" (rM X.K idxT) := by
  intro pins s σ H x xs v us Q I rx rxs h
  obtain ⟨ρ, S, dx, ds, d, S', hS, r1, rs, hr, k⟩ := h
  unfold idxT at hr
  split at hr
  · rename_i n i
    split at hr
    · rename_i zs e1
      split at hr
      · rename_i ns e2
        split at hr
        case isFalse => cases hr
        rename_i hm
        cases hr
        cases r1 with
        | ref ea =>
          obtain ⟨w, rfl, rw'⟩ := rs.one'
          cases rw'
          cases rx
          obtain ⟨u, rfl, ru⟩ := rxs.one
          obtain ⟨t, rfl⟩ := ru
          obtain ⟨its, ht, hi, hz⟩ := ftp_ints hS e1 ea e2 I
          exact PySem.SeqAt.tuple_index_ints ht hi (of_decide_eq_true hm) ⟨.int (ns.idxOf i : Nat), H, I.tok _, ⟨s.toks, rfl⟩, k.ret hS (.int _)⟩
      · cases hr
    · cases hr
  · cases hr
theorem methT_F {m : Mth} {x : D} (hm : m = .tcount ∨ m = .tindex) (s : SR K ρ H S) (r : VR ρ H x v) (h : methT S m x = true) : TyF v H := by
  unfold methT at h
  split at h
  · rename_i n
    cases r with
    | ref ea =>
      split at h
      · rcases hm with rfl | rfl <;> cases h
      · rename_i e1
        obtain ⟨ob, vs, q, c, dn, _⟩ := s.at_ _ _ _ e1 ea
        exact ⟨_, ob, vs, rfl, q, c, dn⟩
      · rcases hm with rfl | rfl <;> cases h
      · cases h
  · cases h
theorem se_methF {m : Mth} (hmm : m = .tcount ∨ m = .tindex) {g : Sto → D → List D → RE} {O E : Expr} {Es : List Expr} {o y : Ex} {ys : List Ex} (hg : ∀ S x ds, methI S m x ds = g S x ds) (pa : PlainAttrs "tuple") (slot : Slot "tuple" name id) (hty : typeOf (.builtin id) = pure (.type "method_descriptor")) (hm : MtR X id (rM X.K g))
    (ho : SE X O (evalE o)) (ha : SA X (E :: Es) (evalEs (y :: ys))) (hbase : attributeBase O name X.env (eval O X.env) = eval O X.env)
    (hfew : ((backTo cpos (starEach (E :: Es) X.env)).all (fun x => !x.1) && (backToKw cpos (keywordEach [] X.env)).all (fun x => x.1.isSome)
      && decide ((E :: Es).length + ([] : List Keyword).length + (if ([] : List Keyword).isEmpty then 0 else 1) < 30)) = true)
    (hline : (apos.endLine == cpos.line) = true) (hs : starEach (E :: Es) X.env = (false, eval E X.env) :: starEach Es X.env) (hplain : (backTo cpos (starEach Es X.env)).any (·.1) = false) :
    SE X (.Call (.Attribute O name apos) (E :: Es) [] cpos) (evalE (.meth m o (y :: ys))) := PE.imp (pe_bmF pa slot hty hm ho ha hbase hfew hline hs hplain) fun σ H Q q => by
  obtain ⟨ρ, e, S, d, S', h1, h2, h3, k⟩ := q
  simp only [evalE] at h3
  split at h3
  · cases h3
  rename_i x S1 e1
  split at h3
  case isFalse => cases h3
  rename_i ht
  split at h3
  · cases h3
  rename_i ds S2 e2
  rw [hg] at h3
  exact ⟨ρ, e, S, x, S1, h1, h2, e1, fun ρ1 H1 v1 g1 s1 r1 => ⟨methT_F hmm s1 r1 ht, ρ1, e, S1, ds, S2, h1.go g1, s1, e2, fun ρ2 H2 vs g2 s2 r2 => ⟨ρ2, S2, x, ds, d, S', s2, r1.go g2, r2, h3, k.go (g1.trans g2)⟩⟩⟩
end
end N
set_option autoImplicit false
set_option Elab.async false
set_option linter.all false
set_option maxRecDepth 100000
set_option maxHeartbeats 4000000
namespace N
open PySem L2 PySem.Spec PyProof.Rows
/-! ### sorted -/
theorem insI_perm (x : Int) : ∀ ys : List Int, (insI x ys).Perm (x :: ys)
  | [] => .refl _
  | y :: ys => by
    unfold insI
    split
    · exact .refl _
    · exact ((insI_perm x ys).cons y).trans (.swap x y ys)
theorem insI_mem {x a : Int} {ys : List Int} (h : a ∈ insI x ys) : a = x ∨ a ∈ ys := by
  have := (insI_perm x ys).mem_iff.mp h
  simpa using this
theorem insI_sorted (x : Int) : ∀ ys : List Int, ys.Pairwise (· ≤ ·) → (insI x ys).Pairwise (· ≤ ·)
  | [], _ => by simp [insI]
  | y :: ys, h => by
    obtain ⟨h1, h2⟩ := List.pairwise_cons.mp h
    unfold insI
    split
    · rename_i c
      refine List.pairwise_cons.mpr ⟨fun a ha => ?_, h⟩
      rcases List.mem_cons.mp ha with e | ha
      · rw [e]; exact c
      · exact Int.le_trans c (h1 a ha)
    · rename_i c
      refine List.pairwise_cons.mpr ⟨fun a ha => ?_, insI_sorted x ys h2⟩
      rcases insI_mem ha with e | ha
      · rw [e]; omega
      · exact h1 a ha
theorem sortI_perm : ∀ xs : List Int, (sortI xs).Perm xs
  | [] => .refl _
  | x :: xs => (insI_perm x (sortI xs)).trans ((sortI_perm xs).cons x)
theorem sortI_sorted : ∀ xs : List Int, (sortI xs).Pairwise (· ≤ ·)
  | [] => .nil
  | x :: xs => insI_sorted x _ (sortI_sorted xs)
theorem sorted_uniq : ∀ {xs ys : List Int}, xs.Perm ys → xs.Pairwise (· ≤ ·) → ys.Pairwise (· ≤ ·) → xs = ys
  | [], ys, p, _, _ => (List.Perm.nil_eq p)
  | x :: xs, [], p, _, _ => by have := p.length_eq; simp at this
  | x :: xs, y :: ys, p, h1, h2 => by
    obtain ⟨a1, a2⟩ := List.pairwise_cons.mp h1
    obtain ⟨b1, b2⟩ := List.pairwise_cons.mp h2
    have e : x = y := by
      have mx : x ∈ y :: ys := p.mem_iff.mp (by simp)
      have my : y ∈ x :: xs := p.mem_iff.mpr (by simp)
      have h3 : y ≤ x := by
        rcases List.mem_cons.mp mx with q | q
        · omega
        · exact b1 x q
      have h4 : x ≤ y := by
        rcases List.mem_cons.mp my with q | q
        · omega
        · exact a1 y q
      omega
    subst e
    rw [sorted_uniq (List.Perm.cons_inv p) a2 b2]
theorem sortI_eq {xs ys : List Int} (p : ys.Perm xs) (h : ys.Pairwise (· ≤ ·)) : ys = sortI xs := sorted_uniq (p.trans (sortI_perm xs).symm) h (sortI_sorted xs)
end N
set_option autoImplicit false
set_option Elab.async false
set_option linter.all false
set_option maxRecDepth 100000
set_option maxHeartbeats 4000000
namespace N
open PySem L2 PySem.Spec PyProof.Rows PySem.W
section
variable {X : Cx}
theorem each_ints : ∀ {vs : List Value} {ns : List Int}, IntsAre vs ns → EachIs (fun v b => ∃ t, v = Value.int b t) vs ns
  | _, _, .nil => .nil
  | _, _, .cons n t r => .cons ⟨t, rfl⟩ (each_ints r)
theorem ints_each : ∀ {vs : List Value} {ns : List Int}, EachIs (fun v b => ∃ t, v = Value.int b t) vs ns → IntsAre vs ns
  | _, _, .nil => .nil
  | _, _, .cons ⟨t, e⟩ r => by rw [e]; exact .cons _ t (ints_each r)
theorem sort_ints_eq (ns : List Int) : ns.mergeSort (dataLe false PyData.int) = sortI ns := by
  rw [show dataLe false PyData.int = (fun a b : Int => decide (a ≤ b)) from dataLe_int id]
  refine sortI_eq (List.mergeSort_perm _ _) ?_
  have := List.pairwise_mergeSort (le := fun a b : Int => decide (a ≤ b)) (fun a b c h1 h2 => by simp at *; omega) (fun a b => by simp; omega) ns
  exact this.imp fun h => of_decide_eq_true h
/-- sorted(xs), ints -/
theorem srt_ints (hu : X.A.units + 16 < cLine) {pins : List (Addr × Obj)} {σ : L2.St} {H : Hp} {s : Shared} {p : Addr} {ns : List Int} {Q : VK} (I : L2.Inv X pins σ H s) (hp : H p = some (.lst (ns.map V.int)))
    (k : ∀ q, H q = none → Q (.ref q) (upd H q (.lst ((sortI ns).map V.int)))) : wpAny (model X.prog X.w) X.A (call (.builtin "sorted") [.ref p]) (EP X pins σ Q) X.xe s := by
  obtain ⟨its, rv, hl, hz⟩ := I.list (.of hp)
  have hi := ints_of_vals rv
  rw [List.length_map] at hz
  have er : EachIs (fun v b => ∃ as, Reads s.heap v (PyData.int b) as) its ns := (each_ints hi).mono fun v b ⟨t, e⟩ => ⟨[], by rw [e]; exact .int b t⟩
  refine sorted_data (enc := PyData.int) hl.isList (each_ints hi) er (AllAlike.of fun _ _ => by simp [alike]) (Sortable.others fun b => ⟨by simp, by simp⟩) hz (fun b _ => by show X.A.units + 2 + 0 < cLine; omega) fun out ho eo => ?_
  rw [sort_ints_eq] at eo
  obtain ⟨ep, he'⟩ := PyProof.Rows.sortedAll_at s.heap its out.toArray
  have hlen : ((sortI ns).map V.int).length ≤ sizeLine := by rw [List.length_map, (sortI_perm ns).length_eq]; exact hz
  exact ⟨.ref _, upd H (s.heap.objs.size + 1) (.lst ((sortI ns).map V.int)), I.laid (t' := s.toks) (fun _ _ => PyProof.Rows.sortedAll_old) (Nat.le_succ _) ⟨hlen, out, ep, vals_of_ints (ints_each eo), he'⟩, rfl, k _ (I.hok.fresh (Nat.le_succ _))⟩
end
end N
set_option autoImplicit false
set_option Elab.async false
set_option linter.all false
set_option maxRecDepth 100000
set_option maxHeartbeats 4000000
namespace N
open PySem L2 PySem.Spec PyProof.Rows PySem.W
/-! ### the order of trees -/
mutual
theorem alk_alike : ∀ x y : D, D.alk x y = true → alike (toPy x) (toPy y) = true
  | .int _, .int _, _ => rfl
  | .tup xs, .tup ys, h => alks_alike xs ys h
  | .int _, .tup _, h => by cases h
  | .int _, .non, h => by cases h
  | .int _, .bl _, h => by cases h
  | .int _, .str _, h => by cases h
  | .int _, .lst _, h => by cases h
  | .int _, .ref _, h => by cases h
  | .int _, .rep _, h => by cases h
  | .tup _, .int _, h => by cases h
  | .tup _, .non, h => by cases h
  | .tup _, .bl _, h => by cases h
  | .tup _, .str _, h => by cases h
  | .tup _, .lst _, h => by cases h
  | .tup _, .ref _, h => by cases h
  | .tup _, .rep _, h => by cases h
  | .non, _, h => by cases h
  | .bl _, _, h => by cases h
  | .str _, _, h => by cases h
  | .lst _, _, h => by cases h
  | .ref _, _, h => by cases h
  | .rep _, _, h => by cases h
theorem alks_alike : ∀ xs ys : List D, D.alks xs ys = true → alikeAll (toPys xs) (toPys ys) = true
  | [], [], _ => rfl
  | [], _ :: _, _ => rfl
  | _ :: _, [], _ => rfl
  | x :: xs, y :: ys, h => by
    have h := Bool.and_eq_true_iff.mp (show (D.alk x y && D.alks xs ys) = true from h)
    show (alike (toPy x) (toPy y) && alikeAll (toPys xs) (toPys ys)) = true
    rw [alk_alike x y h.1, alks_alike xs ys h.2]; rfl
end
mutual
theorem eqv_alk : ∀ x y : D, D.alk x y = true → PyData.eqv (toPy x) (toPy y) = D.eqv x y
  | .int _, .int _, _ => rfl
  | .tup xs, .tup ys, h => eqvs_alk xs ys h
  | .int _, .tup _, h => by cases h
  | .int _, .non, h => by cases h
  | .int _, .bl _, h => by cases h
  | .int _, .str _, h => by cases h
  | .int _, .lst _, h => by cases h
  | .int _, .ref _, h => by cases h
  | .int _, .rep _, h => by cases h
  | .tup _, .int _, h => by cases h
  | .tup _, .non, h => by cases h
  | .tup _, .bl _, h => by cases h
  | .tup _, .str _, h => by cases h
  | .tup _, .lst _, h => by cases h
  | .tup _, .ref _, h => by cases h
  | .tup _, .rep _, h => by cases h
  | .non, _, h => by cases h
  | .bl _, _, h => by cases h
  | .str _, _, h => by cases h
  | .lst _, _, h => by cases h
  | .ref _, _, h => by cases h
  | .rep _, _, h => by cases h
theorem eqvs_alk : ∀ xs ys : List D, D.alks xs ys = true → PyData.eqvAll (toPys xs) (toPys ys) = D.eqvs xs ys
  | [], [], _ => rfl
  | [], _ :: _, _ => rfl
  | _ :: _, [], _ => rfl
  | x :: xs, y :: ys, h => by
    have h := Bool.and_eq_true_iff.mp (show (D.alk x y && D.alks xs ys) = true from h)
    show (PyData.eqv (toPy x) (toPy y) && PyData.eqvAll (toPys xs) (toPys ys)) = (D.eqv x y && D.eqvs xs ys)
    rw [eqv_alk x y h.1, eqvs_alk xs ys h.2]
end
mutual
theorem ltb_alk : ∀ x y : D, D.alk x y = true → dataLt (toPy x) (toPy y) = D.ltb x y
  | .int x, .int y, _ => dataLt_int x y
  | .tup xs, .tup ys, h => by
    show dataLt (.tuple (toPys xs)) (.tuple (toPys ys)) = _
    rw [dataLt_tuple]
    exact ltbs_alk xs ys h
  | .int _, .tup _, h => by cases h
  | .int _, .non, h => by cases h
  | .int _, .bl _, h => by cases h
  | .int _, .str _, h => by cases h
  | .int _, .lst _, h => by cases h
  | .int _, .ref _, h => by cases h
  | .int _, .rep _, h => by cases h
  | .tup _, .int _, h => by cases h
  | .tup _, .non, h => by cases h
  | .tup _, .bl _, h => by cases h
  | .tup _, .str _, h => by cases h
  | .tup _, .lst _, h => by cases h
  | .tup _, .ref _, h => by cases h
  | .tup _, .rep _, h => by cases h
  | .non, _, h => by cases h
  | .bl _, _, h => by cases h
  | .str _, _, h => by cases h
  | .lst _, _, h => by cases h
  | .ref _, _, h => by cases h
  | .rep _, _, h => by cases h
theorem ltbs_alk : ∀ xs ys : List D, D.alks xs ys = true → PyProof.Rows.lexLt itemOrd (keyToksAll (toPys xs)) (keyToksAll (toPys ys)) = D.ltbs xs ys
  | [], [], _ => lex_irrefl _
  | [], y :: ys, _ => by
    show PyProof.Rows.lexLt itemOrd (keyToksAll []) (keyToksAll (toPy y :: toPys ys)) = true
    rw [toks_all_cons]
    cases y <;> (simp only [toPy, keyToks, keyToksAll, List.cons_append, List.nil_append]; rw [lex_diff (O := itemOrd) (by simp)]; rfl)
  | x :: xs, [], _ => by
    show PyProof.Rows.lexLt itemOrd (keyToksAll (toPy x :: toPys xs)) (keyToksAll []) = false
    rw [toks_all_cons]
    cases x <;> (simp only [toPy, keyToks, keyToksAll, List.cons_append, List.nil_append]; rw [lex_diff (O := itemOrd) (by simp)]; rfl)
  | x :: xs, y :: ys, h => by
    have h := Bool.and_eq_true_iff.mp (show (D.alk x y && D.alks xs ys) = true from h)
    show PyProof.Rows.lexLt itemOrd (keyToksAll (toPy x :: toPys xs)) (keyToksAll (toPy y :: toPys ys)) = if D.eqv x y then D.ltbs xs ys else D.ltb x y
    rw [dataLt_cons (alk_alike x y h.1), eqv_alk x y h.1, ltbs_alk xs ys h.2, ltb_alk x y h.1]
end
end N
set_option autoImplicit false
set_option Elab.async false
set_option linter.all false
set_option maxRecDepth 100000
set_option maxHeartbeats 4000000
namespace N
open PySem L2 PySem.Spec PyProof.Rows PySem.W
theorem ints_alks : ∀ xs ys : List D, (intsD xs).isSome = true → (intsD ys).isSome = true → D.alks xs ys = true
  | [], _, _, _ => by cases ‹List D› <;> rfl
  | x :: xs, [], _, _ => rfl
  | x :: xs, y :: ys, h1, h2 => by
    cases x <;> simp only [intsD, Option.isSome_none] at h1 <;> try (cases h1; done)
    cases y <;> simp only [intsD, Option.isSome_none] at h2 <;> try (cases h2; done)
    show (true && D.alks xs ys) = true
    rw [ints_alks xs ys (by simpa using h1) (by simpa using h2)]; rfl
theorem row_nb : ∀ x : D, rowD x = true → nbD x = true
  | .tup (_ :: _), _ => rfl
  | .tup [], h => by cases h
  | .int _, h => by cases h
  | .non, h => by cases h
  | .bl _, h => by cases h
  | .str _, h => by cases h
  | .lst _, h => by cases h
  | .ref _, h => by cases h
  | .rep _, h => by cases h
theorem row_alk : ∀ x y : D, rowD x = true → rowD y = true → D.alk x y = true := by
  intro x y hx hy
  cases x <;> try (cases hx; done)
  cases y <;> try (cases hy; done)
  rename_i xs ys
  cases xs with
  | nil => cases hx
  | cons a as =>
    cases ys with
    | nil => cases hy
    | cons b bs => exact ints_alks (a :: as) (b :: bs) hx hy
theorem srtOk_and {xs : List D} (h : srtOk xs = true) : (∀ x ∈ xs, nbD x = true) ∧ ∀ x ∈ xs, ∀ y ∈ xs, D.alk x y = true := by
  rcases Bool.or_eq_true_iff.mp h with h | h
  · have q := List.all_eq_true.mp h
    exact ⟨fun x hx => row_nb x (q x hx), fun x hx y hy => row_alk x y (q x hx) (q y hy)⟩
  · obtain ⟨h1, h2⟩ := Bool.and_eq_true_iff.mp h
    exact ⟨List.all_eq_true.mp h1, fun x hx y hy => List.all_eq_true.mp (List.all_eq_true.mp h2 x hx) y hy⟩
theorem nb_py {x : D} (h : nbD x = true) : ∃ y r, toPy x = .tuple (y :: r) := by
  cases x <;> try (cases h; done)
  rename_i xs
  cases xs with
  | nil => cases h
  | cons a as => exact ⟨toPy a, toPys as, rfl⟩
section
variable {X : Cx} {K : PySem.W.Frag} {ρ : List Addr} {H : Hp} {S : Sto} {pins : List (Addr × Obj)} {σ : L2.St} {s : Shared}
abbrev TreeR (X : Cx) (ρ : List Addr) (H : Hp) (s : Shared) (v : Value) (b : D × V) : Prop := (RelV b.2 v ∧ VR ρ H b.1 b.2) ∧ ∃ as, Reads s.heap v (toPy b.1) as
theorem each_trees (I : L2.Inv X pins σ H s) (hS : SR X.K ρ H S) : ∀ {ds : List D} {vs : List V} {its : List Value}, VRs ρ H ds vs → Vals vs its → (∀ d ∈ ds, rd RD S d = some d) → EachIs (TreeR X ρ H s) its (ds.zip vs)
  | _, _, _, .nil, .nil, _ => .nil
  | _, _, _, .cons a b, .cons c d, h => .cons ⟨⟨c, a⟩, Dp.reads I _ _ _ (rd_dp hS RD _ _ _ a (h _ (by simp))) c⟩ (each_trees I hS b d fun d hd => h d (by simp [hd]))
theorem mapO_self {f : D → Option D} : ∀ {xs ys : List D}, mapO f xs = some ys → ys = xs → ∀ d ∈ xs, f d = some d
  | [], _, _, _, d, hd => by cases hd
  | x :: xs, ys, h, e, d, hd => by
    simp only [mapO] at h
    split at h
    · cases h
    · rename_i y q
      split at h
      · cases h
      · rename_i zs q2
        cases h
        obtain ⟨e1, e2⟩ := List.cons.inj e
        rcases List.mem_cons.mp hd with z | z
        · rw [z, q, e1]
        · exact mapO_self q2 e2 d z
theorem vals_of_each : ∀ {out : List Value} {L : List (D × V)}, EachIs (fun v (b : D × V) => RelV b.2 v ∧ VR ρ H b.1 b.2) out L → Vals (L.map (·.2)) out ∧ VRs ρ H (L.map (·.1)) (L.map (·.2))
  | _, _, .nil => ⟨.nil, .nil⟩
  | _, _, .cons h t => ⟨.cons h.1 (vals_of_each t).1, .cons h.2 (vals_of_each t).2⟩
theorem zip_fst : ∀ {ds : List D} {vs : List V}, ds.length = vs.length → (ds.zip vs).map (·.1) = ds
  | [], [], _ => rfl
  | [], _ :: _, h => by cases h
  | _ :: _, [], h => by cases h
  | d :: ds, v :: vs, h => by
    show d :: (ds.zip vs).map (·.1) = d :: ds
    rw [zip_fst (Nat.succ.inj h)]
/-- sorted(xs), trees alike -/
theorem srt_trees (hu : X.A.units + 65 < cLine) {p : Addr} {ds : List D} {vs : List V} {Q : VK} (I : L2.Inv X pins σ H s) (hS : SR X.K ρ H S) (rs : VRs ρ H ds vs) (hr : mapO (rd RD S) ds = some ds) (ok : srtOk ds = true)
    (hp : H p = some (.lst vs)) (k : ∀ q ws, H q = none → VRs ρ H (sortD ds) ws → Q (.ref q) (upd H q (.lst ws))) :
    wpAny (model X.prog X.w) X.A (call (.builtin "sorted") [.ref p]) (EP X pins σ Q) X.xe s := by
  obtain ⟨its, rv, hl, hz⟩ := I.list (.of hp)
  have self := mapO_self hr rfl
  have ea := each_trees I hS rs rv self
  obtain ⟨o1, o2⟩ := srtOk_and ok
  have hlen := rs.len
  have fst := zip_fst hlen
  have mem : ∀ b ∈ ds.zip vs, b.1 ∈ ds := fun b hb => by rw [← fst]; exact List.mem_map.mpr ⟨b, hb, rfl⟩
  refine sorted_data (enc := fun b : D × V => toPy b.1) (R := fun v b => RelV b.2 v ∧ VR ρ H b.1 b.2) hl.isList (ea.mono fun _ _ h => h.1) (ea.mono fun _ _ h => h.2) (fun d hd d' hd' => ?_) (.inl fun d hd => ?_) (by rw [List.length_zip, ← hlen, Nat.min_self, hlen]; exact hz) (fun b hb => ?_) fun out ho eo => ?_
  · obtain ⟨b, hb, rfl⟩ := List.mem_map.mp hd
    obtain ⟨c, hc, rfl⟩ := List.mem_map.mp hd'
    exact alk_alike _ _ (o2 _ (mem b hb) _ (mem c hc))
  · obtain ⟨b, hb, rfl⟩ := List.mem_map.mp hd
    exact nb_py (o1 _ (mem b hb))
  · have := (toPys_real _ _ _ _ (self _ (mem b hb))).2
    show X.A.units + 2 + (toPy b.1).depth < cLine
    have h60 : RD = 60 := rfl
    omega
  · obtain ⟨hv, hr⟩ := vals_of_each eo
    have es : ((ds.zip vs).mergeSort (dataLe false fun b : D × V => toPy b.1)).map (·.1) = sortD ds := by
      rw [List.map_mergeSort (s := fun a b => !D.ltb b a) fun a ha b hb => ?_, fst]
      · rfl
      · rw [dataLe_eq]
        show (!dataLt (toPy b.1) (toPy a.1)) = !D.ltb b.1 a.1
        rw [ltb_alk _ _ (o2 _ (mem b hb) _ (mem a ha))]
    rw [es] at hr
    obtain ⟨ep, he'⟩ := PyProof.Rows.sortedAll_at s.heap its out.toArray
    generalize ((ds.zip vs).mergeSort (dataLe false fun b : D × V => toPy b.1)).map (·.2) = ws at hv hr
    have hlen2 : ws.length ≤ sizeLine := by
      rw [hv.length, ho, List.length_zip, ← hlen, Nat.min_self, hlen]; exact hz
    exact ⟨.ref _, upd H (s.heap.objs.size + 1) (.lst ws), I.laid (t' := s.toks) (fun _ _ => PyProof.Rows.sortedAll_old) (Nat.le_succ _) ⟨hlen2, out, ep, hv, he'⟩, rfl, k _ ws (I.hok.fresh (Nat.le_succ _)) hr⟩
theorem call_srtN (hu : X.A.units + 65 < cLine) : CallR X (.builtin "sorted") (rN X.K srtB) := by
  intro pins s σ H xs us Q I r h
  obtain ⟨ρ, S, ds, d, S', hS, rs, hr, k⟩ := h
  unfold srtB at hr
  split at hr
  case h_2 => cases hr
  rename_i n
  obtain ⟨v, rfl, rv⟩ := rs.one'
  split at hr
  case h_2 => cases hr
  rename_i es e1
  cases rv with
  | ref ea =>
    obtain ⟨vs, hp, rr⟩ := hS.lst e1 ea
    rw [Vals.ref1 r]
    split at hr
    · rename_i ns e2
      cases hr
      rw [ints_app e2] at rr
      have := rr.toInts
      subst this
      refine srt_ints (by omega) I hp fun q hq => ?_
      exact k.new hS (fun p hp => ⟨_, upd_same, VRs.ofInts _⟩) q hq
    · split at hr
      · cases hr
      rename_i ts e3
      split at hr
      case isFalse => cases hr
      rename_i c2
      obtain ⟨c3, c4⟩ := Bool.and_eq_true_iff.mp c2
      have c3 := of_decide_eq_true c3
      subst c3
      cases hr
      refine srt_trees hu I hS rr e3 c4 hp fun q ws hq hw => ?_
      exact k.new hS (fun p hp => ⟨ws, upd_same, VRs.go (Go.laid hp) hw⟩) q hq
end
end N
set_option autoImplicit false
set_option Elab.async false
set_option linter.all false
set_option maxRecDepth 100000
set_option maxHeartbeats 4000000
/-! enumerate(zip(a, b)) of two tuples: zip's own tuple may still be held by the pair that stands ahead -/
namespace N
open PySem L2 PySem.Spec PyProof.Rows
/-- what zip keeps of its own tuple: nothing, or where it went -/
def ZOwn (x : Value) : Prop := x = .none ∨ ∃ T : Nat, x = rawInt T
/-- the zip z, whatever it keeps -/
def ZObj (h : Heap) (z TI TO : Addr) (x : Value) (b : Bool) : Prop := h.get? z = some { cls := .type "zip", dict := none, data := .fields #[x, .bool b, .bool false, .ref TI, .ref TO], slots := #[] }
structure ZAt (h : Heap) (z TI TO i1 i2 l1 l2 : Addr) (k : Nat) : Prop where
  z : ∃ x b, ZOwn x ∧ ZObj h z TI TO x b
  ti : IsPair h TI (.ref i1) (.ref i2)
  to : ∃ x y, IsPair h TO x y
  a : h.IsTupleIter i1 l1 k
  b : h.IsTupleIter i2 l2 k
theorem ZAt.at {h h' : Heap} {z TI TO i1 i2 l1 l2 : Addr} {k : Nat} (s : ZAt h z TI TO i1 i2 l1 l2 k) (e : ∀ c ∈ [z, TI, TO, i1, i2], ∀ o, h.get? c = some o → h'.get? c = some o) : ZAt h' z TI TO i1 i2 l1 l2 k := by
  obtain ⟨x, b, hx, hz⟩ := s.z
  obtain ⟨u, v, hto⟩ := s.to
  exact ⟨⟨x, b, hx, e z (by simp) _ hz⟩, e TI (by simp) _ s.ti, ⟨u, v, e TO (by simp) _ hto⟩, s.a.at fun o q => e i1 (by simp) o q, s.b.at fun o q => e i2 (by simp) o q⟩
section
variable {prog : Program} {w : World} {A : Around} {E : Value → Shared → Prop} {s : Shared} {z TI TO i1 i2 l1 l2 : Addr} {k : Nat} {xs ys : Array Value} {x y : Value}
/-- is zip's own tuple free -/
theorem own_free {x : Value} {b : Bool} {Q : Bool → Shared → Prop} (hx : ZOwn x) (hz : ZObj s.heap z TI TO x b)
    (h : ∀ r b' h', ZObj h' z TI TO x b' → Heap.SameBut z s.heap h' → Q r { s with heap := h' }) : wpAny (model prog w) A (Builtin.SmallTypes.ownedTupleIsFree (.ref z)) Q E s := by
  have q0 := h true b s.heap hz (Heap.SameBut.refl _ _)
  have q1 := h false b s.heap hz (Heap.SameBut.refl _ _)
  unfold Builtin.SmallTypes.ownedTupleIsFree
  refine wpAny_bind (wpAny_field hz rfl (x := x) rfl ?_)
  rcases hx with rfl | ⟨T, rfl⟩
  · exact wpAny_pure q0
  · show wpAny _ _ (loadIfAlive ((T : Int).toNat) >>= _) _ _ _
    rw [Int.toNat_natCast]
    refine wpAny_bind ?_
    have al : ∀ {R : Option Obj → Shared → Prop}, R (s.heap.get? T) s → wpAny (model prog w) A (loadIfAlive T) R E s := fun {R} q => fun _ _ _ => q
    refine al ?_
    cases s.heap.get? T with
    | none => exact wpAny_pure q0
    | some o =>
      simp only [Option.isNone_some, Bool.false_eq_true, if_false]
      refine wpAny_bind (wpAny_field hz rfl (x := .bool b) rfl ?_)
      cases b with
      | true =>
        rw [if_neg (show ¬ ((Value.bool true != Value.bool true) = true) by decide)]
        exact wpAny_pure q1
      | false =>
        rw [if_pos (show (Value.bool false != Value.bool true) = true by decide)]
        exact wpAny_bind (wpAny_setField_rec hz (by simp) fun h₁ hz₁ hs₁ => wpAny_pure (h false true h₁ hz₁ hs₁))
/-- what a turn of zip leaves: but z, TO, i1, i2 all stands -/
structure ZKeep (z TO i1 i2 : Addr) (h h' : Heap) : Prop where
  sz : h'.objs.size = h.objs.size
  k : ∀ c o, c ≠ z → c ≠ TO → c ≠ i1 → c ≠ i2 → h.get? c = some o → h'.get? c = some o
theorem ZKeep.of {h h' : Heap} {c : Addr} (s : Heap.SameBut c h h') (e : c = z ∨ c = TO ∨ c = i1 ∨ c = i2) : ZKeep z TO i1 i2 h h' :=
  ⟨s.1, fun d o d1 d2 d3 d4 q => s.extBut d o (by rcases e with e | e | e | e <;> (subst e; assumption)) q⟩
theorem ZKeep.trans {h h1 h2 : Heap} (a : ZKeep z TO i1 i2 h h1) (b : ZKeep z TO i1 i2 h1 h2) : ZKeep z TO i1 i2 h h2 :=
  ⟨b.sz.trans a.sz, fun c o c1 c2 c3 c4 e => b.k c o c1 c2 c3 c4 (a.k c o c1 c2 c3 c4 e)⟩
/-- the next pair of zip -/
theorem zat_next {Q : Value → Shared → Prop} (D : ZipApart z TI TO i1 i2 l1 l2) (st : ZAt s.heap z TI TO i1 i2 l1 l2 k) (hl1 : s.heap.IsTuple l1 xs) (hl2 : s.heap.IsTuple l2 ys) (hx : xs[k]? = some x) (hy : ys[k]? = some y)
    (hQ : ∀ h', ZAt h' z TI TO i1 i2 l1 l2 (k + 1) → IsPair h' s.heap.objs.size x y → h'.objs.size = s.heap.objs.size + 1 → (∀ c o, c ∉ [z, TO, i1, i2] → s.heap.get? c = some o → h'.get? c = some o) → Q (.ref s.heap.objs.size) { s with heap := h' }) :
    wpAny (model prog w) A (Builtin.«zip.__next__» ⟨[.ref z], []⟩) (fun fin s' => ∃ v, fin = .done (.ret v) ∧ Q v s') E s := by
  obtain ⟨own, fl, hown, hz⟩ := st.z
  obtain ⟨pa, pb, hTO⟩ := st.to
  have hTI := st.ti
  show wpAny _ _ (field (.ref z) 2 >>= _) _ _ _
  refine wpAny_bind (wpAny_field hz rfl (x := .bool false) rfl ?_)
  show wpAny _ _ (field (.ref z) 3 >>= _) _ _ _
  refine wpAny_bind (wpAny_field hz rfl (x := .ref TI) rfl ?_)
  refine wpAny_bind (wpAny_seqItems hTI rfl ?_)
  show wpAny _ _ (Builtin.SmallTypes.ownedTupleIsFree (.ref z) >>= _) _ _ _
  refine wpAny_bind (own_free hown hz fun r fl' g hz' sg => ?_)
  have K0 : ZKeep z TO i1 i2 s.heap g := .of sg (.inl rfl)
  have hTO0 : IsPair g TO pa pb := sg.extBut _ _ D.TOz hTO
  have h1 := st.a.extBut sg.extBut D.i1z
  have h2 := st.b.extBut sg.extBut D.i2z
  have hl1' := hl1.extBut sg.extBut D.l1z
  have hl2' := hl2.extBut sg.extBut D.l2z
  have hTI0 : IsPair g TI (.ref i1) (.ref i2) := sg.extBut _ _ D.TIz hTI
  -- the end: all kept but z, TO, i1, i2, a new pair
  have fin : ∀ {h5 : Heap} {ta tb : Value}, ZKeep z TO i1 i2 s.heap h5 → z < h5.objs.size → IsPair h5 TO ta tb → h5.IsTupleIter i1 l1 (k + 1) → h5.IsTupleIter i2 l2 (k + 1) →
      ∀ h8 : Heap, (∀ c o, c ≠ z → (h5.push { cls := .type "tuple", data := .seq #[x, y] }).get? c = some o → h8.get? c = some o) → h8.objs.size = h5.objs.size + 1 → (∃ x8 b8, ZOwn x8 ∧ ZObj h8 z TI TO x8 b8) → Q (.ref h5.objs.size) { s with heap := h8 } := by
    intro h5 ta tb K5 z5 t5 a5 c5 h8 k8 s8 z8
    have up : ∀ c o, c ≠ z → h5.get? c = some o → h8.get? c = some o := fun c o n e => k8 c o n (Heap.get?_push_of_some _ e)
    have hne : h5.objs.size ≠ z := Nat.ne_of_gt z5
    have new : IsPair h8 h5.objs.size x y := k8 _ _ hne (Heap.get?_push_size _ rfl)
    rw [K5.sz] at new s8 ⊢
    refine hQ h8 ⟨z8, up _ _ D.TIz (K5.k _ _ D.TIz D.TITO D.TIi1 D.TIi2 hTI), ⟨ta, tb, up _ _ D.TOz t5⟩, a5.at fun o e => up _ o D.i1z e, c5.at fun o e => up _ o D.i2z e⟩ new s8 fun c o hc e => ?_
    simp only [List.mem_cons, List.not_mem_nil, or_false, not_or] at hc
    exact up c o hc.1 (K5.k c o hc.1 hc.2.1 hc.2.2.1 hc.2.2.2 e)
  cases r with
  | false =>
    simp only [Bool.false_eq_true, if_false]
    refine wpAny_bind ?_
    rw [← Array.forIn_toList]
    simp only [List.forIn_cons, List.forIn_nil]
    refine wpAny_bind (wpAny_bind (wpAny_holding ?_))
    show wpAny _ _ (Builtin.SmallTypes.nextOf (.ref i1) >>= _) _ _ _
    refine wpAny_bind (RZ.nextOf_tuple_item (s := { s with heap := g }) h1 hl1' hx fun g2 a2 s2 => wpAny_pure (wpAny_pure ?_))
    refine wpAny_bind (wpAny_bind (wpAny_holding ?_))
    show wpAny _ _ (Builtin.SmallTypes.nextOf (.ref i2) >>= _) _ _ _
    refine wpAny_bind (RZ.nextOf_tuple_item (s := { s with heap := g2 }) (h2.extBut s2.extBut D.i12.symm) (hl2'.extBut s2.extBut D.l2i1) hy fun g3 a3 s3 => wpAny_pure (wpAny_pure (wpAny_pure ?_)))
    show wpAny _ _ (newTuple [x, y] >>= _) _ _ _
    have K3 : ZKeep z TO i1 i2 s.heap g3 := (K0.trans (.of s2 (.inr (.inr (.inl rfl))))).trans (.of s3 (.inr (.inr (.inr rfl))))
    have z3 : ZObj g3 z TI TO own fl' := s3.extBut _ _ D.i2z.symm (s2.extBut _ _ D.i1z.symm hz')
    have t3 : IsPair g3 TO pa pb := s3.extBut _ _ D.TOi2 (s2.extBut _ _ D.TOi1 hTO0)
    refine wpAny_bind (wpAny_newTuple (wpAny_pure ⟨_, rfl, ?_⟩))
    exact fin K3 (Heap.lt_size z3) t3 (a2.extBut s3.extBut D.i12) a3 _ (fun c o _ e => e) (Heap.size_push ..) ⟨own, fl', hown, Heap.get?_push_of_some _ z3⟩
  | true =>
    simp only [if_true]
    refine wpAny_bind (wpAny_rule ?_)
    refine wpAny_bind (wpAny_field hz' rfl (x := .ref TO) rfl ?_)
    refine wpAny_bind (wpAny_setField_rec hz' (by simp) fun g1 z1 s1 => ?_)
    have z1 : ZObj g1 z TI TO .ellipsis fl' := z1
    refine wpAny_bind ?_
    simp only [List.zipIdx_cons, List.zipIdx_nil, List.forIn_cons, List.forIn_nil]
    refine wpAny_bind (wpAny_bind (wpAny_onRaise ?_))
    show wpAny _ _ (Builtin.SmallTypes.nextOf (.ref i1) >>= _) _ _ _
    refine wpAny_bind (RZ.nextOf_tuple_item (h1.extBut s1.extBut D.i1z) (hl1'.extBut s1.extBut D.l1z) hx fun g2 a2 s2 => wpAny_pure ?_)
    have t2 : IsPair g2 TO pa pb := s2.extBut _ _ D.TOi1 (s1.extBut _ _ D.TOz hTO0)
    refine wpAny_bind (wpAny_seqItems t2 rfl ?_)
    refine wpAny_bind (wpAny_updateSeq_pair t2 fun g3 t3 s3 => ?_)
    have t3 : IsPair g3 TO x pb := t3
    refine wpAny_bind (wpAny_letGo (wpAny_pure ?_))
    refine wpAny_bind (wpAny_bind (wpAny_onRaise ?_))
    show wpAny _ _ (Builtin.SmallTypes.nextOf (.ref i2) >>= _) _ _ _
    refine wpAny_bind (RZ.nextOf_tuple_item (((h2.extBut s1.extBut D.i2z).extBut s2.extBut D.i12.symm).extBut s3.extBut D.TOi2.symm) (((hl2'.extBut s1.extBut D.l2z).extBut s2.extBut D.l2i1).extBut s3.extBut D.l2TO) hy fun g4 a4 s4 => wpAny_pure ?_)
    have t4 : IsPair g4 TO x pb := s4.extBut _ _ D.TOi2 t3
    refine wpAny_bind (wpAny_seqItems t4 rfl ?_)
    refine wpAny_bind (wpAny_updateSeq_pair t4 fun g5 t5 s5 => ?_)
    have t5 : IsPair g5 TO x y := t5
    refine wpAny_bind (wpAny_letGo (wpAny_pure (wpAny_pure ?_)))
    refine wpAny_bind (wpAny_seqItems t5 rfl ?_)
    refine wpAny_bind (wpAny_newTuple ?_)
    have K5 : ZKeep z TO i1 i2 s.heap g5 := ((((K0.trans (.of s1 (.inl rfl))).trans (.of s2 (.inr (.inr (.inl rfl))))).trans (.of s3 (.inr (.inl rfl)))).trans (.of s4 (.inr (.inr (.inr rfl))))).trans (.of s5 (.inr (.inl rfl)))
    have z5 : ZObj g5 z TI TO .ellipsis fl' := s5.extBut _ _ D.TOz.symm (s4.extBut _ _ D.i2z.symm (s3.extBut _ _ D.TOz.symm (s2.extBut _ _ D.i1z.symm z1)))
    have a5 : g5.IsTupleIter i1 l1 (k + 1) := ((a2.extBut s3.extBut D.TOi1.symm).extBut s4.extBut D.i12).extBut s5.extBut D.TOi1.symm
    have c5 : g5.IsTupleIter i2 l2 (k + 1) := a4.extBut s5.extBut D.TOi2.symm
    show wpAny _ _ (Builtin.SmallTypes.ownedTupleHandOut (.ref z) (.ref g5.objs.size) >>= _) _ _ _
    refine wpAny_bind ?_
    unfold Builtin.SmallTypes.ownedTupleHandOut
    have z6 : ZObj (g5.push { cls := .type "tuple", data := .seq #[x, y] }) z TI TO .ellipsis fl' := Heap.get?_push_of_some _ z5
    refine wpAny_bind (wpAny_setField_rec z6 (by simp) fun g7 z7 s7 => ?_)
    have z7 : ZObj g7 z TI TO (rawInt g5.objs.size) fl' := z7
    refine wpAny_setField_rec z7 (by simp) fun g8 z8 s8 => ?_
    have z8 : ZObj g8 z TI TO (rawInt g5.objs.size) false := z8
    refine wpAny_pure ⟨_, rfl, ?_⟩
    show Q (.ref g5.objs.size) _
    have o8 : ZOwn (rawInt g5.objs.size) := .inr ⟨_, rfl⟩
    exact fin K5 (Heap.lt_size z5) t5 a5 c5 g8 (fun c o n e => s8.extBut _ _ n (s7.extBut _ _ n e)) (by rw [s8.1, s7.1, Heap.size_push]) ⟨_, _, o8, z8⟩
/-- one of the rows has come to its end -/
theorem zat_end {Q : PySem.Fin → Shared → Prop} (hh : A.handled = none) (D : ZipApart z TI TO i1 i2 l1 l2) (st : ZAt s.heap z TI TO i1 i2 l1 l2 k) (hl1 : s.heap.IsTuple l1 xs) (hl2 : s.heap.IsTuple l2 ys) (hend : xs[k]? = none ∨ ys[k]? = none)
    (hE : ∀ h' e, (∀ c o, c ∉ [z, TO, i1, i2] → s.heap.get? c = some o → h'.get? c = some o) → (∃ o, h'.get? e = some o ∧ o.cls = .type "StopIteration") → E (.ref e) { s with heap := h' }) :
    wpAny (model prog w) A (Builtin.«zip.__next__» ⟨[.ref z], []⟩) Q E s := by
  obtain ⟨own, fl, hown, hz⟩ := st.z
  obtain ⟨pa, pb, hTO⟩ := st.to
  have hTI := st.ti
  show wpAny _ _ (field (.ref z) 2 >>= _) _ _ _
  refine wpAny_bind (wpAny_field hz rfl (x := .bool false) rfl ?_)
  show wpAny _ _ (field (.ref z) 3 >>= _) _ _ _
  refine wpAny_bind (wpAny_field hz rfl (x := .ref TI) rfl ?_)
  refine wpAny_bind (wpAny_seqItems hTI rfl ?_)
  show wpAny _ _ (Builtin.SmallTypes.ownedTupleIsFree (.ref z) >>= _) _ _ _
  refine wpAny_bind (own_free hown hz fun r fl' g hz' sg => ?_)
  have hTO0 : IsPair g TO pa pb := sg.extBut _ _ D.TOz hTO
  have h1 := st.a.extBut sg.extBut D.i1z
  have h2 := st.b.extBut sg.extBut D.i2z
  have hl1' := hl1.extBut sg.extBut D.l1z
  have hl2' := hl2.extBut sg.extBut D.l2z
  have fin : ∀ (g5 : Heap) (e : Addr), (∀ c o, c ≠ z → c ≠ TO → c ≠ i1 → c ≠ i2 → g.get? c = some o → g5.get? c = some o) → (∃ o, g5.get? e = some o ∧ o.cls = .type "StopIteration") → E (.ref e) { s with heap := g5 } := fun g5 e kk he =>
    hE g5 e (fun c o hc q => by
      simp only [List.mem_cons, List.not_mem_nil, or_false, not_or] at hc
      exact kk c o hc.1 hc.2.1 hc.2.2.1 hc.2.2.2 (sg.extBut c o hc.1 q)) he
  cases r with
  | false =>
    simp only [Bool.false_eq_true, if_false]
    refine wpAny_bind ?_
    rw [← Array.forIn_toList]
    simp only [List.forIn_cons, List.forIn_nil]
    refine wpAny_bind (wpAny_bind (wpAny_holding ?_))
    show wpAny _ _ (Builtin.SmallTypes.nextOf (.ref i1) >>= _) _ _ _
    cases hx : xs[k]? with
    | none => exact wpAny_bind (RZ.nextOf_tuple_end (s := { s with heap := g }) hh h1 hl1' hx fun g2 e s2 he => fin g2 e (fun c o _ _ c3 _ q => s2 c o c3 q) he)
    | some x =>
      have hy : ys[k]? = none := hend.elim (fun h => by rw [hx] at h; cases h) id
      refine wpAny_bind (RZ.nextOf_tuple_item (s := { s with heap := g }) h1 hl1' hx fun g2 a2 s2 => wpAny_pure (wpAny_pure ?_))
      refine wpAny_bind (wpAny_bind (wpAny_holding ?_))
      show wpAny _ _ (Builtin.SmallTypes.nextOf (.ref i2) >>= _) _ _ _
      exact wpAny_bind (RZ.nextOf_tuple_end (s := { s with heap := g2 }) hh (h2.extBut s2.extBut D.i12.symm) (hl2'.extBut s2.extBut D.l2i1) hy fun g3 e s3 he => fin g3 e (fun c o _ _ c3 c4 q => s3 c o c4 (s2.extBut c o c3 q)) he)
  | true =>
    simp only [if_true]
    refine wpAny_bind (wpAny_rule ?_)
    refine wpAny_bind (wpAny_field hz' rfl (x := .ref TO) rfl ?_)
    refine wpAny_bind (wpAny_setField_rec hz' (by simp) fun g1 z1 s1 => ?_)
    have z1 : ZObj g1 z TI TO .ellipsis fl' := z1
    refine wpAny_bind ?_
    simp only [List.zipIdx_cons, List.zipIdx_nil, List.forIn_cons, List.forIn_nil]
    refine wpAny_bind (wpAny_bind (wpAny_onRaise ?_))
    show wpAny _ _ (Builtin.SmallTypes.nextOf (.ref i1) >>= _) _ _ _
    -- the raise, then z is let go
    have out : ∀ (g4 g5 : Heap) (e : Addr), ZObj g4 z TI TO .ellipsis fl' → (∀ c o, c ≠ z → c ≠ TO → c ≠ i1 → c ≠ i2 → g.get? c = some o → g4.get? c = some o) → (∃ o, g5.get? e = some o ∧ o.cls = .type "StopIteration") → (∀ c o, c ≠ i1 → c ≠ i2 → g4.get? c = some o → g5.get? c = some o) →
        wpAny (model prog w) A (setField (.ref z) 0 .none) (fun _ s' => E (.ref e) s') E { s with heap := g5 } := by
      intro g4 g5 e z4 k4 he k5
      obtain ⟨oe, hoe, hce⟩ := he
      have z5 : ZObj g5 z TI TO .ellipsis fl' := k5 _ _ D.i1z.symm D.i2z.symm z4
      have hez : e ≠ z := fun q => by
        subst q
        have z5 : g5.get? e = _ := z5
        rw [z5] at hoe
        cases hoe
        simp at hce
      exact wpAny_setField_rec z5 (by simp) fun g6 _ s6 => fin g6 e (fun c o c1 c2 c3 c4 q => s6.extBut c o c1 (k5 c o c3 c4 (k4 c o c1 c2 c3 c4 q))) ⟨oe, s6.extBut _ _ hez hoe, hce⟩
    cases hx : xs[k]? with
    | none => exact wpAny_bind (RZ.nextOf_tuple_end hh (h1.extBut s1.extBut D.i1z) (hl1'.extBut s1.extBut D.l1z) hx fun g2 e s2 he => out g1 g2 e z1 (fun c o c1 _ _ _ q => s1.extBut c o c1 q) he fun c o c3 _ q => s2 c o c3 q)
    | some x =>
      have hy : ys[k]? = none := hend.elim (fun h => by rw [hx] at h; cases h) id
      refine wpAny_bind (RZ.nextOf_tuple_item (h1.extBut s1.extBut D.i1z) (hl1'.extBut s1.extBut D.l1z) hx fun g2 a2 s2 => wpAny_pure ?_)
      have t2 : IsPair g2 TO pa pb := s2.extBut _ _ D.TOi1 (s1.extBut _ _ D.TOz hTO0)
      refine wpAny_bind (wpAny_seqItems t2 rfl ?_)
      refine wpAny_bind (wpAny_updateSeq_pair t2 fun g3 t3 s3 => ?_)
      refine wpAny_bind (wpAny_letGo (wpAny_pure ?_))
      refine wpAny_bind (wpAny_bind (wpAny_onRaise ?_))
      show wpAny _ _ (Builtin.SmallTypes.nextOf (.ref i2) >>= _) _ _ _
      exact wpAny_bind (RZ.nextOf_tuple_end hh (((h2.extBut s1.extBut D.i2z).extBut s2.extBut D.i12.symm).extBut s3.extBut D.TOi2.symm) (((hl2'.extBut s1.extBut D.l2z).extBut s2.extBut D.l2i1).extBut s3.extBut D.l2TO) hy fun g4 e s4 he =>
        out g3 g4 e (s3.extBut _ _ D.TOz.symm (s2.extBut _ _ D.i1z.symm z1)) (fun c o c1 c2 c3 _ q => s3.extBut c o c2 (s2.extBut c o c3 (s1.extBut c o c1 q))) he fun c o _ c4 q => s4 c o c4 q)
theorem zat_type (st : ZAt s.heap z TI TO i1 i2 l1 l2 k) : s.TypeIs (.ref z) "zip" := by
  obtain ⟨own, fl, hown, hz⟩ := st.z
  exact ⟨_, hz, rfl⟩
/-- the next count and pair of enumerate(zip(..)) -/
theorem ez_next {e : Addr} {old : Value} {Q : Option Value → Shared → Prop} (D : ZipApart z TI TO i1 i2 l1 l2) (he : IsEnum s.heap e z k old) (hez : e ∉ [z, TI, TO, i1, i2]) (st : ZAt s.heap z TI TO i1 i2 l1 l2 k) (hl1 : s.heap.IsTuple l1 xs) (hl2 : s.heap.IsTuple l2 ys) (hx : xs[k]? = some x) (hy : ys[k]? = some y)
    (hQ : ∀ h1 h', h1.objs.size = s.heap.objs.size + 1 → IsPair h1 s.heap.objs.size x y → (∀ c o, c ∉ [z, TO, i1, i2] → s.heap.get? c = some o → h1.get? c = some o) → ZAt h1 z TI TO i1 i2 l1 l2 (k + 1) →
      IsEnumOut h' e z ((k : Int) + 1) (.ref s.heap.objs.size) (s.heap.objs.size + 1) → h'.get? (s.heap.objs.size + 1) = some { cls := .type "tuple", data := .seq #[.int k s.toks, .ref s.heap.objs.size] } → (∀ b o, b ≠ e → h1.get? b = some o → h'.get? b = some o) →
      Q (some (.ref (s.heap.objs.size + 1))) { s with heap := h', toks := s.toks + 1 }) : wpAny (model prog w) A (pyNext (.ref e)) Q E s := by
  have hT : s.TypeIs (.ref e) "enumerate" := ⟨_, he, rfl⟩
  unfold pyNext
  refine wpAny_bind (wpAny_attempt (wpAny_callSpecial?_slot (name := Str.ofString "__next__") hT F.slot_enumerate_next (wpAny_call_entry F.slot_enumerate_next hT F.entry_enumerate_next ?_ (F.args_enumerate_next_1 _))))
  show wpAny _ _ (field (.ref e) 2 >>= _) _ _ _
  refine wpAny_bind (wpAny_field he rfl (x := .ref z) rfl ?_)
  unfold Builtin.SmallTypes.nextOf
  refine wpAny_bind (wpAny_bind (wpAny_callSpecial?_slot (name := Str.ofString "__next__") (zat_type st) F.slot_zip_next (wpAny_call_entry F.slot_zip_next (zat_type st) F.entry_zip_next (zat_next D st hl1 hl2 hx hy fun h1 st1 p1 sz1 k1 => wpAny_pure ?_) (F.args_zip_next_1 _))))
  simp only [List.mem_cons, List.not_mem_nil, or_false, not_or] at hez
  have e1 : IsEnum h1 e z k old := k1 _ _ (by simp [hez]) he
  obtain ⟨hp, gg, dd, tk, os⟩ := s
  have sz1 : h1.objs.size = hp.objs.size + 1 := sz1
  show wpAny _ _ (field (.ref e) 3 >>= _) _ _ ⟨h1, gg, dd, tk, os⟩
  refine wpAny_bind (wpAny_field e1 rfl (x := rawInt k) rfl ?_)
  show wpAny _ _ (field (.ref e) 4 >>= _) _ _ ⟨h1, gg, dd, tk, os⟩
  refine wpAny_bind (wpAny_field e1 rfl (x := .none) rfl ?_)
  show wpAny _ _ (mkInt k >>= _) _ _ ⟨h1, gg, dd, tk, os⟩
  refine wpAny_bind (wpAny_mkInt ?_)
  show wpAny _ _ (setField (.ref e) 3 (rawInt ((k : Int) + 1)) >>= _) _ _ ⟨h1, gg, dd, tk + 1, os⟩
  refine wpAny_bind (wpAny_setField_rec e1 (by simp) fun h2 e2 s2 => ?_)
  have e2 : IsEnum h2 e z ((k : Int) + 1) old := e2
  have s2 : Heap.SameBut e h1 h2 := s2
  show wpAny _ _ (setField (.ref e) 4 .none >>= _) _ _ ⟨h2, gg, dd, tk + 1, os⟩
  refine wpAny_bind (wpAny_setField_rec e2 (by simp) fun h3 e3 s3 => ?_)
  have e3 : IsEnum h3 e z ((k : Int) + 1) old := e3
  have s3 : Heap.SameBut e h2 h3 := s3
  show wpAny _ _ (newTuple [.int k tk, .ref hp.objs.size] >>= _) _ _ ⟨h3, gg, dd, tk + 1, os⟩
  refine wpAny_bind (wpAny_newTuple ?_)
  have z3 : h3.objs.size = hp.objs.size + 1 := by rw [s3.1, s2.1, sz1]
  have lt : e < hp.objs.size := Heap.lt_size he
  have e4 : IsEnum (h3.push { cls := .type "tuple", data := .seq #[.int k tk, .ref hp.objs.size] }) e z ((k : Int) + 1) old := Heap.get?_push_of_some _ e3
  have t4 : (h3.push { cls := .type "tuple", data := .seq #[.int k tk, .ref hp.objs.size] }).get? (hp.objs.size + 1) = some { cls := .type "tuple", data := .seq #[.int k tk, .ref hp.objs.size] } := by
    rw [← z3]; exact Heap.get?_push_size _ rfl
  have k4 : ∀ b o, b ≠ e → h1.get? b = some o → (h3.push { cls := .type "tuple", data := .seq #[.int k tk, .ref hp.objs.size] }).get? b = some o := fun b o n q => Heap.get?_push_of_some _ (s3.extBut b o n (s2.extBut b o n q))
  show wpAny _ _ (Builtin.SmallTypes.ownedTupleIsFree (.ref e) >>= _) _ _ ⟨h3.push { cls := .type "tuple", data := .seq #[.int k tk, .ref hp.objs.size] }, gg, dd, tk + 1, os⟩
  show wpAny _ _ _ _ _ _
  rw [z3]
  generalize h3.push { cls := .type "tuple", data := .seq #[.int k tk, .ref hp.objs.size] } = h4 at e4 t4 k4
  refine wpAny_bind ?_
  unfold Builtin.SmallTypes.ownedTupleIsFree
  refine wpAny_bind (wpAny_field e4 rfl (x := .none) rfl (wpAny_pure ?_))
  simp only [if_true]
  refine wpAny_bind (wpAny_rule ?_)
  refine wpAny_bind (wpAny_field e4 rfl (x := old) rfl ?_)
  refine wpAny_bind (wpAny_setField_rec e4 (by simp) fun h5 e5 s5 => ?_)
  have e5 : IsEnum h5 e z ((k : Int) + 1) (.ref hp.objs.size) := e5
  have s5 : Heap.SameBut e h4 h5 := s5
  show wpAny _ _ (Builtin.SmallTypes.ownedTupleHandOut (.ref e) (.ref (hp.objs.size + 1)) >>= _) _ _ ⟨h5, gg, dd, tk + 1, os⟩
  refine wpAny_bind ?_
  unfold Builtin.SmallTypes.ownedTupleHandOut
  refine wpAny_bind (wpAny_setField_rec e5 (by simp) fun h6 e6 s6 => ?_)
  have e6 : IsEnumOut h6 e z ((k : Int) + 1) (.ref hp.objs.size) (hp.objs.size + 1) := e6
  have s6 : Heap.SameBut e h5 h6 := s6
  refine wpAny_setField_rec e6 (by simp) fun h7 e7 s7 => ?_
  have e7 : IsEnumOut h7 e z ((k : Int) + 1) (.ref hp.objs.size) (hp.objs.size + 1) := e7
  have s7 : Heap.SameBut e h6 h7 := s7
  have up : ∀ b o, b ≠ e → h4.get? b = some o → h7.get? b = some o := fun b o n q => s7.extBut b o n (s6.extBut b o n (s5.extBut b o n q))
  have n1 : (hp.objs.size + 1 : Nat) ≠ e := fun z => absurd lt (by rw [← z]; exact Nat.not_lt_of_le (Nat.le_succ _))
  exact wpAny_bind (wpAny_letGo (wpAny_pure ⟨_, rfl, wpAny_pure (hQ h1 h7 sz1 p1 k1 st1 e7 (up _ _ n1 t4) fun b o n q => up b o n (k4 b o n q))⟩))
theorem ez_end {e : Addr} {old : Value} {Q : Option Value → Shared → Prop} (hh : A.handled = none) (D : ZipApart z TI TO i1 i2 l1 l2) (he : IsEnum s.heap e z k old) (st : ZAt s.heap z TI TO i1 i2 l1 l2 k) (hl1 : s.heap.IsTuple l1 xs) (hl2 : s.heap.IsTuple l2 ys) (hend : xs[k]? = none ∨ ys[k]? = none)
    (hQ : ∀ h', (∀ c o, c ∉ [z, TO, i1, i2] → s.heap.get? c = some o → h'.get? c = some o) → Q none { s with heap := h' }) : wpAny (model prog w) A (pyNext (.ref e)) Q E s := by
  have hT : s.TypeIs (.ref e) "enumerate" := ⟨_, he, rfl⟩
  unfold pyNext
  refine wpAny_bind (wpAny_attempt (wpAny_callSpecial?_slot (name := Str.ofString "__next__") hT F.slot_enumerate_next (wpAny_call_entry F.slot_enumerate_next hT F.entry_enumerate_next ?_ (F.args_enumerate_next_1 _))))
  show wpAny _ _ (field (.ref e) 2 >>= _) _ _ _
  refine wpAny_bind (wpAny_field he rfl (x := .ref z) rfl ?_)
  unfold Builtin.SmallTypes.nextOf
  refine wpAny_bind (wpAny_bind (wpAny_callSpecial?_slot (name := Str.ofString "__next__") (zat_type st) F.slot_zip_next (wpAny_call_entry F.slot_zip_next (zat_type st) F.entry_zip_next (zat_end hh D st hl1 hl2 hend fun h' x k1 hx => ?_) (F.args_zip_next_1 _))))
  obtain ⟨o, ho, hc⟩ := hx
  refine wpAny_bind (wpAny_isInstance (T := "StopIteration") (b := true) ⟨o, ho, hc⟩ isSubtype_stop ?_)
  exact wpAny_pure (hQ _ k1)
end
end N
set_option autoImplicit false
set_option Elab.async false
set_option linter.all false
set_option maxRecDepth 100000
set_option maxHeartbeats 4000000
namespace N
open PySem L2 PySem.Spec PyProof.Rows
/-! ### enumerate(zip(a, b)) as it is walked -/
/-- the tuples at a, b: a count, a pair, both new -/
def Iez (K : PySem.W.Frag) (a b : Addr) : It :=
  ⟨fun i H => ∃ (xs ys : List V) (x y : V), SqT K H a xs ∧ SqT K H b ys ∧ xs[i]? = some x ∧ ys[i]? = some y,
    fun i H v H' => ∃ T U x y, v = .ref U ∧ H T = none ∧ H U = none ∧ T ≠ U ∧ H' = upd (upd H T (.tup [x, y])) U (.tup [.int (i : Nat), .ref T]) ∧ (∀ xs, SqT K H a xs → xs[i]? = some x) ∧ ∀ ys, SqT K H b ys → ys[i]? = some y,
    fun i H => ∃ xs ys : List V, SqT K H a xs ∧ SqT K H b ys ∧ (xs.length ≤ i ∨ ys.length ≤ i)⟩
theorem turn_ez {P : Program} {w : World} {K : PySem.W.Frag} {elts : List Expr} {kk : Nat} {tpos : Pos} {a b e z TI TO i1 i2 : Addr} (D : ZipApart z TI TO i1 i2 a b) (hez : e ∉ [z, TI, TO, i1, i2]) :
    Turn P w K (.Tuple elts kk tpos) (Iez K a b) [e, z, TI, TO, i1, i2] e (fun i h => (∃ old, IsEnum h e z ((i : Nat) : Int) old) ∧ ZAt h z TI TO i1 i2 a b i) where
  mem := by simp
  obj := fun i h st c hc => by
    obtain ⟨⟨old, he⟩, sz⟩ := st
    obtain ⟨x, fl, _, hz⟩ := sz.z
    obtain ⟨u, v, hto⟩ := sz.to
    obtain ⟨o1, q1, _, d1⟩ := sz.a
    obtain ⟨o2, q2, _, d2⟩ := sz.b
    simp only [List.mem_cons, List.not_mem_nil, or_false] at hc
    rcases hc with q | q | q | q | q | q
    · rw [q]; exact ⟨_, he, fun v q => nomatch q⟩
    · rw [q]; exact ⟨_, hz, fun v q => nomatch q⟩
    · rw [q]; exact ⟨_, sz.ti, fun v q => nomatch q⟩
    · rw [q]; exact ⟨_, hto, fun v q => nomatch q⟩
    · rw [q]; exact ⟨o1, q1, fun v q => by rw [d1] at q; cases q⟩
    · rw [q]; exact ⟨o2, q2, fun v q => by rw [d2] at q; cases q⟩
  keep := fun i h h' st k => by
    obtain ⟨⟨old, he⟩, sz⟩ := st
    exact ⟨⟨old, k e (by simp) _ he⟩, sz.at fun c hc o q => k c (List.mem_cons_of_mem _ hc) o q⟩
  item := by
    intro X hP hw hK hc i pins s σ H E I hf st hg
    subst hP hw hK
    obtain ⟨⟨old, he⟩, sz⟩ := st
    obtain ⟨xs, ys, x, y, hqx, hqy, hx, hy⟩ := hg
    obtain ⟨its, rv, tp, _⟩ := I.tuple hqx
    obtain ⟨its2, rv2, tp2, _⟩ := I.tuple hqy
    obtain ⟨u, hu, ru⟩ := rv.get hx
    obtain ⟨u2, hu2, ru2⟩ := rv2.get hy
    have elt : e < s.heap.objs.size := Heap.lt_size he
    refine ez_next D he hez sz (show s.heap.IsTuple a its.toArray from tp) (show s.heap.IsTuple b its2.toArray from tp2) (x := u) (y := u2) (by simpa using hu) (by simpa using hu2) fun h1 h2 sz1 p1 k1 st1 e2 t2 k2 => ?_
    refine ⟨_, rfl, wpAny_letOwnedTupleGo_enum (s := { s with heap := h2, toks := s.toks + 1 }) e2 fun h3 e3 s3 => ?_⟩
    have k3 : ∀ c o, c ≠ e → h1.get? c = some o → h3.get? c = some o := fun c o n q => s3.extBut c o n (k2 c o n q)
    have n1 : s.heap.objs.size + 1 ≠ e := fun q => absurd elt (by rw [← q]; exact Nat.not_lt_of_le (Nat.le_succ _))
    have t3 : h3.get? (s.heap.objs.size + 1) = some { cls := .type "tuple", data := .seq #[.int i s.toks, .ref s.heap.objs.size] } := s3.extBut _ _ n1 t2
    have fresh1 : ObjOk X.prog X.w (upd H s.heap.objs.size (.tup [x, y])) h1 s.heap.objs.size (.tup [x, y]) := ⟨by show 2 ≤ sizeLine; decide, [u, u2], .cons ru (.cons ru2 .nil), ⟨_, p1, rfl, _, rfl⟩⟩
    have I1 : L2.Inv X pins σ (upd H s.heap.objs.size (.tup [x, y])) { s with heap := h1 } := I.turnedNew (t' := s.toks) (ch := [z, TO, i1, i2]) k1 (fun c hc => hf c (by
      simp only [List.mem_cons, List.not_mem_nil, or_false] at hc ⊢
      rcases hc with q | q | q | q <;> simp [q])) (Nat.le_refl _) fresh1
    have fe : FpOk X pins (upd H s.heap.objs.size (.tup [x, y])) e := by
      obtain ⟨f0, f⟩ := hf e (by simp)
      exact ⟨by rw [upd_ne (Nat.ne_of_lt elt)]; exact f0, f⟩
    have n0 : (s.heap.objs.size : Addr) ≠ s.heap.objs.size + 1 := Nat.ne_of_lt (Nat.lt_succ_self _)
    have fresh2 : ObjOk X.prog X.w (upd (upd H s.heap.objs.size (.tup [x, y])) (s.heap.objs.size + 1) (.tup [.int (i : Nat), .ref s.heap.objs.size])) h3 (s.heap.objs.size + 1) (.tup [.int (i : Nat), .ref s.heap.objs.size]) :=
      ⟨by show 2 ≤ sizeLine; decide, [.int i s.toks, .ref s.heap.objs.size], .cons ⟨_, rfl⟩ (.cons rfl .nil), ⟨_, t3, rfl, _, rfl⟩⟩
    have I2 := I1.turnedNew (t' := s.toks + 1) (ch := [e]) (h' := h3) (fun c o hc q => k3 c o (fun q => hc (by simp [q])) q) (fun c hc => by rw [List.mem_singleton.mp hc]; exact fe) (Nat.le_of_eq sz1) fresh2
    refine ⟨.ref (s.heap.objs.size + 1), _, I2, rfl, ⟨s.heap.objs.size, s.heap.objs.size + 1, x, y, rfl, I.hok.fresh (Nat.le_refl _), I.hok.fresh (Nat.le_succ _), n0, rfl, fun l hl => by rw [I.tuple_inj hl hqx]; exact hx, fun l hl => by rw [I.tuple_inj hl hqy]; exact hy⟩, ⟨⟨.ref s.heap.objs.size, ?_⟩, st1.at fun c hc o q => k3 c o (fun q => hez (by rw [← q]; exact hc)) q⟩, fun c hc => ?_⟩
    · rw [show ((i + 1 : Nat) : Int) = (i : Int) + 1 by omega]; exact e3
    · have hlt : c < s.heap.objs.size := by
        obtain ⟨o, q, _⟩ : ∃ o, s.heap.get? c = some o ∧ True := by
          obtain ⟨x, fl, _, hz⟩ := sz.z
          obtain ⟨u, v, hto⟩ := sz.to
          obtain ⟨o1, q1, _, d1⟩ := sz.a
          obtain ⟨o2, q2, _, d2⟩ := sz.b
          simp only [List.mem_cons, List.not_mem_nil, or_false] at hc
          rcases hc with q | q | q | q | q | q
          · rw [q]; exact ⟨_, he, trivial⟩
          · rw [q]; exact ⟨_, hz, trivial⟩
          · rw [q]; exact ⟨_, sz.ti, trivial⟩
          · rw [q]; exact ⟨_, hto, trivial⟩
          · rw [q]; exact ⟨_, q1, trivial⟩
          · rw [q]; exact ⟨_, q2, trivial⟩
        exact Heap.lt_size q
      rw [upd_ne (Nat.ne_of_lt (Nat.lt_succ_of_lt hlt)), upd_ne (Nat.ne_of_lt hlt)]
      exact (hf c hc).1
  done := by
    intro X hP hw hK hc i pins s σ H E I hf st hg
    subst hP hw hK
    obtain ⟨⟨old, he⟩, sz⟩ := st
    obtain ⟨xs, ys, hqx, hqy, hend⟩ := hg
    obtain ⟨its, rv, tp, _⟩ := I.tuple hqx
    obtain ⟨its2, rv2, tp2, _⟩ := I.tuple hqy
    have l1 := rv.length
    have l2 := rv2.length
    refine ez_end (I.ok.hd hc) D he sz (show s.heap.IsTuple a its.toArray from tp) (show s.heap.IsTuple b its2.toArray from tp2) (by
      rcases hend with q | q
      · exact .inl (by simp; omega)
      · exact .inr (by simp; omega)) fun h' k1 => ⟨rfl, I.turnedL (t' := s.toks) (ch := [z, TO, i1, i2]) k1 fun c hc => hf c (by
      simp only [List.mem_cons, List.not_mem_nil, or_false] at hc ⊢
      rcases hc with q | q | q | q <;> simp [q])⟩
  self := fun A i s Q E st h => let ⟨⟨_, he⟩, _⟩ := st; wpAny_pyIter_enum he h
section
variable {X : Cx}
theorem yields_ez {K : PySem.W.Frag} {ρ0 : List Addr} {H0 : Hp} {a b : Addr} {ds es : List D} {vs ws : List V} (ea : H0 a = some (.tup vs)) (eb : H0 b = some (.tup ws)) (rs : VRs ρ0 H0 ds vs) (rs' : VRs ρ0 H0 es ws) : Yields K (Iez K a b) ρ0 H0 (enumV (zipV ds es)) [] := by
  intro i ρ H S gg s ok
  have q := SqT.of (K := K) (gg.tup ea)
  have q' := SqT.of (K := K) (gg.tup eb)
  have rs := rs.go gg
  have rs' := rs'.go gg
  refine ⟨fun hl => ⟨vs, ws, q, q', ?_⟩, fun d hd => ?_⟩
  · unfold enumV zipV at hl
    rw [List.length_map, List.length_zipIdx, List.length_map, List.length_zip, rs.len, rs'.len] at hl
    omega
  · unfold enumV zipV at hd
    rw [List.getElem?_map, List.getElem?_zipIdx, List.getElem?_map] at hd
    obtain ⟨p, hp, rfl⟩ := Option.map_eq_some_iff.mp hd
    obtain ⟨p2, hq, rfl⟩ := Option.map_eq_some_iff.mp hp
    obtain ⟨p3, hr, rfl⟩ := Option.map_eq_some_iff.mp hq
    obtain ⟨hp1, hp2⟩ := List.getElem?_zip_eq_some.mp hr
    obtain ⟨v, e1, r⟩ := rs.get hp1
    obtain ⟨w, e2, r'⟩ := rs'.get hp2
    refine ⟨⟨vs, ws, v, w, q, q', e1, e2⟩, fun x H' y => ?_⟩
    obtain ⟨T, U, z1, z2, rfl, hT, hU, hn, rfl, y1, y2⟩ := y
    have t1 := y1 vs q
    have t2 := y2 ws q'
    rw [e1] at t1
    rw [e2] at t2
    cases t1
    cases t2
    obtain ⟨g1, s1, r1⟩ := laid_pair s hT r r'
    have hU' : upd H T (.tup [v, w]) U = none := by rw [upd_ne (Ne.symm hn)]; exact hU
    obtain ⟨g2, s2, r2⟩ := laid_pair s1 hU' (.int ((i : Nat) : Int)) r1
    refine ⟨g1.trans g2, s2, ?_⟩
    rw [Nat.zero_add]
    exact r2
theorem enumZipMeets (z TI TO : Addr) (f0 : Value) :
    Meets (Builtin.«enumerate.__new__» ⟨[.type "enumerate", .ref z], []⟩) (fun _ R s => IsZip s.heap z TI TO f0 ∧
      R (.ok (.ret (.ref s.heap.objs.size))) { s with heap := s.heap.push { cls := .type "enumerate", data := .fields #[.none, .bool false, .ref z, rawInt 0, .none, .none] } }) :=
  .of_wp fun prog w A R st pre => by
    obtain ⟨hp, g, d, tk, os⟩ := st
    obtain ⟨isZ, post⟩ := pre
    have sub := sub_enumerate
    have begin_ : ∀ {A' : Around} {E : Value → Shared → Prop} {Q : Value → Shared → Prop}, Q (.ref z) ⟨hp, g, d, tk, os⟩ → wpAny (model prog w) A' (pyIter (.ref z)) Q E ⟨hp, g, d, tk, os⟩ :=
      fun q => wpAny_pyIter_zip (s := ⟨hp, g, d, tk, os⟩) isZ q
    wp_walk using begin_
    refine wpAny_stack_any fun _ => wpAny_pure ?_
    split
    · rename_i c _ _ _ _ _
      cases (c == Value.type "enumerate")
      all_goals
        wp_walk using begin_
        exact ⟨_, rfl, post⟩
    · wp_walk using begin_
      exact ⟨_, rfl, post⟩
theorem call_enumZ {prog : Program} {w : World} {A : Around} {E : Value → Shared → Prop} {s : Shared} {z TI TO : Addr} {f0 : Value} {Q : Value → Shared → Prop} (hZ : IsZip s.heap z TI TO f0)
    (h : ∀ h', IsEnum h' s.heap.objs.size z 0 .none → (∀ b o, s.heap.get? b = some o → h'.get? b = some o) → Q (.ref s.heap.objs.size) { s with heap := h' }) :
    wpAny (model prog w) A (call (.type "enumerate") [.ref z]) Q E s := by
  refine callType_new F.called_enumerate (by decide) (F.typeCall_enumerate_1 _) (F.newCall_enumerate_1 _) (fun obj => F.args_object_init_2 obj _) F.entry_enumerate_new (enumZipMeets z TI TO f0) ⟨hZ, ?_⟩
  have isE : IsEnum (s.heap.push { cls := .type "enumerate", data := .fields #[.none, .bool false, .ref z, rawInt 0, .none, .none] }) s.heap.objs.size z 0 .none := Heap.get?_push_size _ rfl
  exact ⟨⟨_, isE, rfl⟩, h _ isE fun b o e => Heap.get?_push_of_some _ e⟩
theorem si_enumz {E E2 : Expr} {x y : Ex} {elts : List Expr} {kk : Nat} {p p2 pos pos2 tpos : Pos} (hg : Gl X "enumerate") (hm : X.mg "enumerate" = none) (hg2 : Gl X "zip") (hm2 : X.mg "zip" = none) (he : SE X E (evalE x)) (he2 : SE X E2 (evalE y))
    (hs : starEach [E, E2] X.env = (false, eval E X.env) :: starEach [E2] X.env) (hs2 : starEach [E2] X.env = (false, eval E2 X.env) :: starEach [] X.env) (hpl : (backTo pos2 (starEach [E2] X.env)).any (·.1) = false) :
    SI X (.Tuple elts kk tpos) (.Call (.Name "enumerate" p) [.Call (.Name "zip" p2) [E, E2] [] pos2] [] pos) (evalIt (.enumz x y)) := by
  refine ⟨fun pins s σ H R I h => ?_⟩
  obtain ⟨ρ, e, S, ds, g, S', h1, h2, h3, k⟩ := h
  simp only [evalIt] at h3
  split at h3
  · cases h3
  rename_i d S1 e1
  split at h3
  · cases h3
  rename_i d2 S2 e2
  split at h3
  · cases h3
  rename_i xs g' e3
  cases h3
  unfold zipT at e3
  split at e3
  · cases e3
    rename_i as bs
    refine Call_ (ld_blt I hg hm boot_enumerate (PyProof.Rows.callWith_type1 (PyProof.Rows.args_cons ?_ rfl) rfl rfl))
    refine Call_ (ld_blt I hg2 hm2 PyProof.Rows.boot_zip (PyProof.Rows.callWith_type1 (thn ((pa_cons he (pa_cons he2 pa_nil hs2) hs).run pos2 pins s σ H (fun vs H1 => ∃ ρ1 v1 v2, vs = [v1, v2] ∧ Go ρ H ρ1 H1 ∧ SR X.K ρ1 H1 S' ∧ VR ρ1 H1 (.tup as) v1 ∧ VR ρ1 H1 (.tup bs) v2) I ⟨ρ, e, S, _, S1, h1, h2, e1, fun ρ1 H1 v1 g1 s1 r1 => ⟨ρ1, e, S1, _, _, h1.go g1, s1, e2, fun ρ2 H2 v2 g2 s2 r2 => ⟨ρ2, v1, v2, rfl, g1.trans g2, s2, r1.go g2, r2⟩⟩⟩) fun us s1 ⟨vs, H1, I1, r1, ρ1, v1, v2, ev, g1, hS, ra, rb⟩ => ?_) hs hpl))
    subst ev
    cases r1 with
    | cons r r' =>
      cases r' with
      | cons r' rr =>
        cases rr
        cases ra with
        | tup ea rs =>
          cases rb with
          | tup eb rs' =>
            rename_i a vs b ws
            cases r
            cases r'
            obtain ⟨its, rv, p1, _⟩ := I1.tuple (.of ea)
            obtain ⟨its2, rv2, q1, _⟩ := I1.tuple (.of eb)
            obtain ⟨o1, ho1, _⟩ := id p1
            obtain ⟨o2, ho2, _⟩ := id q1
            refine RZ.call_zipT (show s1.heap.IsTuple a its.toArray from p1) (show s1.heap.IsTuple b its2.toArray from q1) fun h' hz hTI hTO i1 i2 hsz hk => ?_
            refine PyProof.Rows.args_nil ?_
            refine call_enumZ (s := { s1 with heap := h' }) hz fun h2 hE hk2 => wpAny_pyIter_enum hE ?_
            have I2 : L2.Inv X pins σ H1 { s1 with heap := h2 } := I1.kept (t' := s1.toks) fun c o q => hk2 c o (hk c o q)
            have hE : IsEnum h2 (s1.heap.objs.size + 5) (s1.heap.objs.size + 4) 0 .none := by rw [← hsz]; exact hE
            show PIE X pins σ _ R (.ref h'.objs.size) { s1 with heap := h2 }
            rw [hsz]
            refine ⟨s1.heap.objs.size + 5, [s1.heap.objs.size + 5, s1.heap.objs.size + 4, s1.heap.objs.size + 2, s1.heap.objs.size + 3, s1.heap.objs.size, s1.heap.objs.size + 1], _, _, H1, rfl, I2, turn_ez (PySem.W.ktu_apart s1.heap.objs.size a b (Heap.lt_size ho1) (Heap.lt_size ho2)) ?_, ⟨⟨.none, hE⟩, ⟨⟨.none, false, .inl rfl, hk2 _ _ hz⟩, hk2 _ _ hTI, ⟨_, _, hk2 _ _ hTO⟩, i1.at fun o q => hk2 _ o q, i2.at fun o q => hk2 _ o q⟩⟩, fun c hc => ?_, k ρ1 H1 _ g1 hS (yields_ez ea eb rs rs')⟩
            · simp only [List.mem_cons, List.not_mem_nil, or_false, not_or]
              have n : ∀ {i j : Nat}, i ≠ j → (s1.heap.objs.size + i : Nat) ≠ s1.heap.objs.size + j := fun h q => h (Nat.add_left_cancel q)
              exact ⟨n (by decide), n (by decide), n (by decide), n (i := 5) (j := 0) (by decide), n (by decide)⟩
            · have hle : s1.heap.objs.size ≤ c := by
                simp only [List.mem_cons, List.not_mem_nil, or_false] at hc
                rcases hc with z | z | z | z | z | z
                · rw [z]; exact Nat.le_add_right _ _
                · rw [z]; exact Nat.le_add_right _ _
                · rw [z]; exact Nat.le_add_right _ _
                · rw [z]; exact Nat.le_add_right _ _
                · rw [z]; exact Nat.le_refl _
                · rw [z]; exact Nat.le_add_right _ _
              exact I1.fpOk hle (I1.hok.fresh hle)
  · cases e3
end
end N
set_option autoImplicit false
set_option Elab.async false
set_option linter.all false
set_option maxRecDepth 100000
set_option maxHeartbeats 4000000
/-! dict comprehensions whose keys are ints, texts or tuples of these -/
namespace N
open PySem L2 PySem.Spec PyProof.Rows
/-- a new dict may be told anew, for keys of the other sort -/
def Re (D : Addr) (H H' : Hp) : Prop := H' = H ∨ (H D = some (.dK []) ∧ H' = upd H D (.dT [])) ∨ (H D = some (.dT []) ∧ H' = upd H D (.dK []))
section
variable {X : Cx}
theorem Re.inv {pins : List (Addr × Obj)} {σ : L2.St} {H H' : Hp} {s : Shared} {D : Addr} (I : L2.Inv X pins σ H s) (r : Re D H H') : L2.Inv X pins σ H' s := by
  rcases r with rfl | ⟨e, rfl⟩ | ⟨e, rfl⟩
  · exact I
  · exact emptyT I e
  · exact emptyK I e
/-- the pair goes into the dict -/
theorem put_pair {pins : List (Addr × Obj)} {σ : L2.St} {H H' : Hp} {s : Shared} {D : Addr} {y v : V} {u r : Value} {E : Value → Shared → Prop} {Q : Unit → Shared → Prop} (hu : X.A.units < cLine) (I : L2.Inv X pins σ H s) (g : DPut H D y v H') (ry : RelV y u) (rv : RelV v r)
    (h : ∀ s', L2.Inv X pins σ H' s' → Q () s') : wpAny (model X.prog X.w) X.A (dictSet D u r) Q E s := by
  rcases g with ⟨kvs, k, e, rfl, hl, rfl⟩ | ⟨kvs, k, b, e, rfl, eb, hl, rfl⟩
  · exact d_dictSet I e hl ry rv h
  · obtain rfl : u = Value.ref b := ry
    obtain ⟨z, hd, xs, rel, dd⟩ := dt_of I.hok e
    have hz : xs.length ≤ sizeLine := by rw [← Paired.length rel]; exact z
    have hn : (putK kvs k v).length ≤ sizeLine := Nat.le_trans (length_putK kvs k v) hl
    refine wpAny_dictSet_heap (hsz := hz) (show (tupleKind (mixKind X.prog X.w)).room X.A from hu) (key_of I.hok eb) dd fun h' dd' hs => h _ ?_
    obtain ⟨q, es, ep, hq, c1, c2, c3, _, c4⟩ := dd'
    refine d_write I (by rw [e]; trivial) hs ⟨q, hq⟩ ⟨hn, hd, _, (rel.put k eb rv).keeps fun c ys ec => ?_, q, es, ep, hq, c1, c2, c3, c4⟩
    rw [upd_ne (ne_of ec e (fun z => nomatch z))]
    exact ec
/-- one turn's work with what is drawn, toward Nx -/
abbrev DStep (σ : L2.St) (vs : List Nat) (D : Addr) (tt : TT) (tk tv : TE) (Nx : Hp → Prop) : L2.St → Hp → Prop := fun σ2 H2 =>
  L2.wipe σ2 vs = L2.wipe σ vs ∧ tt σ2 H2 fun b H3 => if b = true then tk σ2 H3 fun y H4 => tv σ2 H4 fun z H5 => ∃ H6 H7, Re D H5 H6 ∧ DPut H6 D y z H7 ∧ Nx H7 else Nx H3
/-- how the comprehension may go on with the walk J, D the new dict -/
abbrev DGoes (J : It) (g : TG) (tt : TT) (tk tv : TE) (vs : List Nat) (σ : L2.St) (D : Addr) (W : Nat → Nat → Hp → Prop) (Q : VK) : Prop := ∀ i m H, W i m H →
  (J.stop i H ∧ Q (.ref D) H) ∨ (J.go i H ∧ ∃ Nx : Hp → Prop, (∀ H', Nx H' → ∃ m', m' < m ∧ W (i + 1) m' H') ∧ ∀ x H', J.yld i H x H' → g x (L2.wipe σ vs) H' (DStep σ vs D tt tk tv Nx))
def tDcN (wi : TI) (g : TG) (tt : TT) (tk tv : TE) (vs : List Nat) : TE := fun σ H Q => wi σ H fun J H1 => ∀ D, H1 D = none → ∃ W : Nat → Nat → Hp → Prop, (∃ m, W 0 m (upd H1 D (.dK []))) ∧ DGoes J g tt tk tv vs σ D W Q
section
variable {pins : List (Addr × Obj)} {s : Shared} {σ : L2.St} {H : Hp} {Q : VK} {kx vx tg iter : Expr} {ifs : List Expr} {scope : Scope} {own : List (Str × Nat)} {pos pos' : Pos} {wi : TI} {g : TG} {tt : TT} {tk tv : TE}
/-- the block's loop: B its context, ce its frame -/
theorem dcm_loop {J : It} {fp : List Addr} {it D : Addr} {tn : Nat → Heap → Prop} {W : Nat → Nat → Hp → Prop} {B : Cx} {R : PySem.Result → Shared → Prop} {σ0 : L2.St} (hc : B.calm = true) (hu : B.A.units < cLine)
    (T : Turn B.prog B.w B.K tg J fp it tn) (pg : PG B tg g) (pt : PTs B ifs tt) (pk : PE B kx tk) (pv : PE B vx tv) (hx : B.xe = fun e s' => False)
    (stat : ∀ {σ' : L2.St} {H' : Hp} {s' : Shared}, L2.Inv B [] σ' H' s' → (∀ b ∈ fp, H' b = none) → ∀ b ∈ fp, FpOk B [] H' b)
    (go : DGoes J g tt tk tv (own.map (·.2)) σ0 D W Q) (fin : ∀ H' s', L2.Inv B [] (L2.wipe σ0 (own.map (·.2))) H' s' → Q (.ref D) H' → R (.ok .next) s') {m0 : Nat} {H0 : Hp} {s0 : Shared} (I0 : L2.Inv B [] (L2.wipe σ0 (own.map (·.2))) H0 s0) (st0 : tn 0 s0.heap) (n0 : ∀ b ∈ fp, H0 b = none) (w0 : W 0 m0 H0) :
    codeAny (model B.prog B.w) B.A (.compLoop (.DictComp kx vx [⟨tg, iter, ifs, 0⟩] scope pos) 0 (.ref it) (.ref D) B.env) R s0 := by
  refine compLoop_anyD (fun n s' => ∃ i H', L2.Inv B [] (L2.wipe σ0 (own.map (·.2))) H' s' ∧ tn i s'.heap ∧ (∀ b ∈ fp, H' b = none) ∧ W i n H') ?_ m0 ⟨0, H0, I0, st0, n0, w0⟩
  rintro n s5 ⟨i, H5, I5, st5, n5, w5⟩
  rcases go i n H5 w5 with ⟨stop, q5⟩ | ⟨goes, Nx, hNx, step⟩
  · refine thnF (T.done B rfl rfl rfl hc i [] s5 _ H5 (fun _ _ => False) I5 (stat I5 n5) st5 stop) fun r s6 ⟨hr, I6⟩ => ?_
    rw [hr]
    exact fin H5 s6 I6 q5
  · refine thnF (T.item B rfl rfl rfl hc i [] s5 _ H5 (fun _ _ => False) I5 (stat I5 n5) st5 goes) fun r s6 ⟨u, hr, h6⟩ => ?_
    rw [hr]
    refine thnF h6 fun _ s7 ⟨x, H7, I7, r7, y7, st7, n7⟩ => ?_
    have I7' := I7.pinned (stat I7 n7) (T.obj _ _ st7)
    have pg' := pg.run _ s7 _ H7 x u _ I7' r7 (step x H7 y7)
    rw [hx] at pg'
    refine thnF pg' fun _ s8 ⟨σ8, H8, I8, hw8, q8⟩ => ?_
    have pt' := pt.run _ s8 σ8 H8 _ I8 q8
    rw [hx] at pt'
    refine thnF pt' fun b s9 ⟨H9, I9, q9⟩ => ?_
    -- a turn is done
    have next : ∀ {s' : Shared} {H' : Hp}, L2.Inv B ([] ++ pinsAt fp s7.heap) σ8 H' s' → Nx H' → ∃ m, m < n ∧ ∃ i H', L2.Inv B [] (L2.wipe σ0 (own.map (·.2))) H' s' ∧ tn i s'.heap ∧ (∀ b ∈ fp, H' b = none) ∧ W i m H' := by
      intro s' H' I' nx
      obtain ⟨m', hm, w'⟩ := hNx H' nx
      have pin : ∀ b ∈ fp, ∀ o, s7.heap.get? b = some o → s'.heap.get? b = some o ∧ H' b = none := by
        intro b hb o e
        have z := I'.pin (b, o) (List.mem_append_right _ (List.mem_append_right _ (mem_pinsAt hb e)))
        exact ⟨z.1, z.2.1⟩
      refine ⟨m', hm, i + 1, H', (I'.unpinned (pins := [])).weak (by rw [← hw8, L2.wipe_length]) fun j v e => ?_, T.keep _ _ _ st7 fun b hb o e => (pin b hb o e).1, fun b hb => ?_, w'⟩
      · rw [← hw8] at e
        exact (L2.wipe_some e).1
      · obtain ⟨o, e, _⟩ := T.obj _ _ st7 b hb
        exact (pin b hb o e).2
    cases b with
    | false =>
      simp only [Bool.false_eq_true, if_false] at q9 ⊢
      exact next I9 q9
    | true =>
      simp only [if_true] at q9 ⊢
      have pk' := pk.run _ s9 σ8 H9 _ I9 q9
      rw [hx] at pk'
      refine thnF pk' fun uk s10 ⟨yk, H10, I10, r10, q10⟩ => ?_
      have pv' := pv.run _ s10 σ8 H10 _ I10 q10
      rw [hx] at pv'
      refine thnF pv' fun uv s11 ⟨yv, H11, I11, r11, H12, H13, re, dp, nx⟩ => ?_
      exact put_pair hu (re.inv I11) dp r10 r11 fun s12 I12 => next I12 nx
/-- the whole comprehension, what comes of it used by `use` -/
theorem dcm_core {use : Option (Value → Sem Unit)} {Qf : Value → Shared → Prop} (I : L2.Inv X pins σ H s) (h : tDcN wi g tt tk tv (own.map (·.2)) σ H Q) (hc : X.calm = true) (hu : X.A.units < cLine) (hN : X.N.Nodup) (hi : PI X tg iter wi) (ok : BlkOk X.N X.env.scope scope own)
    (hg : ∀ (s : Shared) (H : Hp) (C : Addr) (cl : List (Str × Addr)) (fp : List Addr), PG (X.blk s H scope (compEnvC scope cl C X.env) fp) tg g)
    (ht : ∀ (s : Shared) (H : Hp) (C : Addr) (cl : List (Str × Addr)) (fp : List Addr), PTs (X.blk s H scope (compEnvC scope cl C X.env) fp) ifs tt)
    (hk : ∀ (s : Shared) (H : Hp) (C : Addr) (cl : List (Str × Addr)) (fp : List Addr), PE (X.blk s H scope (compEnvC scope cl C X.env) fp) kx tk)
    (hv : ∀ (s : Shared) (H : Hp) (C : Addr) (cl : List (Str × Addr)) (fp : List Addr), PE (X.blk s H scope (compEnvC scope cl C X.env) fp) vx tv)
    (hs : ∀ x, foldedSetIterable iter X.env x = pure x)
    (hRR : ∀ D C s' m H', L2.Inv X pins σ H' s' → Q (.ref D) H' → s'.heap.Ns C m → FpOk X pins H' C → compPost (model X.prog X.w) X.A X.xe use Qf (.ref D) C (.ok .next) s') :
    wpAny (model X.prog X.w) X.A (comprehension (.DictComp kx vx [⟨tg, iter, ifs, 0⟩] scope pos) scope X.env pos' newDict false (eval iter X.env) use) Qf X.xe s := by
  have hfree : ∀ y ∈ scope.names, y.2 = .free → ∃ c, X.env.cells.lookup y.1 = some c := fun y hy e => (ok.free y hy e).elim (fun k => I.ok.has _ (.inl k)) fun k => I.ok.has _ (.inr k)
  refine wpAny_comprehension_free (use := use) rfl hs (closure_ok hfree) ok.kind (fun y hy e => by rw [ok.uniq y hy, e]) (thn (hi.run pins s σ H _ I h) fun xv s1 hx => thn hx fun itv s2 h2 => ?_)
  obtain ⟨it, fp, tn, J, H2, rfl, I2, T, st2, f2, q⟩ := h2
  refine wpAny_newObj_type (newEnv_comp ?_)
  have lt2 : ∀ b ∈ fp, b < s2.heap.objs.size := fun b hb => let ⟨o, e, _⟩ := T.obj _ _ st2 b hb; Heap.lt_size e
  generalize hD : s2.heap.objs.size = D at lt2
  obtain ⟨W, ⟨m0, w0⟩, turn⟩ := q D (I2.hok.fresh (Nat.le_of_eq hD))
  -- the new dict
  generalize hs3 : ({ s2 with heap := s2.heap.push { cls := .type "dict", data := .dict #[] } } : Shared) = s3
  have h3 : s3.heap = s2.heap.push { cls := .type "dict", data := .dict #[] } := by rw [← hs3]
  have keep3 : ∀ b o, s2.heap.get? b = some o → s3.heap.get? b = some o := fun b o e => by rw [h3]; exact Heap.get?_push_of_some _ e
  have I3 : L2.Inv X pins σ (upd H2 D (.dK [])) s3 := by
    rw [← hs3]
    refine I2.laid (t' := s2.toks) (fun b o e => Heap.get?_push_of_some _ e) (Nat.le_of_eq hD) ?_
    subst hD
    exact dk_empty s2.heap I2.big
  have f3 : ∀ b ∈ fp, FpOk X pins (upd H2 D (.dK [])) b ∧ b < s3.heap.objs.size := fun b hb => by
    obtain ⟨z0, z⟩ := f2 b hb
    refine ⟨⟨by rw [upd_ne (Nat.ne_of_lt (lt2 b hb))]; exact z0, z⟩, ?_⟩
    rw [h3, Heap.size_push, hD]
    exact Nat.lt_succ_of_lt (lt2 b hb)
  have I4 := block_start I3 ok hN f3
  generalize hH3 : upd H2 D (.dK []) = H3 at I3 I4 w0 f3
  generalize hcl : cellsFrom (s3.heap.objs.size + 1) scope.names (cloFrom X.env.cells scope.names []) = cl at I4
  generalize hB : X.blk s3 H3 scope (compEnvC scope cl s3.heap.objs.size X.env) fp = B at I4
  have n3 : ∀ b ∈ fp, H3 b = none := fun b hb => (f3 b hb).1.1
  have keep4 : ∀ b o, s2.heap.get? b = some o → (pushCells (s3.heap.push { cls := .type "dict", data := .dict #[] }) scope.names).get? b = some o := fun b o e => pushCells_keeps _ _ _ _ (Heap.get?_push_of_some _ (keep3 b o e))
  have st4 : tn 0 (pushCells (s3.heap.push { cls := .type "dict", data := .dict #[] }) scope.names) := T.keep _ _ _ st2 fun b _ o e => keep4 b o e
  have stat : ∀ {σ' : L2.St} {H' : Hp} {s' : Shared}, L2.Inv B [] σ' H' s' → (∀ b ∈ fp, H' b = none) → ∀ b ∈ fp, FpOk B [] H' b := by
    intro σ' H' s' I' hn b hb
    subst hB
    exact ⟨hn b hb, (I'.ok.exf b hb).1, I'.ok.exfs b hb, .inl hb, fun x c e => (I'.ok.exf b hb).2 x c e, fun p hp => absurd (show p ∈ ([] : List (Addr × Obj)) ++ [] from hp) (by simp)⟩
  have eB : B.prog = X.prog ∧ B.w = X.w ∧ B.K = X.K ∧ B.A = X.A ∧ B.calm = X.calm ∧ B.env = compEnvC scope cl s3.heap.objs.size X.env ∧ B.xe = fun _ _ => False := by subst hB; exact ⟨rfl, rfl, rfl, rfl, rfl, rfl, rfl⟩
  obtain ⟨b1, b2, b3, b4, b5, b6, b7⟩ := eB
  have pg : PG B tg g := by rw [← hB]; exact hg _ _ _ _ _
  have pt : PTs B ifs tt := by rw [← hB]; exact ht _ _ _ _ _
  have pk : PE B kx tk := by rw [← hB]; exact hk _ _ _ _ _
  have pv : PE B vx tv := by rw [← hB]; exact hv _ _ _ _ _
  have T' : Turn B.prog B.w B.K tg J fp it tn := by rw [b1, b2, b3]; exact T
  have loop := dcm_loop (iter := iter) (scope := scope) (pos := pos) (R := compPost (model X.prog X.w) X.A X.xe use Qf (.ref D) s3.heap.objs.size) (by rw [b5]; exact hc) (by rw [b4]; exact hu) T' pg pt pk pv b7 stat turn (fun H' s' I' q' => ?_) I4 st4 n3 w0
  · rw [b1, b2, b4, b6] at loop
    subst hcl
    exact codeAny_compStart_dict loop (T.self X.A 0 _ _ _ st4 loop)
  · -- back in the def's frame
    subst hB
    have I7 : L2.Inv X pins σ H' s' := I3.call' (ch := fp) I'.os I'.base I'.hok I'.bare fun b hb => by
      obtain ⟨_, z1, _, z3, z4, z5⟩ := (f3 b hb).1
      exact ⟨z3, z1, z4, z5⟩
    obtain ⟨m, hn, _⟩ := I'.loc
    exact hRR D _ s' m H' I7 q' hn (I3.fpOk (Nat.le_refl _) (show H' s3.heap.objs.size = none from I'.free))
end
section
variable {kx vx tg iter : Expr} {ifs : List Expr} {scope : Scope} {own : List (Str × Nat)} {pos : Pos} {wi : TI} {g : TG} {tt : TT} {tk tv : TE}
/-- as a value -/
theorem pe_dcN (hc : X.calm = true) (hu : X.A.units < cLine) (hN : X.N.Nodup) (hi : PI X tg iter wi) (ok : BlkOk X.N X.env.scope scope own)
    (hg : ∀ (s : Shared) (H : Hp) (C : Addr) (cl : List (Str × Addr)) (fp : List Addr), PG (X.blk s H scope (compEnvC scope cl C X.env) fp) tg g)
    (ht : ∀ (s : Shared) (H : Hp) (C : Addr) (cl : List (Str × Addr)) (fp : List Addr), PTs (X.blk s H scope (compEnvC scope cl C X.env) fp) ifs tt)
    (hk : ∀ (s : Shared) (H : Hp) (C : Addr) (cl : List (Str × Addr)) (fp : List Addr), PE (X.blk s H scope (compEnvC scope cl C X.env) fp) kx tk)
    (hv : ∀ (s : Shared) (H : Hp) (C : Addr) (cl : List (Str × Addr)) (fp : List Addr), PE (X.blk s H scope (compEnvC scope cl C X.env) fp) vx tv)
    (hs : ∀ x, foldedSetIterable iter X.env x = pure x) : PE X (.DictComp kx vx [⟨tg, iter, ifs, 0⟩] scope pos) (tDcN wi g tt tk tv (own.map (·.2))) := by
  refine ⟨fun pins s σ H Q I h => ?_⟩
  rw [arm_eval_DictComp]
  refine dcm_core (use := none) (Qf := EP X pins σ Q) I h hc hu hN hi ok hg ht hk hv hs fun D C s' m H' I' q hn f => ⟨m, hn, fun h2 sb => ?_⟩
  obtain ⟨f0, f1, _, f4, f5, f6⟩ := f
  exact ⟨.ref D, H', I'.turned (t' := s'.toks) (fun b o hb e => (sb.2 b hb).trans e) f0 f1 f4 f5 f6, rfl, q⟩
/-- stored at once in a local name on its line -/
theorem ps_setDcN {i : Nat} {nm : Str} {py spos : Pos} (hnm : X.N[i]? = some nm) (hloc : X.env.scope.names.lookup nm = some .local) (hsw : swapsWith (.DictComp kx vx [⟨tg, iter, ifs, 0⟩] scope pos) (some (.Name nm py)) spos.line X.env = pure true)
    (hc : X.calm = true) (hu : X.A.units < cLine) (hN : X.N.Nodup) (hi : PI X tg iter wi) (ok : BlkOk X.N X.env.scope scope own)
    (hg : ∀ (s : Shared) (H : Hp) (C : Addr) (cl : List (Str × Addr)) (fp : List Addr), PG (X.blk s H scope (compEnvC scope cl C X.env) fp) tg g)
    (ht : ∀ (s : Shared) (H : Hp) (C : Addr) (cl : List (Str × Addr)) (fp : List Addr), PTs (X.blk s H scope (compEnvC scope cl C X.env) fp) ifs tt)
    (hk : ∀ (s : Shared) (H : Hp) (C : Addr) (cl : List (Str × Addr)) (fp : List Addr), PE (X.blk s H scope (compEnvC scope cl C X.env) fp) kx tk)
    (hv : ∀ (s : Shared) (H : Hp) (C : Addr) (cl : List (Str × Addr)) (fp : List Addr), PE (X.blk s H scope (compEnvC scope cl C X.env) fp) vx tv)
    (hs : ∀ x, foldedSetIterable iter X.env x = pure x) : PS X (.Assign [.Name nm py] (.DictComp kx vx [⟨tg, iter, ifs, 0⟩] scope pos) spos) (tAsg (tDcN wi g tt tk tv (own.map (·.2))) (gName i)) := by
  refine ⟨fun pins s σ H De I h => ?_⟩
  rw [exec_Assign_Name_used _ _ _ _ hsw]
  have h : tDcN wi g tt tk tv (own.map (·.2)) σ H (fun x H1 => gName i x σ H1 De.nx) := h
  refine wpAny_bind (wpAny_standAt (wpAny_bind ?_))
  show wpAny _ X.A (do
    let _ ← comprehension (.DictComp kx vx [⟨tg, iter, ifs, 0⟩] scope pos) scope X.env (firstIterPos [⟨tg, iter, ifs, 0⟩] pos) newDict false (eval iter X.env) (some (assign (.Name nm py) X.env))) _ _ s
  have core := dcm_core (pos := pos) (pos' := firstIterPos [⟨tg, iter, ifs, 0⟩] pos) (use := some (assign (.Name nm py) X.env)) (Qf := fun _ s' => SP X pins De .next s') I h hc hu hN hi ok hg ht hk hv hs fun D C s' m H' I' q hn f => ?_
  · exact wpAny_bind (thn core fun _ s' hq => wpAny_pure (wpAny_pure hq))
  · have st := store_ok2 (M := model X.prog X.w) (A := X.A) (v := V.ref D) (u := .ref D) (Q := fun _ s2 => ∃ m, s2.heap.Ns C m ∧ ∀ h2, Heap.SameBut C s2.heap h2 → SP X pins De .next { s2 with heap := h2 }) (E := X.xe) I' hN hnm (.inl hloc) rfl (fun s2 I2 ⟨a, sb, ha⟩ => ?_) (.inr hloc)
    · exact wpAny_assign_Name st
    · obtain ⟨f0, f1, _, f4, f5, f6⟩ := f
      have apart : C ≠ a := ha.elim (fun z => by rw [z]; exact f1) fun z e => f5 nm a z e.symm
      exact ⟨m, hn.sameBut sb apart, fun h3 sb3 => ⟨_, H', I2.turned (t' := s2.toks) (fun b o hb e => (sb3.2 b hb).trans e) f0 f1 f4 f5 f6, q⟩⟩
end
end
end N
set_option autoImplicit false
set_option Elab.async false
set_option linter.all false
set_option maxRecDepth 100000
set_option maxHeartbeats 4000000
namespace N
open PySem L2 PySem.Spec PyProof.Rows
section
variable {X : Cx} {K : PySem.W.Frag} {ρ ρ0 ρ' : List Addr} {H H0 H' : Hp} {S S' : Sto} {d : D} {v : V} {e : Env} {σ : L2.St} {D0 : Addr}
theorem upd_tupsO {o : HO} (hD : ∀ vs, H D0 ≠ some (.tup vs)) : ∀ a vs, H a = some (.tup vs) → upd H D0 o a = some (.tup vs) := fun a vs q => by
  rw [upd_ne (fun z => hD vs (by rw [← z]; exact q))]; exact q
/-- what no place of the store tells is changed -/
theorem SR.offO {o : HO} (s : SR K ρ H S) (hD : ∀ vs, H D0 ≠ some (.tup vs)) (hn : D0 ∉ ρ) : SR K ρ (upd H D0 o) S :=
  ⟨s.len, fun n u a h1 h2 => (s.at_ n u a h1 h2).same (fun w q => by rw [upd_ne (fun z => hn (by rw [← z]; exact List.mem_of_getElem? h2))]; exact q) (fun _ _ r => r.tups (upd_tupsO hD)) fun _ _ r => r.tups (upd_tupsO hD), s.nd⟩
/-- a thing that stands already comes into the store -/
theorem SR.enter {o : O} (s : SR K ρ H S) (hn : D0 ∉ ρ) (h : OR K ρ H D0 o) : SR K (ρ ++ [D0]) H (S ++ [o]) := by
  have cases_ : ∀ {n : Nat} {b : Addr}, (ρ ++ [D0])[n]? = some b → ρ[n]? = some b ∧ b ≠ D0 ∧ n < S.length ∨ n = S.length ∧ b = D0 := fun {n b} q => by
    rw [List.getElem?_append] at q
    split at q
    · rename_i hl
      refine .inl ⟨q, fun z => hn (by rw [← z]; exact List.mem_of_getElem? q), by rw [← s.len]; exact hl⟩
    · rename_i hl
      obtain ⟨h1, h2⟩ := List.getElem?_eq_some_iff.mp q
      have h1 : n - ρ.length < 1 := h1
      have : n = ρ.length := by omega
      subst this
      simp at q
      exact .inr ⟨s.len, q.symm⟩
  have old : ∀ {n : Nat} {w : O}, n < S.length → (S ++ [o])[n]? = some w → S[n]? = some w := fun {n w} hl q => by rw [List.getElem?_append_left hl] at q; exact q
  refine ⟨by simp [s.len], fun n w b q1 q2 => ?_, fun m n b w u q1 q2 q3 q4 l1 l2 => ?_⟩
  · rcases cases_ q2 with ⟨q, _, hl⟩ | ⟨rfl, rfl⟩
    · exact (s.at_ n w b (old hl q1) q).same (fun _ z => z) (fun _ _ r => r.cat) fun _ _ r => r.cat
    · rw [List.getElem?_append_right (Nat.le_refl _)] at q1
      simp at q1
      subst q1
      exact h.same (fun _ z => z) (fun _ _ r => r.cat) fun _ _ r => r.cat
  · rcases cases_ q1 with ⟨e1, n1, hl1⟩ | ⟨rfl, z1⟩ <;> rcases cases_ q2 with ⟨e2, n2, hl2⟩ | ⟨z2, z3⟩
    · exact s.nd m n b w u e1 e2 (old hl1 q3) (old hl2 q4) l1 l2
    · exact absurd z3 n1
    · exact absurd z1 n2
    · exact z2.symm
/-- a dict that stands apart takes a pair -/
theorem put_for {kvs : List (D × D)} {k y : D} {kv yv : V} (o : OR K ρ H D0 (.dct kvs)) (rk : VR ρ H k kv) (ry : VR ρ H y yv) (hk : keysOk kvs k = true) (hl : kvs.length < line) :
    ∃ H6 H7, Re D0 H H6 ∧ DPut H6 D0 kv yv H7 ∧ OR K ρ H7 D0 (.dct (dput kvs k y)) ∧ ∃ u, H7 = upd H D0 u := by
  have keyCase : keyK k = true → ∃ q, k = kD q ∧ kv = kV q := fun h => by
    obtain ⟨q, rfl⟩ := keyK_kD h
    exact ⟨q, rfl, rk.key⟩
  have tupCase : keyT k = true → ∃ (q : List Key) (b : Addr), k = .tup (q.map kD) ∧ kv = .ref b ∧ H b = some (.tup (q.map kV)) := fun h => by
    obtain ⟨q, rfl⟩ := keyT_kD h
    cases rk with
    | tup eb rs => exact ⟨q, _, rfl, rfl, by rw [eb, rs.keys]⟩
  have hz : (line : Nat) = 16777216 := rfl
  have two : ∀ (H : Hp) (o1 o2 : HO), upd (upd H D0 o1) D0 o2 = upd H D0 o2 := fun H o1 o2 => by
    funext b
    by_cases z : b = D0
    · subst z; rw [upd_same, upd_same]
    · rw [upd_ne z, upd_ne z, upd_ne z]
  have endK : ∀ {q : Key} {ks : List (Key × V)} {H6 : Hp}, (H6 = H ∨ ∃ u, H6 = upd H D0 u) → Re D0 H H6 → H6 D0 = some (.dK ks) → (∀ vs, H D0 ≠ some (.tup vs)) → kR ρ H kvs ks → k = kD q → kv = kV q → ∃ H6 H7, Re D0 H H6 ∧ DPut H6 D0 kv yv H7 ∧ OR K ρ H7 D0 (.dct (dput kvs k y)) ∧ ∃ u, H7 = upd H D0 u := by
    intro q ks H6 hu re e6 nt r e1 e2
    subst e1 e2
    have lk := r.len
    refine ⟨H6, upd H6 D0 (.dK (putK ks q yv)), re, .k e6 (by rw [sizeLine_eq]; omega), .inl ⟨_, upd_same, ?_⟩, ?_⟩
    · rcases hu with rfl | ⟨u, rfl⟩
      · exact (r.put q ry).imp fun _ _ z => z.tups (upd_tupsO nt)
      · rw [two]; exact (r.put q ry).imp fun _ _ z => z.tups (upd_tupsO nt)
    · rcases hu with rfl | ⟨u, rfl⟩
      · exact ⟨_, rfl⟩
      · exact ⟨_, two _ _ _⟩
  have endT : ∀ {q : List Key} {b : Addr} {ks : List (List Key × V)} {H6 : Hp}, (H6 = H ∨ ∃ u, H6 = upd H D0 u) → Re D0 H H6 → H6 D0 = some (.dT ks) → (∀ vs, H D0 ≠ some (.tup vs)) → tR ρ H kvs ks → k = .tup (q.map kD) → kv = .ref b → H b = some (.tup (q.map kV)) → ∃ H6 H7, Re D0 H H6 ∧ DPut H6 D0 kv yv H7 ∧ OR K ρ H7 D0 (.dct (dput kvs k y)) ∧ ∃ u, H7 = upd H D0 u := by
    intro q b ks H6 hu re e6 nt r e1 e2 eb
    subst e1 e2
    have lk := r.len
    have nb : b ≠ D0 := fun z => nt _ (by rw [← z]; exact eb)
    refine ⟨H6, upd H6 D0 (.dT (putK ks q yv)), re, .t e6 ?_ (by rw [sizeLine_eq]; omega), .inr ⟨_, upd_same, ?_⟩, ?_⟩
    · rcases hu with rfl | ⟨u, rfl⟩
      · exact eb
      · rw [upd_ne nb]; exact eb
    · rcases hu with rfl | ⟨u, rfl⟩
      · exact (r.put q ry).imp fun _ _ z => z.tups (upd_tupsO nt)
      · rw [two]; exact (r.put q ry).imp fun _ _ z => z.tups (upd_tupsO nt)
    · rcases hu with rfl | ⟨u, rfl⟩
      · exact ⟨_, rfl⟩
      · exact ⟨_, two _ _ _⟩
  rcases o with ⟨ks, e1, r⟩ | ⟨ks, e1, r⟩
  · have nt : ∀ vs, H D0 ≠ some (.tup vs) := fun vs q => by rw [e1] at q; cases q
    cases kvs with
    | nil =>
      have hks : ks = [] := by cases ks; rfl; cases r
      subst hks
      rcases Bool.or_eq_true_iff.mp (show (keyK k || keyT k) = true from hk) with h | h
      · obtain ⟨q, a1, a2⟩ := keyCase h
        exact endK (.inl rfl) (.inl rfl) e1 nt r a1 a2
      · obtain ⟨q, b, a1, a2, a3⟩ := tupCase h
        exact endT (ks := []) (.inr ⟨_, rfl⟩) (.inr (.inl ⟨e1, rfl⟩)) upd_same nt trivial a1 a2 a3
    | cons p ps =>
      cases ks with
      | nil => cases r
      | cons c cs =>
        rcases Bool.or_eq_true_iff.mp (show ((keyK p.1 && keyK k) || (keyT p.1 && keyT k)) = true from hk) with h | h
        · obtain ⟨q, a1, a2⟩ := keyCase (Bool.and_eq_true_iff.mp h).2
          exact endK (.inl rfl) (.inl rfl) e1 nt r a1 a2
        · have := (Bool.and_eq_true_iff.mp h).1
          rw [r.1, keyT_kD'] at this; cases this
  · have nt : ∀ vs, H D0 ≠ some (.tup vs) := fun vs q => by rw [e1] at q; cases q
    cases kvs with
    | nil =>
      have hks : ks = [] := by cases ks; rfl; cases r
      subst hks
      rcases Bool.or_eq_true_iff.mp (show (keyK k || keyT k) = true from hk) with h | h
      · obtain ⟨q, a1, a2⟩ := keyCase h
        exact endK (ks := []) (.inr ⟨_, rfl⟩) (.inr (.inr ⟨e1, rfl⟩)) upd_same nt trivial a1 a2
      · obtain ⟨q, b, a1, a2, a3⟩ := tupCase h
        exact endT (.inl rfl) (.inl rfl) e1 nt r a1 a2 a3
    | cons p ps =>
      cases ks with
      | nil => cases r
      | cons c cs =>
        rcases Bool.or_eq_true_iff.mp (show ((keyK p.1 && keyK k) || (keyT p.1 && keyT k)) = true from hk) with h | h
        · have := (Bool.and_eq_true_iff.mp h).1
          rw [r.1, keyK_tup] at this; cases this
        · obtain ⟨q, b, a1, a2, a3⟩ := tupCase (Bool.and_eq_true_iff.mp h).2
          exact endT (.inl rfl) (.inl rfl) e1 nt r a1 a2 a3
theorem dctNt {a : Addr} {kvs : List (D × D)} (o : OR K ρ H a (.dct kvs)) : (∃ u, H a = some u ∧ Mut (some u)) ∧ ∀ vs, H a ≠ some (.tup vs) := by
  rcases o with ⟨ks, e, _⟩ | ⟨ks, e, _⟩
  · exact ⟨⟨_, e, trivial⟩, fun vs q => by rw [e] at q; cases q⟩
  · exact ⟨⟨_, e, trivial⟩, fun vs q => by rw [e] at q; cases q⟩
theorem dc_read {t it c kx vx : Ex} {own : List Nat} (hsl : ∀ j ∈ slots t, j ∈ own) {Q : VK} (h : TEv X.K (evalE (.dcomp kx vx t it c own)) σ H Q) :
    tDcN (TIv X.K (evalIt it)) (TGv X.K (slots t) (bindT t)) (TTv X.K (evalE c)) (TEv X.K (evalE kx)) (TEv X.K (evalE vx)) own σ H Q := by
  obtain ⟨ρ, e, S, d, S', h1, h2, h3, k⟩ := h
  simp only [evalE] at h3
  split at h3
  · cases h3
  rename_i ds g S1 e1
  split at h3
  case isFalse => cases h3
  split at h3
  · cases h3
  rename_i all S2 e2
  cases h3
  refine ⟨ρ, e, S, ds, g, S1, h1, h2, e1, fun ρ1 H1 J g1 s1 y => ?_⟩
  intro D0 hD0
  have E1 := h1.go g1
  have k1 := k.go g1
  let Pv : Nat → Hp → Prop := fun i H => ∃ ρ S acc, i ≤ ds.length ∧ Go ρ1 H1 ρ H ∧ SR X.K ρ H S ∧ OR X.K ρ H D0 (.dct acc) ∧ D0 ∉ ρ ∧
    dcompL (bindT t) (fun e S => thenT (evalE c e S)) (evalE kx) (evalE vx) g (N.wipe e own) (ds.drop i) acc S = some (all, S2)
  refine ⟨fun i m H => m = ds.length - i ∧ Pv i H, ⟨_, rfl, ρ1, S1, [], Nat.zero_le _, Go.laid hD0, s1.laid hD0, .inl ⟨[], upd_same, trivial⟩, fun z => s1.told z hD0, e2⟩, ?_⟩
  rintro i m H2 ⟨rfl, ρ2, S2', acc, hi, g2, s2, oD, hnD, run⟩
  have grow : ∀ {ρ4 : List Addr} {H4 : Hp}, Go ρ2 H2 ρ4 H4 → OR X.K ρ4 H4 D0 (.dct acc) ∧ D0 ∉ ρ4 := fun {ρ4 H4} g => by
    obtain ⟨⟨u, eu, _⟩, _⟩ := dctNt oD
    refine ⟨oD.same (fun w q => g.fr D0 w q fun z => hnD z.1) (fun _ _ r => r.go g) fun _ _ r => r.go g, fun z => ?_⟩
    obtain ⟨δ, e, nn⟩ := g.ext
    rw [e] at z
    rcases List.mem_append.mp z with z | z
    · exact hnD z
    · have := nn D0 z
      rw [eu] at this; cases this
  cases hd : ds.drop i with
  | nil =>
    rw [hd] at run
    simp only [dcompL] at run
    split at run
    · rename_i okg
      cases run
      have hl : ds.length ≤ i := by
        have := congrArg List.length hd
        rw [List.length_drop, List.length_nil] at this
        omega
      refine .inl ⟨(y i ρ2 H2 _ g2 s2 okg).1 hl, k1 (ρ2 ++ [D0]) H2 _ ⟨?_, fun a o e n => g2.fr a o e n, g2.th⟩ (s2.enter hnD oD) (.ref (by rw [← s2.len]; simp))⟩
      obtain ⟨δ, e, nn⟩ := g2.ext
      refine ⟨δ ++ [D0], by rw [e, List.append_assoc], fun p hp => ?_⟩
      rcases List.mem_append.mp hp with z | z
      · exact nn p z
      · rw [List.mem_singleton.mp z]; exact hD0
    · cases run
  | cons d rest' =>
    rw [hd] at run
    simp only [dcompL] at run
    split at run
    case isFalse => cases run
    rename_i okg
    have hget : ds[i]? = some d := by
      have := List.getElem?_drop (xs := ds) (i := i) (j := 0)
      rw [hd] at this
      simpa using this.symm
    have hlt : i < ds.length := (List.getElem?_eq_some_iff.mp hget).1
    have hrest : ds.drop (i + 1) = rest' := by rw [← List.drop_drop, hd]; rfl
    obtain ⟨go, yl⟩ := (y i ρ2 H2 _ g2 s2 okg).2 d hget
    refine .inr ⟨go, Pv (i + 1), fun H' p => ⟨_, by omega, rfl, p⟩, fun x H3 hy => ?_⟩
    obtain ⟨g3, s3, r3⟩ := yl x H3 hy
    split at run
    · cases run
    rename_i e4 S4 q4
    have E3 : ER ρ2 H3 (N.wipe e own) (L2.wipe σ own) := ((E1.go g2).wipe own).go g3
    refine ⟨ρ2, N.wipe e own, S2', d, e4, S4, E3, s3, r3, q4, fun ρ5 H5 σ5 g5 s5 E5 o5 => ⟨wipe_eq o5 hsl, ?_⟩⟩
    have g25 := g3.trans g5
    split at run
    · cases run
    · rename_i S6 q6
      simp only [thenT] at q6
      split at q6
      case h_2 => cases q6
      rename_i d6 S7 q7
      obtain ⟨b', q8, q9⟩ := Option.map_eq_some_iff.mp q6
      cases q9
      refine ⟨ρ5, e4, S4, d6, _, false, E5, s5, q7, q8, fun ρ8 H8 g8 s8 => ?_⟩
      have g28 := g25.trans g8
      obtain ⟨o8, hn8⟩ := grow g28
      exact ⟨ρ8, _, acc, hlt, g2.trans g28, s8, o8, hn8, by rw [hrest]; exact run⟩
    · rename_i S6 q6
      simp only [thenT] at q6
      split at q6
      case h_2 => cases q6
      rename_i d6 S7 q7
      obtain ⟨b', q8, q9⟩ := Option.map_eq_some_iff.mp q6
      cases q9
      split at run
      · cases run
      rename_i yk S9 q9
      split at run
      · cases run
      rename_i yv S10 q10
      split at run
      case isFalse => cases run
      rename_i ck
      obtain ⟨ck1, ck2⟩ := Bool.and_eq_true_iff.mp ck
      have ck2 := of_decide_eq_true ck2
      refine ⟨ρ5, e4, S4, d6, _, true, E5, s5, q7, q8, fun ρ8 H8 g8 s8 => ⟨ρ8, e4, S6, yk, S9, E5.go g8, s8, q9, fun ρ9 H9 w9 g9 s9 r9 => ⟨ρ9, e4, S9, yv, S10, (E5.go g8).go g9, s9, q10, fun ρa Ha wa ga sa ra => ?_⟩⟩⟩
      have g2a := ((g25.trans g8).trans g9).trans ga
      obtain ⟨oa, hna⟩ := grow g2a
      obtain ⟨H6, H7, re, dp, o7, u, e7⟩ := put_for oa (r9.go ga) ra ck1 ck2
      subst e7
      obtain ⟨⟨ua, eua, ma⟩, nt⟩ := dctNt oa
      refine ⟨H6, _, re, dp, ρa, S10, _, hlt, ?_, sa.offO nt hna, o7, hna, by rw [hrest]; exact run⟩
      have gg := g2.trans g2a
      refine ⟨gg.ext, fun a o e n => ?_, fun a e => ?_⟩
      · rw [upd_ne (show a ≠ D0 from fun z => by rw [z, hD0] at e; cases e)]
        exact gg.fr a o e n
      · by_cases z : a = D0
        · rw [z, upd_same]; simp
        · rw [upd_ne z]; exact gg.th a e
/-- a dict comprehension with one for, one test (or none) -/
theorem se_dcomp {t it c kx vx : Ex} {own : List (Str × Nat)} {Kx Vx Tg Iter : Expr} {ifs : List Expr} {scope : Scope} {pos : Pos} (hc : X.calm = true) (hu : X.A.units < cLine) (hN : X.N.Nodup) (hi : SI X Tg Iter (evalIt it)) (ok : BlkOk X.N X.env.scope scope own)
    (hg : ∀ (s : Shared) (H : Hp) (C : Addr) (cl : List (Str × Addr)) (fp : List Addr), SG (X.blk s H scope (compEnvC scope cl C X.env) fp) Tg t)
    (ht : ∀ (s : Shared) (H : Hp) (C : Addr) (cl : List (Str × Addr)) (fp : List Addr), PTs (X.blk s H scope (compEnvC scope cl C X.env) fp) ifs (TTv X.K (evalE c)))
    (hk : ∀ (s : Shared) (H : Hp) (C : Addr) (cl : List (Str × Addr)) (fp : List Addr), SE (X.blk s H scope (compEnvC scope cl C X.env) fp) Kx (evalE kx))
    (hv : ∀ (s : Shared) (H : Hp) (C : Addr) (cl : List (Str × Addr)) (fp : List Addr), SE (X.blk s H scope (compEnvC scope cl C X.env) fp) Vx (evalE vx))
    (hs : ∀ x, foldedSetIterable Iter X.env x = pure x) (hsl : ∀ j ∈ slots t, j ∈ own.map (·.2)) : SE X (.DictComp Kx Vx [⟨Tg, Iter, ifs, 0⟩] scope pos) (evalE (.dcomp kx vx t it c (own.map (·.2)))) :=
  PE.imp (pe_dcN (g := TGv X.K (slots t) (bindT t)) (tt := TTv X.K (evalE c)) (tk := TEv X.K (evalE kx)) (tv := TEv X.K (evalE vx)) hc hu hN hi ok hg ht hk hv hs) fun σ H Q h => dc_read hsl h
theorem ss_setDc {i : Nat} {nm : Str} {py : Pos} {t it c kx vx : Ex} {own : List (Str × Nat)} {Kx Vx Tg Iter : Expr} {ifs : List Expr} {scope : Scope} {pos spos : Pos} (hc : X.calm = true) (hu : X.A.units < cLine) (hN : X.N.Nodup) (hy : X.N[i]? = some nm) (hyl : X.env.scope.names.lookup nm = some .local)
    (hsw : swapsWith (.DictComp Kx Vx [⟨Tg, Iter, ifs, 0⟩] scope pos) (some (.Name nm py)) spos.line X.env = pure true) (hi : SI X Tg Iter (evalIt it)) (ok : BlkOk X.N X.env.scope scope own)
    (hg : ∀ (s : Shared) (H : Hp) (C : Addr) (cl : List (Str × Addr)) (fp : List Addr), SG (X.blk s H scope (compEnvC scope cl C X.env) fp) Tg t)
    (ht : ∀ (s : Shared) (H : Hp) (C : Addr) (cl : List (Str × Addr)) (fp : List Addr), PTs (X.blk s H scope (compEnvC scope cl C X.env) fp) ifs (TTv X.K (evalE c)))
    (hk : ∀ (s : Shared) (H : Hp) (C : Addr) (cl : List (Str × Addr)) (fp : List Addr), SE (X.blk s H scope (compEnvC scope cl C X.env) fp) Kx (evalE kx))
    (hv : ∀ (s : Shared) (H : Hp) (C : Addr) (cl : List (Str × Addr)) (fp : List Addr), SE (X.blk s H scope (compEnvC scope cl C X.env) fp) Vx (evalE vx))
    (hs : ∀ x, foldedSetIterable Iter X.env x = pure x) (hsl : ∀ j ∈ slots t, j ∈ own.map (·.2)) : SS X (.Assign [.Name nm py] (.DictComp Kx Vx [⟨Tg, Iter, ifs, 0⟩] scope pos) spos) (execS (.asg (.tgN i) (.dcomp kx vx t it c (own.map (·.2))))) :=
  PS.imp (ps_setDcN (g := TGv X.K (slots t) (bindT t)) (tt := TTv X.K (evalE c)) (tk := TEv X.K (evalE kx)) (tv := TEv X.K (evalE vx)) hy hyl hsw hc hu hN hi ok hg ht hk hv hs) fun De σ H q => dc_read hsl (by
    obtain ⟨ρ, e, S, f, e', S', h1, h2, h3, h4⟩ := q
    simp only [execS, bindT] at h3
    split at h3
    · cases h3
    rename_i d S1 e1
    cases h3
    refine ⟨ρ, e, S, d, _, h1, h2, e1, fun ρ1 H1 v g s r => ?_⟩
    exact h4 ρ1 H1 g s _ ((h1.go g).set r))
end
end N
set_option autoImplicit false
set_option Elab.async false
set_option linter.all false
set_option maxRecDepth 100000
set_option maxHeartbeats 4000000
namespace N
open PySem L2 PySem.Spec PyProof.Rows
section
variable {X : Cx} {pos : Pos}
/-! ### comparisons, whole -/
theorem All2.each {bs : List Ex} {Bs : List Expr} (h : All2 (Is X) bs Bs) : bs.length = Bs.length := h.len
theorem se_cmp (hu : X.A.units + 65 < cLine) {a : Ex} {A : Expr} {os : List Cmp} {bs : List Ex} {Bs : List Expr} (ha : Is X a A) (hb : All2 (Is X) bs Bs) (hn : os ≠ []) (hl : os.length = Bs.length) (hm : lastMarks (os.map oc) Bs = false) : SE X (.Compare A (os.map oc) Bs pos) (evalE (.cmp a os bs)) := by
  refine ⟨fun pins s σ H Q I q => ?_⟩
  obtain ⟨ρ, e, S, d, S', h1, h2, h3, k⟩ := q
  simp only [evalE] at h3
  split at h3
  · cases h3
  rename_i x S1 e1
  split at h3
  · cases h3
  rename_i b S2 e2
  cases h3
  cases os with
  | nil => exact absurd rfl hn
  | cons o os =>
    cases hb with
    | nil => cases hl
    | @cons y Y ys Ys hy ht =>
      cases os with
      | nil =>
        cases ht with
        | cons _ _ => cases hl
        | nil =>
          simp only [evalC] at e2
          split at e2
          · cases e2
          rename_i yv S3 e3
          split at e2
          · cases e2
          rename_i c1 e4
          cases e2
          refine wpAny_Compare1 (thn (ha.v.run pins s σ H (fun v H1 => ∃ ρ1, Go ρ H ρ1 H1 ∧ SR X.K ρ1 H1 S1 ∧ VR ρ1 H1 x v) I ⟨ρ, e, S, x, S1, h1, h2, e1, fun ρ1 H1 v g s r => ⟨ρ1, g, s, r⟩⟩) fun u s1 ⟨v, H1, I1, r1, ρ1, g1, s1', rx⟩ =>
            thn (hy.v.run pins s1 σ H1 (fun w H2 => ∃ ρ2, Go ρ1 H1 ρ2 H2 ∧ SR X.K ρ2 H2 S' ∧ VR ρ2 H2 yv w) I1 ⟨ρ1, e, S1, yv, S', h1.go g1, s1', e3, fun ρ2 H2 w g s r => ⟨ρ2, g, s, r⟩⟩) fun u2 s2 ⟨w, H2, I2, r2, ρ2, g2, s2', ry⟩ => ?_) hm
          exact op_cmpN hu o pins s2 σ H2 v w u u2 Q I2 r1 r2 ⟨ρ2, S', x, yv, _, S', s2', rx.go g2, ry, cmpR_of e4, k.go (g1.trans g2)⟩
      | cons o2 os =>
        cases ht with
        | nil => cases hl
        | @cons z Z zs Zs hz ht2 =>
          refine Compare_chain (thn (ha.v.run pins s σ H (fun v H1 => ∃ ρ1, Go ρ H ρ1 H1 ∧ SR X.K ρ1 H1 S1 ∧ VR ρ1 H1 x v) I ⟨ρ, e, S, x, S1, h1, h2, e1, fun ρ1 H1 v g s r => ⟨ρ1, g, s, r⟩⟩) fun u s1 ⟨v, H1, I1, r1, ρ1, g1, s1', rx⟩ => ?_) hm
          exact chainV hu (.cons hy (.cons hz ht2)) (o :: o2 :: os) (by simp) I1 (h1.go g1) s1' rx r1 e2 (k.go g1)
theorem st_cmp (hu : X.A.units + 65 < cLine) {a : Ex} {A : Expr} {os : List Cmp} {bs : List Ex} {Bs : List Expr} (ha : Is X a A) (hb : All2 (Is X) bs Bs) (hn : os ≠ []) (hl : os.length = Bs.length) (hm : lastMarks (os.map oc) Bs = false) : ST X (.Compare A (os.map oc) Bs pos) (evalE (.cmp a os bs)) := by
  refine ⟨fun pins s σ H Q I q => ?_⟩
  obtain ⟨ρ, e, S, d, S', b0, h1, h2, h3, hb0, k⟩ := q
  simp only [evalE] at h3
  split at h3
  · cases h3
  rename_i x S1 e1
  split at h3
  · cases h3
  rename_i b S2 e2
  cases h3
  cases hb0
  cases os with
  | nil => exact absurd rfl hn
  | cons o os =>
    cases hb with
    | nil => cases hl
    | @cons y Y ys Ys hy ht =>
      cases os with
      | nil =>
        cases ht with
        | cons _ _ => cases hl
        | nil =>
          simp only [evalC] at e2
          split at e2
          · cases e2
          rename_i yv S3 e3
          split at e2
          · cases e2
          rename_i c1 e4
          cases e2
          refine wpAny_isTrue_Compare1 (thn (ha.v.run pins s σ H (fun v H1 => ∃ ρ1, Go ρ H ρ1 H1 ∧ SR X.K ρ1 H1 S1 ∧ VR ρ1 H1 x v) I ⟨ρ, e, S, x, S1, h1, h2, e1, fun ρ1 H1 v g s r => ⟨ρ1, g, s, r⟩⟩) fun u s1 ⟨v, H1, I1, r1, ρ1, g1, s1', rx⟩ =>
            thn (hy.v.run pins s1 σ H1 (fun w H2 => ∃ ρ2, Go ρ1 H1 ρ2 H2 ∧ SR X.K ρ2 H2 S' ∧ VR ρ2 H2 yv w) I1 ⟨ρ1, e, S1, yv, S', h1.go g1, s1', e3, fun ρ2 H2 w g s r => ⟨ρ2, g, s, r⟩⟩) fun u2 s2 ⟨w, H2, I2, r2, ρ2, g2, s2', ry⟩ => ?_) hm
          refine thn (op_cmpN hu o pins s2 σ H2 v w u u2 (fun c H3 => c = .bl b0 ∧ Q b0 H3) I2 r1 r2 ⟨ρ2, S', x, yv, .bl b0, S', s2', rx.go g2, ry, cmpR_of e4, fun ρ3 H3 w3 g3 s3 r3 => by cases r3; exact ⟨rfl, k ρ3 H3 ((g1.trans g2).trans g3) s3⟩⟩) fun c s3 ⟨w3, H3, I3, r3, e3, q3⟩ => ?_
          subst e3
          cases r3
          exact wpAny_truthy_bool ⟨H3, I3, q3⟩
      | cons o2 os =>
        cases ht with
        | nil => cases hl
        | @cons z Z zs Zs hz ht2 =>
          refine isTrue_chain (thn (ha.v.run pins s σ H (fun v H1 => ∃ ρ1, Go ρ H ρ1 H1 ∧ SR X.K ρ1 H1 S1 ∧ VR ρ1 H1 x v) I ⟨ρ, e, S, x, S1, h1, h2, e1, fun ρ1 H1 v g s r => ⟨ρ1, g, s, r⟩⟩) fun u s1 ⟨v, H1, I1, r1, ρ1, g1, s1', rx⟩ => ?_) hm
          exact testV hu (.cons hy (.cons hz ht2)) (o :: o2 :: os) (by simp) I1 (h1.go g1) s1' rx r1 e2 (fun ρ' H' g s => k ρ' H' (g1.trans g) s)
end
end N
set_option autoImplicit false
set_option Elab.async false
set_option linter.all false
set_option maxRecDepth 100000
set_option maxHeartbeats 4000000
namespace N
open PySem L2 PySem.Spec PyProof.Rows
/-! ### looks at names -/
def visB (sc : Scope) (x : Str) : Bool := match sc.names.lookup x with
  | some .local => true
  | some .cell => true
  | some .free => true
  | _ => false
def locB (sc : Scope) (fn : Str → Bool) (x : Str) : Bool := match sc.names.lookup x with
  | some .local => true
  | some .cell => fn x
  | _ => false
def glB (sc : Scope) (x : Str) : Bool := match sc.names.lookup x with
  | some .globalImplicit => true
  | _ => false
def plainB (x : Str) : Bool := !(x == ("__debug__" : Str)) && !(x == ("__classdict__" : Str))
def noSwap : Expr → Bool
  | .ListComp .. => false
  | .SetComp .. => false
  | .DictComp .. => false
  | _ => true
def noSet : Expr → Bool
  | .Set .. => false
  | _ => true
def noSlice : Expr → Bool
  | .Slice .. => false
  | _ => true
def noCall : Expr → Bool
  | .Call .. => false
  | _ => true
def bltName : Blt → Str
  | .len => "len" | .abs => "abs" | .max => "max" | .min => "min" | .sum => "sum" | .all => "all" | .any => "any" | .int => "int" | .str => "str" | .tuple => "tuple" | .list => "list" | .sorted => "sorted" | .repr => "repr" | .isi _ => "isinstance" | .set => "set" | .ftuple => "tuple"
def BN : List Str := ["len", "abs", "max", "min", "sum", "all", "any", "int", "str", "tuple", "list", "sorted", "repr", "isinstance", "set", "range", "enumerate", "zip", "bool"]
/-- what a text needs of the module -/
inductive Need where
  | call (x : List Nat) (f : Fn) | callk (x : List Nat) (ks : List (List Nat)) (f : Fn) (perm : List Nat) | gint (x : List Nat) (i : Int)
def Met (X : Cx) (k : Nat) : Need → Prop
  | .call x f => CalG X.prog X.w X.K X.mg X.base k (sOf x) f
  | .callk x ks f perm => CalK X.prog X.w X.K X.mg X.base k (sOf x) (ks.map sOf) perm f
  | .gint x i => ∃ t, X.mg (sOf x) = some (.int i t)
mutual
def needs : Ex → List Need
  | .glo x (.int i) => [.gint x i]
  | .bin _ a b => needs a ++ needs b
  | .neg a => needs a
  | .not a => needs a
  | .and a es => needs a ++ needss es
  | .or a es => needs a ++ needss es
  | .cmp a _ bs => needs a ++ needss bs
  | .ife c a b => needs c ++ (needs a ++ needs b)
  | .tup es => needss es
  | .lst es => needss es
  | .idx a i => needs a ++ needs i
  | .slc a lo hi st => needs a ++ (needs lo ++ (needs hi ++ needs st))
  | .call x f es => .call x f :: needss es
  | .callk x ks f perm es => .callk x ks f perm :: needss es
  | .blt _ es => needss es
  | .setlen a => needs a
  | .dict kvs => needss kvs
  | .meth _ o es => needs o ++ needss es
  | .rngT es => needss es
  | .rngL es => needss es
  | .comp elt tg it c _ => needs elt ++ (needs tg ++ (needs it ++ needs c))
  | .dcomp kx vx tg it c _ => needs kx ++ (needs vx ++ (needs tg ++ (needs it ++ needs c)))
  | .wk a => needs a
  | .rng es => needss es
  | .enum a => needs a
  | .enumz a b => needs a ++ needs b
  | .zip a b => needs a ++ needs b
  | .tgT ts => needss ts
  | .tgS o i => needs o ++ needs i
  | _ => []
def needss : List Ex → List Need
  | [] => []
  | x :: xs => needs x ++ needss xs
end
def ownL (ns : List Str) (own : List Nat) : List (Str × Nat) := own.filterMap fun i => (ns[i]?).map fun x => (x, i)
def fnC (scope : Scope) : Str → Bool := fun x => scope.names.lookup x == some .cell
def isAbs : Ex → Bool
  | .abs => true
  | _ => false
/-! ### the checks -/
mutual
def chkE (ns : List Str) : Ex → Scope → (Str → Bool) → Expr → Bool
  | .non, _, _, E => match E with
    | .Constant .none _ _ => true
    | _ => false
  | .bl b, _, _, E => match E with
    | .Constant (.bool c) _ _ => b == c
    | _ => false
  | .int i, _, _, E => match E with
    | .Constant (.int j) _ _ => decide (i = j)
    | _ => false
  | .str s, _, _, E => match E with
    | .Constant (.str z) _ _ => decide (sOf s = z)
    | _ => false
  | .var i, sc, _, E => match E with
    | .Name x _ => decide (ns[i]? = some x) && (visB sc x && plainB x)
    | _ => false
  | .glo xn v, sc, _, E => match E with
    | .Name x _ => decide (x = sOf xn) && (glB sc x && (plainB x && (match v with
      | .int _ => true
      | _ => false)))
    | _ => false
  | .bin op a b, sc, fn, E => match E with
    | .BinOp A o B _ => decide (o2 op = o) && (chkE ns a sc fn A && chkE ns b sc fn B)
    | _ => false
  | .neg a, sc, fn, E => match E with
    | .UnaryOp .USub A _ => chkE ns a sc fn A
    | _ => false
  | .not a, sc, fn, E => match E with
    | .UnaryOp .Not A _ => chkE ns a sc fn A
    | _ => false
  | .and a es, sc, fn, E => match E with
    | .BoolOp .And (A :: As) _ => chkE ns a sc fn A && chkEs ns es sc fn As
    | _ => false
  | .or a es, sc, fn, E => match E with
    | .BoolOp .Or (A :: As) _ => chkE ns a sc fn A && chkEs ns es sc fn As
    | _ => false
  | .cmp a os bs, sc, fn, E => match E with
    | .Compare A ops Bs _ => decide (os.map oc = ops) && ((!os.isEmpty && (decide (os.length = Bs.length) && !lastMarks (os.map oc) Bs)) && (chkE ns a sc fn A && chkEs ns bs sc fn Bs))
    | _ => false
  | .ife c a b, sc, fn, E => match E with
    | .IfExp C A B _ => chkE ns c sc fn C && (chkE ns a sc fn A && chkE ns b sc fn B)
    | _ => false
  | .tup es, sc, fn, E => match E with
    | .Tuple Es _ _ => (noStars Es && decide (Es.length ≤ 1000)) && chkEs ns es sc fn Es
    | _ => false
  | .lst es, sc, fn, E => match E with
    | .List Es _ => (noStars Es && decide (Es.length ≤ 1000)) && chkEs ns es sc fn Es
    | _ => false
  | .idx a i, sc, fn, E => match E with
    | .Subscript A I _ => noSlice I && (chkE ns a sc fn A && chkE ns i sc fn I)
    | _ => false
  | .slc a lo hi st, sc, fn, E => match E with
    | .Subscript A (.Slice Lo Hi St _) _ => chkE ns a sc fn A && ((match Lo with
      | none => isAbs lo
      | some L => chkE ns lo sc fn L) && ((match Hi with
      | none => isAbs hi
      | some L => chkE ns hi sc fn L) && (match St with
      | none => isAbs st
      | some L => chkE ns st sc fn L)))
    | _ => false
  | .call xn _ es, sc, fn, E => match E with
    | .Call (.Name x _) Es [] _ => (decide (x = sOf xn) && (glB sc x && (plainB x && noStars Es))) && chkEs ns es sc fn Es
    | _ => false
  | .callk xn ks _ _ es, sc, fn, E => match E with
    | .Call (.Name x _) [] kws _ => (decide (x = sOf xn) && (glB sc x && (plainB x && (decide (kwNames kws = some (ks.map sOf)) && decide (es.length = ks.length))))) && chkEs ns es sc fn (kws.map fun k => k.value)
    | _ => false
  | .blt b es, sc, fn, E => match E with
    | .Call (.Name x _) Es [] _ => (decide (x = bltName b) && glB sc x) && (match b with
      | .isi t => match es, Es with
        | [y], [A, .Name T _] => (decide (T = (Str.ofString (tyS t))) && (glB sc T && noStar A)) && chkE ns y sc fn A
        | _, _ => false
      | .set => false
      | .str => false
      | _ => (!Es.isEmpty && noStars Es) && chkEs ns es sc fn Es)
    | _ => false
  | .setlen a, sc, fn, E => match E with
    | .Call (.Name x _) [.Call (.Name y _) [A] [] _] [] _ => (decide (x = "len") && (decide (y = "set") && (glB sc x && (glB sc y && noStar A)))) && chkE ns a sc fn A
    | _ => false
  | .meth m o es, sc, fn, E => match E with
    | .Call (.Attribute O name apos) Es [] cpos => ((noCall O && (apos.endLine == cpos.line)) && (noStars Es && decide (Es.length < 20))) && ((match m with
      | .append => decide (name = "append") && !Es.isEmpty
      | .extend => decide (name = "extend") && !Es.isEmpty
      | .insert => decide (name = "insert") && !Es.isEmpty
      | .pop => decide (name = "pop")
      | .get => decide (name = "get") && !Es.isEmpty
      | .count => decide (name = "count") && !Es.isEmpty
      | .tcount => decide (name = "count") && !Es.isEmpty
      | .tindex => decide (name = "index") && !Es.isEmpty
      | _ => false) && (chkE ns o sc fn O && chkEs ns es sc fn Es))
    | _ => false
  | .dict kvs, sc, fn, E => match E with
    | .Dict ks vs _ => decide (ks.length ≤ 15) && (match inter ks vs with
      | some Es => chkEs ns kvs sc fn Es
      | none => false)
    | _ => false
  | .rngT es, sc, fn, E => match E with
    | .Call (.Name x _) [.Call (.Name y _) Es [] _] [] _ => (decide (x = "tuple") && (decide (y = "range") && (glB sc x && (glB sc y && noStars Es)))) && (match es, Es with
      | [a], [A] => chkE ns a sc fn A
      | [a, b], [A, B] => chkE ns a sc fn A && chkE ns b sc fn B
      | _, _ => false)
    | _ => false
  | .rngL es, sc, fn, E => match E with
    | .Call (.Name x _) [.Call (.Name y _) Es [] _] [] _ => (decide (x = "list") && (decide (y = "range") && (glB sc x && (glB sc y && noStars Es)))) && (match es, Es with
      | [a], [A] => chkE ns a sc fn A
      | [a, b], [A, B] => chkE ns a sc fn A && chkE ns b sc fn B
      | _, _ => false)
    | _ => false
  | .comp elt tg it c own, sc, fn, E => match E with
    | .ListComp Elt [⟨Tg, Iter, ifs, 0⟩] scope _ => ((noSet Iter && (decide ((ownL ns own).map (·.2) = own) && (blkC ns sc scope (ownL ns own) && (slots tg).all fun j => own.contains j)))) &&
        (chkI ns it sc fn Tg Iter && (chkT ns tg (relS scope sc) (fnC scope) Tg && (chkE ns elt (relS scope sc) (fnC scope) Elt && (match c, ifs with
          | .bl true, [] => true
          | c, [C] => chkE ns c (relS scope sc) (fnC scope) C
          | _, _ => false))))
    | _ => false
  | .dcomp kx vx tg it c own, sc, fn, E => match E with
    | .DictComp Kx Vx [⟨Tg, Iter, ifs, 0⟩] scope _ => ((noSet Iter && (decide ((ownL ns own).map (·.2) = own) && (blkC ns sc scope (ownL ns own) && (slots tg).all fun j => own.contains j)))) &&
        (chkI ns it sc fn Tg Iter && (chkT ns tg (relS scope sc) (fnC scope) Tg && ((chkE ns kx (relS scope sc) (fnC scope) Kx && chkE ns vx (relS scope sc) (fnC scope) Vx) && (match c, ifs with
          | .bl true, [] => true
          | c, [C] => chkE ns c (relS scope sc) (fnC scope) C
          | _, _ => false))))
    | _ => false
  | _, _, _, _ => false
def chkEs (ns : List Str) : List Ex → Scope → (Str → Bool) → List Expr → Bool
  | [], _, _, E => match E with
    | [] => true
    | _ => false
  | x :: xs, sc, fn, E => match E with
    | e :: es => chkE ns x sc fn e && chkEs ns xs sc fn es
    | _ => false
/-- what is walked -/
def chkI (ns : List Str) : Ex → Scope → (Str → Bool) → Expr → Expr → Bool
  | .wk a, sc, fn, _, E => chkE ns a sc fn E
  | .rng es, sc, fn, _, E => match E with
    | .Call (.Name x _) Es [] _ => (decide (x = "range") && (glB sc x && (noStars Es && (decide (1 ≤ Es.length) && decide (Es.length ≤ 3))))) && chkEs ns es sc fn Es
    | _ => false
  | .enum a, sc, fn, T, E => match T, E with
    | .Tuple _ _ _, .Call (.Name x _) [A] [] _ => (decide (x = "enumerate") && (glB sc x && noStar A)) && chkE ns a sc fn A
    | _, _ => false
  | .enumz a b, sc, fn, T, E => match T, E with
    | .Tuple _ _ _, .Call (.Name x _) [.Call (.Name y _) [A, B] [] _] [] _ => (decide (x = "enumerate") && (glB sc x && (decide (y = "zip") && (glB sc y && (noStar A && noStar B))))) && (chkE ns a sc fn A && chkE ns b sc fn B)
    | _, _ => false
  | .zip a b, sc, fn, T, E => match T, E with
    | .Tuple _ _ _, .Call (.Name x _) [A, B] [] _ => (decide (x = "zip") && (glB sc x && (noStar A && noStar B))) && (chkE ns a sc fn A && chkE ns b sc fn B)
    | _, _ => false
  | _, _, _, _, _ => false
def chkT (ns : List Str) : Ex → Scope → (Str → Bool) → Expr → Bool
  | .tgN i, sc, fn, E => match E with
    | .Name x _ => decide (ns[i]? = some x) && locB sc fn x
    | _ => false
  | .tgT ts, sc, fn, E => match E with
    | .Tuple Es _ _ => noStars Es && chkTs ns ts sc fn Es
    | _ => false
  | .tgS o i, sc, fn, E => match E with
    | .Subscript O I _ => noSlice I && (chkE ns o sc fn O && chkE ns i sc fn I)
    | _ => false
  | _, _, _, _ => false
def chkTs (ns : List Str) : List Ex → Scope → (Str → Bool) → List Expr → Bool
  | [], _, _, E => match E with
    | [] => true
    | _ => false
  | x :: xs, sc, fn, E => match E with
    | e :: es => chkT ns x sc fn e && chkTs ns xs sc fn es
    | _ => false
end
/-! ### what the looks say -/
section
variable {X : Cx} {ns : List Str} {sc : Scope} {fn : Str → Bool} {k : Nat}
theorem band {a b : Bool} (h : (a && b) = true) : a = true ∧ b = true := Bool.and_eq_true_iff.mp h
theorem vis_of {x : Str} (h : visB sc x = true) : Vis sc x := by
  unfold visB at h
  split at h
  · exact .inl ‹_›
  · exact .inr (.inl ‹_›)
  · exact .inr (.inr ‹_›)
  · cases h
theorem loc_of {x : Str} (h : locB sc fn x = true) : Loc sc x ∧ (fn x = true ∨ sc.names.lookup x = some .local) := by
  unfold locB at h
  split at h
  · exact ⟨.inl ‹_›, .inr ‹_›⟩
  · exact ⟨.inr ‹_›, .inl h⟩
  · cases h
theorem gl_of {x : Str} (G : Good X ns sc fn k) (h : glB sc x = true) : Gl X x := by
  unfold glB at h
  split at h
  · show X.env.scope.names.lookup x = _
    rw [G.sco]; assumption
  · cases h
theorem plain_of {x : Str} (h : plainB x = true) : (x == ("__debug__" : Str)) = false ∧ (x == ("__classdict__" : Str)) = false := by
  obtain ⟨h1, h2⟩ := band h
  exact ⟨by simpa using h1, by simpa using h2⟩
theorem noSlice_ix {I : Expr} (h : noSlice I = true) : PlainIx I := by
  intro o i
  cases I <;> first | rfl | cases h
theorem noSet_of {I : Expr} {env : PySem.Env} (h : noSet I = true) : ∀ x, foldedSetIterable I env x = pure x := by
  intro x
  cases I <;> first | rfl | cases h
theorem noCall_of {O : Expr} {name : Str} {env : PySem.Env} {w : Sem Value} (h : noCall O = true) : attributeBase O name env w = w := by
  cases O <;> first | rfl | cases h
theorem noSwap_of {E : Expr} {t : Option Expr} {l : Nat} {env : PySem.Env} (h : noSwap E = true) : swapsWith E t l env = pure false := by
  cases E <;> first | rfl | cases h
theorem bltName_ok (b : Blt) : bltName b ∈ BN ∧ bltName b ≠ "__name__" ∧ (bltName b == ("__debug__" : Str)) = false := by
  cases b <;> first | decide +kernel | (rename_i t; cases t <;> decide +kernel)
theorem sub_set {I : Expr} {O : Expr} {pos : Pos} {env : PySem.Env} (h : noSlice I = true) : ∀ v, assign (.Subscript O I pos) env v = (do
      let ov ← holding [v] (eval O env)
      let iv ← holding [v, ov] (eval I env)
      standAt pos
      holding [v, ov, iv] (setItem ov iv v)
      release [v, ov, iv] []) := by
  intro v
  cases I <;> first | rfl | cases h
theorem Good.room (G : Good X ns sc fn k) : X.A.units + 65 < cLine := by
  have := G.rm.un
  omega
/-- the context of a comprehension's block -/
theorem Good.blk (G : Good X ns sc fn k) {own : List (Str × Nat)} {scope : Scope} (ok : BlkOk ns sc scope own) (s : Shared) (H : Hp) (C : Addr) (cl : List (Str × Addr)) (fp : List Addr) : Good (X.blk s H scope (compEnvC scope cl C X.env) fp) ns (relS scope sc) (fnC scope) k :=
  ⟨G.nm, G.nd, by show relS scope X.env.scope = _; rw [G.sco], ok.kind, rfl, G.cm, G.gd, G.rm, rfl⟩
end
end N
set_option autoImplicit false
set_option Elab.async false
set_option linter.all false
set_option maxRecDepth 100000
set_option maxHeartbeats 4000000
namespace N
open PySem L2 PySem.Spec PyProof.Rows
section
variable {X : Cx} {ns : List Str} {sc : Scope} {fn : Str → Bool} {k : Nat}
theorem is_of {x : Ex} {E : Expr} (h : SE X E (evalE x)) (he : ∀ whole, isTrue E X.env whole = (do let v ← whole; standAt E.pos; holding [v] (truthy v))) : Is X x E := ⟨h, st_of h he⟩
theorem nl {α : Type} {P : α → Prop} {a b : List α} (h : ∀ n ∈ a ++ b, P n) : ∀ n ∈ a, P n := fun n q => h n (List.mem_append_left _ q)
theorem nr {α : Type} {P : α → Prop} {a b : List α} (h : ∀ n ∈ a ++ b, P n) : ∀ n ∈ b, P n := fun n q => h n (List.mem_append_right _ q)
theorem nt {α : Type} {P : α → Prop} {a : α} {b : List α} (h : ∀ n ∈ a :: b, P n) : P a ∧ ∀ n ∈ b, P n := ⟨h a (by simp), fun n q => h n (by simp [q])⟩
/-- an argument list -/
theorem sa_all : ∀ {ys : List Ex} {Es : List Expr}, All2 (Is X) ys Es → noStars Es = true → SA X Es (evalEs ys)
  | _, _, .nil, _ => sa_nil
  | _, _, .cons h t, hn => by
    obtain ⟨h1, h2⟩ := band (show (noStar _ && noStars _) = true from hn)
    exact sa_cons h.v (sa_all t h2) (star_cons h1)
theorem sk_all : ∀ {ys : List Ex} {kws : List Keyword}, All2 (Is X) ys (kws.map fun k => k.value) → SK X kws ys
  | ys, [], h => by
    cases h
    exact sk_nil
  | ys, ⟨n, v, p⟩ :: r, h => by
    cases h with
    | cons h t => exact sk_cons h.v (sk_all t)
theorem boot_abs' : bootBuiltins "abs" = some (.builtin "abs") := by decide +kernel
theorem boot_all' : bootBuiltins "all" = some (.builtin "all") := by decide +kernel
theorem boot_any' : bootBuiltins "any" = some (.builtin "any") := by decide +kernel
theorem boot_repr' : bootBuiltins "repr" = some (.builtin "repr") := by decide +kernel
theorem boot_len' : bootBuiltins "len" = some (.builtin "len") := by decide +kernel
theorem boot_max' : bootBuiltins "max" = some (.builtin "max") := by decide +kernel
theorem boot_min' : bootBuiltins "min" = some (.builtin "min") := by decide +kernel
theorem boot_sum' : bootBuiltins "sum" = some (.builtin "sum") := by decide +kernel
theorem boot_ty' (t : Ty) : bootBuiltins (Str.ofString (tyS t)) = some (.type (tyS t)) := by cases t <;> decide +kernel
theorem ty_BN (t : Ty) : Str.ofString (tyS t) ∈ BN ∧ Str.ofString (tyS t) ≠ "__name__" ∧ (Str.ofString (tyS t) == ("__debug__" : Str)) = false := by cases t <;> decide +kernel
mutual
theorem sndE : ∀ (x : Ex) (X : Cx) (sc : Scope) (fn : Str → Bool) (E : Expr), Good X ns sc fn k → (∀ x ∈ BN, X.mg x = none) → (∀ n ∈ needs x, Met X k n) → chkE ns x sc fn E = true → Is X x E
  | .non, X, sc, fn, E, G, hf, hn, h => by
    simp only [chkE] at h
    split at h
    · exact is_of (se_const pe_non fun _ _ => .non) fun _ => rfl
    · cases h
  | .bl b, X, sc, fn, E, G, hf, hn, h => by
    simp only [chkE] at h
    split at h
    · have := eq_of_beq h
      subst this
      exact is_of (se_const pe_bl fun _ _ => .bl _) fun _ => rfl
    · cases h
  | .int i, X, sc, fn, E, G, hf, hn, h => by
    simp only [chkE] at h
    split at h
    · have := of_decide_eq_true h
      subst this
      exact is_of (se_const pe_int fun _ _ => .int _) fun _ => rfl
    · cases h
  | .str s, X, sc, fn, E, G, hf, hn, h => by
    simp only [chkE] at h
    split at h
    · have := of_decide_eq_true h
      subst this
      exact is_of (se_const pe_str fun _ _ => .str _) fun _ => rfl
    · cases h
  | .var i, X, sc, fn, E, G, hf, hn, h => by
    simp only [chkE] at h
    split at h
    · rename_i x p
      obtain ⟨h1, h2⟩ := band h
      obtain ⟨h2, h3⟩ := band h2
      obtain ⟨d1, d2⟩ := plain_of h3
      refine is_of (se_var (by rw [G.nm]; exact of_decide_eq_true h1) (by rw [G.sco]; exact vis_of h2) d1 d2) fun _ => rfl
    · cases h
  | .glo xn v, X, sc, fn, E, G, hf, hn, h => by
    simp only [chkE] at h
    split at h
    · rename_i x p
      obtain ⟨h1, k2⟩ := band h
      obtain ⟨h2, k3⟩ := band k2
      obtain ⟨h3, h4⟩ := band k3
      obtain ⟨d1, d2⟩ := plain_of h3
      have e := of_decide_eq_true h1
      subst e
      split at h4
      · rename_i i
        obtain ⟨t, hm⟩ : ∃ t, X.mg (sOf xn) = some (.int i t) := hn (.gint xn i) (by simp [needs])
        exact is_of (se_const (pe_glob (v := .int i) (gl_of G h2) hm ⟨t, rfl⟩ d1) fun _ _ => .int i) fun _ => rfl
      · cases h4
    · cases h
  | .bin op a b, X, sc, fn, E, G, hf, hn, h => by
    simp only [chkE] at h
    split at h
    · obtain ⟨h1, h2⟩ := band h
      obtain ⟨h2, h3⟩ := band h2
      have e := of_decide_eq_true h1
      subst e
      exact is_of (se_bin (sndE a X sc fn _ G hf (nl hn) h2).v (sndE b X sc fn _ G hf (nr hn) h3).v) fun _ => rfl
    · cases h
  | .neg a, X, sc, fn, E, G, hf, hn, h => by
    simp only [chkE] at h
    split at h
    · exact is_of (se_neg (sndE a X sc fn _ G hf hn h).v) fun _ => rfl
    · cases h
  | .not a, X, sc, fn, E, G, hf, hn, h => by
    simp only [chkE] at h
    split at h
    · have q := sndE a X sc fn _ G hf hn h
      exact ⟨se_not q.t q.v, st_not q.t⟩
    · cases h
  | .and a es, X, sc, fn, E, G, hf, hn, h => by
    simp only [chkE] at h
    split at h
    · obtain ⟨h1, h2⟩ := band h
      have q := sndE a X sc fn _ G hf (nl hn) h1
      have qs := sndEs es X sc fn _ G hf (nr hn) h2
      exact ⟨se_and qs q, (sw_and qs q).pt⟩
    · cases h
  | .or a es, X, sc, fn, E, G, hf, hn, h => by
    simp only [chkE] at h
    split at h
    · obtain ⟨h1, h2⟩ := band h
      have q := sndE a X sc fn _ G hf (nl hn) h1
      have qs := sndEs es X sc fn _ G hf (nr hn) h2
      exact ⟨se_or qs q, (sw_or qs q).pt⟩
    · cases h
  | .cmp a os bs, X, sc, fn, E, G, hf, hn, h => by
    simp only [chkE] at h
    split at h
    · rename_i A ops Bs p
      obtain ⟨h1, h2⟩ := band h
      obtain ⟨h2, h3⟩ := band h2
      obtain ⟨h4, h5⟩ := band h2
      obtain ⟨h5, h6⟩ := band h5
      obtain ⟨h7, h8⟩ := band h3
      have e := of_decide_eq_true h1
      subst e
      have q := sndE a X sc fn _ G hf (nl hn) h7
      have qs := sndEs bs X sc fn _ G hf (nr hn) h8
      have hne : os ≠ [] := by rintro rfl; cases h4
      have hm : lastMarks (os.map oc) Bs = false := by simpa using h6
      exact ⟨se_cmp G.room q qs hne (of_decide_eq_true h5) hm, st_cmp G.room q qs hne (of_decide_eq_true h5) hm⟩
    · cases h
  | .ife c a b, X, sc, fn, E, G, hf, hn, h => by
    simp only [chkE] at h
    split at h
    · obtain ⟨h1, h2⟩ := band h
      obtain ⟨h2, h3⟩ := band h2
      have qc := sndE c X sc fn _ G hf (nl hn) h1
      have qa := sndE a X sc fn _ G hf (nl (nr hn)) h2
      have qb := sndE b X sc fn _ G hf (nr (nr hn)) h3
      exact ⟨se_ife qc.t qa.v qb.v, st_ife qc.t qa.t qb.t⟩
    · cases h
  | .tup es, X, sc, fn, E, G, hf, hn, h => by
    simp only [chkE] at h
    split at h
    · obtain ⟨h1, h2⟩ := band h
      obtain ⟨h3, h4⟩ := band h1
      have qs := sndEs es X sc fn _ G hf hn h2
      exact is_of (se_tup (sa_all qs h3) (of_decide_eq_true h4) fun e S r q => (evalEs_len q).trans qs.len) fun _ => rfl
    · cases h
  | .lst es, X, sc, fn, E, G, hf, hn, h => by
    simp only [chkE] at h
    split at h
    · obtain ⟨h1, h2⟩ := band h
      obtain ⟨h3, h4⟩ := band h1
      have qs := sndEs es X sc fn _ G hf hn h2
      exact is_of (se_lst (sa_all qs h3) (of_decide_eq_true h4) fun e S r q => (evalEs_len q).trans qs.len) fun _ => rfl
    · cases h
  | .idx a i, X, sc, fn, E, G, hf, hn, h => by
    simp only [chkE] at h
    split at h
    · obtain ⟨h1, h2⟩ := band h
      obtain ⟨h2, h3⟩ := band h2
      exact is_of (se_idx (by have := G.room; omega) (sndE a X sc fn _ G hf (nl hn) h2).v (sndE i X sc fn _ G hf (nr hn) h3).v (noSlice_ix h1)) fun _ => rfl
    · cases h
  | .slc a lo hi st, X, sc, fn, E, G, hf, hn, h => by
    simp only [chkE] at h
    split at h
    · rename_i A Lo Hi St p pos
      obtain ⟨h1, h2⟩ := band h
      obtain ⟨h2, h3⟩ := band h2
      obtain ⟨h3, h4⟩ := band h3
      have part : ∀ (y : Ex) (O : Option Expr), (∀ E, O = some E → SE X E (evalE y)) → (O = none → isAbs y = true) → SO X O y := fun y O f g => by
        cases O with
        | none =>
          have := g rfl
          cases y <;> first | exact so_none | cases this
        | some E => exact so_some (f E rfl)
      refine is_of (se_slc (sndE a X sc fn _ G hf (nl hn) h1).v (part lo Lo (fun E e => ?_) fun e => ?_) (part hi Hi (fun E e => ?_) fun e => ?_) (part st St (fun E e => ?_) fun e => ?_)) fun _ => rfl
      · subst e; exact (sndE lo X sc fn _ G hf (nl (nr hn)) h2).v
      · subst e; exact h2
      · subst e; exact (sndE hi X sc fn _ G hf (nl (nr (nr hn))) h3).v
      · subst e; exact h3
      · subst e; exact (sndE st X sc fn _ G hf (nr (nr (nr hn))) h4).v
      · subst e; exact h4
    · cases h
  | .call xn f es, X, sc, fn, E, G, hf, hn, h => by
    simp only [chkE] at h
    split at h
    · rename_i x p Es pos
      obtain ⟨h1, h2⟩ := band h
      obtain ⟨h3, k4⟩ := band h1
      obtain ⟨h4, k5⟩ := band k4
      obtain ⟨h5, h6⟩ := band k5
      have e := of_decide_eq_true h3
      subst e
      obtain ⟨n1, n2⟩ := nt hn
      have c : CalG X.prog X.w X.K X.mg X.base k (sOf xn) f := n1
      have qs := sndEs es X sc fn _ G hf n2 h2
      cases qs with
      | nil => exact is_of (se_call0 c G.rm (Nat.le_refl _) G.gd (gl_of G h4) (plain_of h5).1) fun _ => rfl
      | cons q t => exact is_of (se_call c G.rm (Nat.le_refl _) G.gd (gl_of G h4) (sa_all (.cons q t) h6) h6 (plain_of h5).1) fun _ => rfl
    · cases h
  | .callk xn ks f perm es, X, sc, fn, E, G, hf, hn, h => by
    simp only [chkE] at h
    split at h
    · rename_i x p kws pos
      obtain ⟨h1, h2⟩ := band h
      obtain ⟨h3, k4⟩ := band h1
      obtain ⟨h4, k5⟩ := band k4
      obtain ⟨h5, k6⟩ := band k5
      obtain ⟨h6, h7⟩ := band k6
      have e := of_decide_eq_true h3
      subst e
      obtain ⟨n1, n2⟩ := nt hn
      have c : CalK X.prog X.w X.K X.mg X.base k (sOf xn) (ks.map sOf) perm f := n1
      exact is_of (se_callk c G.rm (Nat.le_refl _) G.gd (gl_of G h4) (sk_all (sndEs es X sc fn _ G hf n2 h2)) (of_decide_eq_true h6) (by rw [List.length_map]; exact of_decide_eq_true h7) (plain_of h5).1) fun _ => rfl
    · cases h
  | .blt b es, X, sc, fn, E, G, hf, hn, h => by
    rw [chkE.eq_def] at h
    simp only at h
    split at h
    · rename_i x p Es pos
      obtain ⟨h1, h2⟩ := band h
      obtain ⟨h3, h4⟩ := band h1
      have e := of_decide_eq_true h3
      subst e
      obtain ⟨b1, b2, b3⟩ := bltName_ok b
      have hm := hf _ b1
      have hg := gl_of G h4
      have hr := G.room
      have plain : ∀ {h : (!Es.isEmpty && noStars Es) = true}, (chkEs ns es sc fn Es = true) → ∃ A As, Es = A :: As ∧ SA X (A :: As) (evalEs es) ∧ noStars (A :: As) = true := fun {h} h2 => by
        obtain ⟨a1, a2⟩ := band h
        have qs := sndEs es X sc fn _ G hf hn h2
        cases Es with
        | nil => cases a1
        | cons A As => exact ⟨A, As, rfl, sa_all qs a2, a2⟩
      cases b with
      | isi t =>
        simp only at h2
        split at h2
        · rename_i y A T p2
          obtain ⟨h5, h6⟩ := band h2
          obtain ⟨h7, k8⟩ := band h5
          obtain ⟨h8, h9⟩ := band k8
          have e := of_decide_eq_true h7
          subst e
          obtain ⟨t1, t2, t3⟩ := ty_BN t
          exact is_of (se_isi (boot_ty' t) hg hm (gl_of G h8) (hf _ t1) t2 t3 (sndE y X sc fn _ G hf (fun n q => hn n (by simp [needs, needss, q])) h6).v h9) fun _ => rfl
        · cases h2
      | sorted =>
        obtain ⟨h5, h6⟩ := band h2
        obtain ⟨A, As, rfl, ha, hs⟩ := plain (h := h5) h6
        exact is_of (se_bltF (call_srtN hr) PyProof.Rows.boot_sorted hg hm ha hs b2 b3) fun _ => rfl
      | set => cases h2
      | str => cases h2
      | len =>
        obtain ⟨h5, h6⟩ := band h2
        obtain ⟨A, As, rfl, ha, hs⟩ := plain (h := h5) h6
        exact is_of (se_bltF call_lenN boot_len' hg hm ha hs b2 b3) fun _ => rfl
      | abs =>
        obtain ⟨h5, h6⟩ := band h2
        obtain ⟨A, As, rfl, ha, hs⟩ := plain (h := h5) h6
        exact is_of (se_bltF call_absN boot_abs' hg hm ha hs b2 b3) fun _ => rfl
      | max =>
        obtain ⟨h5, h6⟩ := band h2
        obtain ⟨A, As, rfl, ha, hs⟩ := plain (h := h5) h6
        exact is_of (se_bltF (call_maxN G.cm (by omega)) boot_max' hg hm ha hs b2 b3) fun _ => rfl
      | min =>
        obtain ⟨h5, h6⟩ := band h2
        obtain ⟨A, As, rfl, ha, hs⟩ := plain (h := h5) h6
        exact is_of (se_bltF (call_minN G.cm (by omega)) boot_min' hg hm ha hs b2 b3) fun _ => rfl
      | sum =>
        obtain ⟨h5, h6⟩ := band h2
        obtain ⟨A, As, rfl, ha, hs⟩ := plain (h := h5) h6
        exact is_of (se_bltF (call_sumN G.cm) boot_sum' hg hm ha hs b2 b3) fun _ => rfl
      | all =>
        obtain ⟨h5, h6⟩ := band h2
        obtain ⟨A, As, rfl, ha, hs⟩ := plain (h := h5) h6
        exact is_of (se_bltF (call_allN G.cm) boot_all' hg hm ha hs b2 b3) fun _ => rfl
      | any =>
        obtain ⟨h5, h6⟩ := band h2
        obtain ⟨A, As, rfl, ha, hs⟩ := plain (h := h5) h6
        exact is_of (se_bltF (call_anyN G.cm) boot_any' hg hm ha hs b2 b3) fun _ => rfl
      | repr =>
        obtain ⟨h5, h6⟩ := band h2
        obtain ⟨A, As, rfl, ha, hs⟩ := plain (h := h5) h6
        exact is_of (se_bltF (call_repN G.gd hr) boot_repr' hg hm ha hs b2 b3) fun _ => rfl
      | int =>
        obtain ⟨h5, h6⟩ := band h2
        obtain ⟨A, As, rfl, ha, hs⟩ := plain (h := h5) h6
        exact is_of (se_bltT call_intN (boot_ty' .int) hg hm ha hs b2 b3) fun _ => rfl
      | tuple =>
        obtain ⟨h5, h6⟩ := band h2
        obtain ⟨A, As, rfl, ha, hs⟩ := plain (h := h5) h6
        exact is_of (se_bltT call_tupN (boot_ty' .tuple) hg hm ha hs b2 b3) fun _ => rfl
      | ftuple =>
        obtain ⟨h5, h6⟩ := band h2
        obtain ⟨A, As, rfl, ha, hs⟩ := plain (h := h5) h6
        exact is_of (se_bltT call_ftpN (boot_ty' .tuple) hg hm ha hs b2 b3) fun _ => rfl
      | list =>
        obtain ⟨h5, h6⟩ := band h2
        obtain ⟨A, As, rfl, ha, hs⟩ := plain (h := h5) h6
        exact is_of (se_bltT call_lstN (boot_ty' .list) hg hm ha hs b2 b3) fun _ => rfl
    · cases h
  | .meth m o es, X, sc, fn, E, G, hf, hn, h => by
    rw [chkE.eq_def] at h
    simp only at h
    split at h
    · rename_i O name apos Es cpos
      obtain ⟨h1, h2⟩ := band h
      obtain ⟨h3, h4⟩ := band h1
      obtain ⟨h5, h6⟩ := band h3
      obtain ⟨h7, h8⟩ := band h4
      obtain ⟨h9, k1⟩ := band h2
      obtain ⟨k2, k3⟩ := band k1
      have qo := (sndE o X sc fn _ G hf (nl hn) k2).v
      have qs := sndEs es X sc fn _ G hf (nr hn) k3
      have hlen := of_decide_eq_true h8
      have hu := G.room
      have go : ∀ {id : String} {g : Sto → D → List D → RE}, (m ≠ .tcount ∧ m ≠ .tindex) → (∀ S x ds, methI S m x ds = g S x ds) → PlainAttrs (mty m) → Slot (mty m) name id → typeOf (.builtin id) = pure (.type "method_descriptor") → MtR X id (rM X.K g) → Is X (.meth m o es) (.Call (.Attribute O name apos) Es [] cpos) := fun {id g} hk hg pa slot hty hm => by
        cases qs with
        | nil => exact is_of (se_meth0 hk hg pa slot hty hm qo (noCall_of h5) h6) fun _ => rfl
        | @cons y A ys As q t =>
          obtain ⟨s1, s2⟩ := band (show (noStar A && noStars As) = true from h7)
          refine is_of (se_meth hk hg pa slot hty hm qo (sa_all (.cons q t) h7) (noCall_of h5) ?_ h6 (star_cons s1) (star_any s2)) fun _ => rfl
          rw [star_all h7]
          show (true && true && decide (_ < 30)) = true
          rw [List.length_cons] at hlen ⊢
          simp
          omega
      cases m with
      | append =>
        have e := of_decide_eq_true (band h9).1
        subst e
        exact go (by simp) (fun _ _ _ => rfl) PySem.F.plainAttrs_list PySem.F.slot_list_append PySem.F.type_list_append mt_app
      | extend =>
        have e := of_decide_eq_true (band h9).1
        subst e
        exact go (by simp) (fun _ _ _ => rfl) PySem.F.plainAttrs_list PySem.F.slot_list_extend PySem.F.type_list_extend mt_ext
      | insert =>
        have e := of_decide_eq_true (band h9).1
        subst e
        exact go (by simp) (fun _ _ _ => rfl) PySem.F.plainAttrs_list PySem.F.slot_list_insert PySem.F.type_list_insert mt_ins
      | pop =>
        have e := of_decide_eq_true h9
        subst e
        exact go (by simp) (fun _ _ _ => rfl) PySem.F.plainAttrs_list PySem.F.slot_list_pop PySem.F.type_list_pop mt_popN
      | get =>
        have e := of_decide_eq_true (band h9).1
        subst e
        exact go (by simp) (fun _ _ _ => rfl) PySem.F.plainAttrs_dict PySem.F.slot_dict_get PySem.F.type_dict_get (mt_getN (by omega))
      | count =>
        have e := of_decide_eq_true (band h9).1
        subst e
        exact go (by simp) (fun _ _ _ => rfl) PySem.F.plainAttrs_list PySem.F.slot_list_count PySem.F.type_list_count mt_cnt
      | index => cases h9
      | tcount =>
        obtain ⟨h9, h10⟩ := band h9
        have e := of_decide_eq_true h9
        subst e
        cases qs with
        | nil => cases h10
        | @cons y A ys As q t =>
          obtain ⟨s1, s2⟩ := band (show (noStar A && noStars As) = true from h7)
          refine is_of (se_methF (.inl rfl) (fun _ _ _ => rfl) PySem.F.plainAttrs_tuple PySem.F.slot_tuple_count PySem.F.type_tuple_count mt_cntT qo (sa_all (.cons q t) h7) (noCall_of h5) ?_ h6 (star_cons s1) (star_any s2)) fun _ => rfl
          rw [star_all h7]
          show (true && true && decide (_ < 30)) = true
          rw [List.length_cons] at hlen ⊢
          simp
          omega
      | tindex =>
        obtain ⟨h9, h10⟩ := band h9
        have e := of_decide_eq_true h9
        subst e
        cases qs with
        | nil => cases h10
        | @cons y A ys As q t =>
          obtain ⟨s1, s2⟩ := band (show (noStar A && noStars As) = true from h7)
          refine is_of (se_methF (.inr rfl) (fun _ _ _ => rfl) PySem.F.plainAttrs_tuple PySem.F.slot_tuple_index PySem.F.type_tuple_index mt_idxT qo (sa_all (.cons q t) h7) (noCall_of h5) ?_ h6 (star_cons s1) (star_any s2)) fun _ => rfl
          rw [star_all h7]
          show (true && true && decide (_ < 30)) = true
          rw [List.length_cons] at hlen ⊢
          simp
          omega
    · cases h
  | .setlen a, X, sc, fn, E, G, hf, hn, h => by
    rw [chkE.eq_def] at h
    simp only at h
    split at h
    · obtain ⟨h1, h2⟩ := band h
      obtain ⟨h3, k4⟩ := band h1
      obtain ⟨h4, k5⟩ := band k4
      obtain ⟨h5, k6⟩ := band k5
      obtain ⟨h6, h7⟩ := band k6
      have e := of_decide_eq_true h3
      subst e
      have e := of_decide_eq_true h4
      subst e
      exact is_of (se_setlen G.cm G.room (gl_of G h5) (hf _ (by decide)) (gl_of G h6) (hf _ (by decide)) (sndE a X sc fn _ G hf hn h2).v h7) fun _ => rfl
    · cases h
  | .rngT es, X, sc, fn, E, G, hf, hn, h => by
    rw [chkE.eq_def] at h
    simp only at h
    split at h
    · rename_i x p y p2 Es pos2 pos
      obtain ⟨h1, h2⟩ := band h
      obtain ⟨h3, k4⟩ := band h1
      obtain ⟨h4, k5⟩ := band k4
      obtain ⟨h5, k6⟩ := band k5
      obtain ⟨h6, h7⟩ := band k6
      have e := of_decide_eq_true h3
      subst e
      have e := of_decide_eq_true h4
      subst e
      split at h2
      · rename_i a A
        exact is_of (se_rngT1 G.cm (gl_of G h5) (hf _ (by decide)) (gl_of G h6) (hf _ (by decide)) (sndE a X sc fn _ G hf (fun n q => hn n (by simp [needs, needss, q])) h2).v (band h7).1) fun _ => rfl
      · rename_i a b A B
        obtain ⟨h8, h9⟩ := band h2
        obtain ⟨s1, s2⟩ := band (show (noStar A && noStars [B]) = true from h7)
        exact is_of (se_rngT2 G.cm (gl_of G h5) (hf _ (by decide)) (gl_of G h6) (hf _ (by decide)) (sndE a X sc fn _ G hf (fun n q => hn n (by simp [needs, needss, q])) h8).v (sndE b X sc fn _ G hf (fun n q => hn n (by simp [needs, needss, q])) h9).v s1 (band s2).1) fun _ => rfl
      · cases h2
    · cases h
  | .rngL es, X, sc, fn, E, G, hf, hn, h => by
    rw [chkE.eq_def] at h
    simp only at h
    split at h
    · rename_i x p y p2 Es pos2 pos
      obtain ⟨h1, h2⟩ := band h
      obtain ⟨h3, k4⟩ := band h1
      obtain ⟨h4, k5⟩ := band k4
      obtain ⟨h5, k6⟩ := band k5
      obtain ⟨h6, h7⟩ := band k6
      have e := of_decide_eq_true h3
      subst e
      have e := of_decide_eq_true h4
      subst e
      split at h2
      · rename_i a A
        exact is_of (se_rngL1 G.cm (gl_of G h5) (hf _ (by decide)) (gl_of G h6) (hf _ (by decide)) (sndE a X sc fn _ G hf (fun n q => hn n (by simp [needs, needss, q])) h2).v (band h7).1) fun _ => rfl
      · rename_i a b A B
        obtain ⟨h8, h9⟩ := band h2
        obtain ⟨s1, s2⟩ := band (show (noStar A && noStars [B]) = true from h7)
        exact is_of (se_rngL2 G.cm (gl_of G h5) (hf _ (by decide)) (gl_of G h6) (hf _ (by decide)) (sndE a X sc fn _ G hf (fun n q => hn n (by simp [needs, needss, q])) h8).v (sndE b X sc fn _ G hf (fun n q => hn n (by simp [needs, needss, q])) h9).v s1 (band s2).1) fun _ => rfl
      · cases h2
    · cases h
  | .comp elt tg it c own, X, sc, fn, E, G, hf, hn, h => by
    rw [chkE.eq_def] at h
    simp only at h
    split at h
    · rename_i Elt Tg Iter ifs scope pos
      obtain ⟨h1, h2⟩ := band h
      obtain ⟨h3, k4⟩ := band h1
      obtain ⟨h4, k5⟩ := band k4
      obtain ⟨h5, h6⟩ := band k5
      obtain ⟨h7, k8⟩ := band h2
      obtain ⟨h8, k9⟩ := band k8
      obtain ⟨h9, ha⟩ := band k9
      have ew := of_decide_eq_true h4
      have ok : BlkOk X.N X.env.scope scope (ownL ns own) := by rw [G.nm, G.sco]; exact blkOk_by h5
      have okk : BlkOk ns sc scope (ownL ns own) := blkOk_by h5
      have hsl : ∀ j ∈ slots tg, j ∈ (ownL ns own).map (·.2) := fun j hj => by
        rw [ew]
        have := List.all_eq_true.mp h6 j hj
        simpa using this
      have q : SE X (.ListComp Elt [⟨Tg, Iter, ifs, 0⟩] scope pos) (evalE (.comp elt tg it c ((ownL ns own).map (·.2)))) := by
        refine se_comp G.cm (by rw [G.nm]; exact G.nd) (sndI it X sc fn Tg Iter G hf (nl (nr (nr hn))) h7) ok (fun s H C cl fp => sndT tg _ _ _ Tg (G.blk okk s H C cl fp) hf (nl (nr hn)) h8) (fun s H Cc cl fp => ?_) (fun s H C cl fp => (sndE elt _ _ _ Elt (G.blk okk s H C cl fp) hf (nl hn) h9).v) (noSet_of h3) hsl
        split at ha
        · exact spts_nil
        · exact pts_one (sndE c _ _ _ _ (G.blk okk s H Cc cl fp) hf (nr (nr (nr hn))) ha).t
        · cases ha
      rw [ew] at q
      exact is_of q fun _ => rfl
    · cases h
  | .dcomp kx vx tg it c own, X, sc, fn, E, G, hf, hn, h => by
    rw [chkE.eq_def] at h
    simp only at h
    split at h
    · rename_i Kx Vx Tg Iter ifs scope pos
      obtain ⟨h1, h2⟩ := band h
      obtain ⟨h3, k4⟩ := band h1
      obtain ⟨h4, k5⟩ := band k4
      obtain ⟨h5, h6⟩ := band k5
      obtain ⟨h7, k8⟩ := band h2
      obtain ⟨h8, k9⟩ := band k8
      obtain ⟨h9, ha⟩ := band k9
      obtain ⟨h9, hb⟩ := band h9
      have ew := of_decide_eq_true h4
      have ok : BlkOk X.N X.env.scope scope (ownL ns own) := by rw [G.nm, G.sco]; exact blkOk_by h5
      have okk : BlkOk ns sc scope (ownL ns own) := blkOk_by h5
      have hsl : ∀ j ∈ slots tg, j ∈ (ownL ns own).map (·.2) := fun j hj => by
        rw [ew]
        have := List.all_eq_true.mp h6 j hj
        simpa using this
      have q : SE X (.DictComp Kx Vx [⟨Tg, Iter, ifs, 0⟩] scope pos) (evalE (.dcomp kx vx tg it c ((ownL ns own).map (·.2)))) := by
        refine se_dcomp G.cm (by have := G.room; omega) (by rw [G.nm]; exact G.nd) (sndI it X sc fn Tg Iter G hf (nl (nr (nr (nr hn)))) h7) ok (fun s H C cl fp => sndT tg _ _ _ Tg (G.blk okk s H C cl fp) hf (nl (nr (nr hn))) h8) (fun s H Cc cl fp => ?_) (fun s H C cl fp => (sndE kx _ _ _ Kx (G.blk okk s H C cl fp) hf (nl hn) h9).v) (fun s H C cl fp => (sndE vx _ _ _ Vx (G.blk okk s H C cl fp) hf (nl (nr hn)) hb).v) (noSet_of h3) hsl
        split at ha
        · exact spts_nil
        · exact pts_one (sndE c _ _ _ _ (G.blk okk s H Cc cl fp) hf (nr (nr (nr (nr hn)))) ha).t
        · cases ha
      rw [ew] at q
      exact is_of q fun _ => rfl
    · cases h
  | .abs, X, sc, fn, E, G, hf, hn, h => by simp [chkE] at h
  | .dict kvs, X, sc, fn, E, G, hf, hn, h => by
    rw [chkE.eq_def] at h
    simp only at h
    split at h
    · rename_i ks vs pos
      obtain ⟨h1, h2⟩ := band h
      split at h2
      · rename_i Es e1
        exact is_of (se_dict e1 (sndEs kvs X sc fn _ G hf hn h2) (of_decide_eq_true h1)) fun _ => rfl
      · cases h2
    · cases h
  | .wk .., X, sc, fn, E, G, hf, hn, h => by simp [chkE] at h
  | .rng .., X, sc, fn, E, G, hf, hn, h => by simp [chkE] at h
  | .enum .., X, sc, fn, E, G, hf, hn, h => by simp [chkE] at h
  | .enumz .., X, sc, fn, E, G, hf, hn, h => by simp [chkE] at h
  | .zip .., X, sc, fn, E, G, hf, hn, h => by simp [chkE] at h
  | .items .., X, sc, fn, E, G, hf, hn, h => by simp [chkE] at h
  | .values .., X, sc, fn, E, G, hf, hn, h => by simp [chkE] at h
  | .tgN .., X, sc, fn, E, G, hf, hn, h => by simp [chkE] at h
  | .tgT .., X, sc, fn, E, G, hf, hn, h => by simp [chkE] at h
  | .tgS .., X, sc, fn, E, G, hf, hn, h => by simp [chkE] at h
theorem sndEs : ∀ (xs : List Ex) (X : Cx) (sc : Scope) (fn : Str → Bool) (Es : List Expr), Good X ns sc fn k → (∀ x ∈ BN, X.mg x = none) → (∀ n ∈ needss xs, Met X k n) → chkEs ns xs sc fn Es = true → All2 (Is X) xs Es
  | [], X, sc, fn, Es, G, hf, hn, h => by
    simp only [chkEs] at h
    split at h
    · exact .nil
    · cases h
  | x :: xs, X, sc, fn, Es, G, hf, hn, h => by
    simp only [chkEs] at h
    split at h
    · obtain ⟨h1, h2⟩ := band h
      exact .cons (sndE x X sc fn _ G hf (nl hn) h1) (sndEs xs X sc fn _ G hf (nr hn) h2)
    · cases h
theorem sndI : ∀ (x : Ex) (X : Cx) (sc : Scope) (fn : Str → Bool) (T E : Expr), Good X ns sc fn k → (∀ x ∈ BN, X.mg x = none) → (∀ n ∈ needs x, Met X k n) → chkI ns x sc fn T E = true → SI X T E (evalIt x)
  | .wk a, X, sc, fn, T, E, G, hf, hn, h => by
    simp only [chkI] at h
    exact si_wk (sndE a X sc fn _ G hf hn h).v
  | .rng es, X, sc, fn, T, E, G, hf, hn, h => by
    simp only [chkI] at h
    split at h
    · rename_i x p Es pos
      obtain ⟨h1, h2⟩ := band h
      obtain ⟨h3, k4⟩ := band h1
      obtain ⟨h4, k5⟩ := band k4
      obtain ⟨h5, k6⟩ := band k5
      obtain ⟨h6, h7⟩ := band k6
      have e := of_decide_eq_true h3
      subst e
      have l1 := of_decide_eq_true h6
      have l2 := of_decide_eq_true h7
      have qs := sndEs es X sc fn _ G hf hn h2
      have sa := sa_all qs h5
      have hm := hf "range" (by decide)
      have hg := gl_of G h4
      cases qs with
      | nil => cases l1
      | @cons y A ys As q t =>
        obtain ⟨s1, s2⟩ := band (show (noStar A && noStars As) = true from h5)
        cases t with
        | nil => exact si_rng1 hg hm sa (star_cons s1)
        | @cons y2 A2 ys2 As2 q2 t2 =>
          obtain ⟨s3, s4⟩ := band (show (noStar A2 && noStars As2) = true from s2)
          cases t2 with
          | nil => exact si_rng2 hg hm sa (star_cons s1) (star_cons s3)
          | @cons y3 A3 ys3 As3 q3 t3 =>
            cases t3 with
            | nil => exact si_rng3 hg hm sa (star_cons s1) (star_any s2)
            | cons _ _ => simp at l2
    · cases h
  | .enum a, X, sc, fn, T, E, G, hf, hn, h => by
    simp only [chkI] at h
    split at h
    · obtain ⟨h1, h2⟩ := band h
      obtain ⟨h3, k4⟩ := band h1
      obtain ⟨h4, h5⟩ := band k4
      have e := of_decide_eq_true h3
      subst e
      exact si_enum (gl_of G h4) (hf _ (by decide)) (sndE a X sc fn _ G hf hn h2).v (star_cons h5)
    · cases h
  | .enumz a b, X, sc, fn, T, E, G, hf, hn, h => by
    simp only [chkI] at h
    split at h
    · obtain ⟨h1, h2⟩ := band h
      obtain ⟨h3, k4⟩ := band h1
      obtain ⟨h4, k5⟩ := band k4
      obtain ⟨h5, k6⟩ := band k5
      obtain ⟨h6, k7⟩ := band k6
      obtain ⟨n1, n2⟩ := band k7
      obtain ⟨h7, h8⟩ := band h2
      have e := of_decide_eq_true h3
      subst e
      have e := of_decide_eq_true h5
      subst e
      exact si_enumz (gl_of G h4) (hf _ (by decide)) (gl_of G h6) (hf _ (by decide)) (sndE a X sc fn _ G hf (nl hn) h7).v (sndE b X sc fn _ G hf (nr hn) h8).v (star_cons n1) (star_cons n2) (by rw [star_cons n2]; rfl)
    · cases h
  | .zip a b, X, sc, fn, T, E, G, hf, hn, h => by
    simp only [chkI] at h
    split at h
    · rename_i x p A B pos
      obtain ⟨h1, h2⟩ := band h
      obtain ⟨h3, k4⟩ := band h1
      obtain ⟨h4, k5⟩ := band k4
      obtain ⟨h5, h6⟩ := band k5
      obtain ⟨h7, h8⟩ := band h2
      have e := of_decide_eq_true h3
      subst e
      exact si_zip (gl_of G h4) (hf _ (by decide)) (sndE a X sc fn _ G hf (nl hn) h7).v (sndE b X sc fn _ G hf (nr hn) h8).v (star_cons h5) (star_cons h6) (by rw [star_cons h6]; rfl)
    · cases h
  | .non, X, sc, fn, T, E, G, hf, hn, h => by simp [chkI] at h
  | .bl .., X, sc, fn, T, E, G, hf, hn, h => by simp [chkI] at h
  | .int .., X, sc, fn, T, E, G, hf, hn, h => by simp [chkI] at h
  | .str .., X, sc, fn, T, E, G, hf, hn, h => by simp [chkI] at h
  | .var .., X, sc, fn, T, E, G, hf, hn, h => by simp [chkI] at h
  | .glo .., X, sc, fn, T, E, G, hf, hn, h => by simp [chkI] at h
  | .bin .., X, sc, fn, T, E, G, hf, hn, h => by simp [chkI] at h
  | .neg .., X, sc, fn, T, E, G, hf, hn, h => by simp [chkI] at h
  | .not .., X, sc, fn, T, E, G, hf, hn, h => by simp [chkI] at h
  | .and .., X, sc, fn, T, E, G, hf, hn, h => by simp [chkI] at h
  | .or .., X, sc, fn, T, E, G, hf, hn, h => by simp [chkI] at h
  | .cmp .., X, sc, fn, T, E, G, hf, hn, h => by simp [chkI] at h
  | .ife .., X, sc, fn, T, E, G, hf, hn, h => by simp [chkI] at h
  | .tup .., X, sc, fn, T, E, G, hf, hn, h => by simp [chkI] at h
  | .lst .., X, sc, fn, T, E, G, hf, hn, h => by simp [chkI] at h
  | .idx .., X, sc, fn, T, E, G, hf, hn, h => by simp [chkI] at h
  | .slc .., X, sc, fn, T, E, G, hf, hn, h => by simp [chkI] at h
  | .call .., X, sc, fn, T, E, G, hf, hn, h => by simp [chkI] at h
  | .callk .., X, sc, fn, T, E, G, hf, hn, h => by simp [chkI] at h
  | .blt .., X, sc, fn, T, E, G, hf, hn, h => by simp [chkI] at h
  | .setlen .., X, sc, fn, T, E, G, hf, hn, h => by simp [chkI] at h
  | .meth .., X, sc, fn, T, E, G, hf, hn, h => by simp [chkI] at h
  | .rngT .., X, sc, fn, T, E, G, hf, hn, h => by simp [chkI] at h
  | .rngL .., X, sc, fn, T, E, G, hf, hn, h => by simp [chkI] at h
  | .comp .., X, sc, fn, T, E, G, hf, hn, h => by simp [chkI] at h
  | .abs, X, sc, fn, T, E, G, hf, hn, h => by simp [chkI] at h
  | .dcomp .., X, sc, fn, T, E, G, hf, hn, h => by simp [chkI] at h
  | .dict .., X, sc, fn, T, E, G, hf, hn, h => by simp [chkI] at h
  | .items .., X, sc, fn, T, E, G, hf, hn, h => by simp [chkI] at h
  | .values .., X, sc, fn, T, E, G, hf, hn, h => by simp [chkI] at h
  | .tgN .., X, sc, fn, T, E, G, hf, hn, h => by simp [chkI] at h
  | .tgT .., X, sc, fn, T, E, G, hf, hn, h => by simp [chkI] at h
  | .tgS .., X, sc, fn, T, E, G, hf, hn, h => by simp [chkI] at h
theorem sndT : ∀ (x : Ex) (X : Cx) (sc : Scope) (fn : Str → Bool) (E : Expr), Good X ns sc fn k → (∀ x ∈ BN, X.mg x = none) → (∀ n ∈ needs x, Met X k n) → chkT ns x sc fn E = true → SG X E x
  | .tgN i, X, sc, fn, E, G, hf, hn, h => by
    simp only [chkT] at h
    split at h
    · obtain ⟨h1, h2⟩ := band h
      obtain ⟨l1, l2⟩ := loc_of h2
      exact sg_name (by rw [G.nm]; exact G.nd) (by rw [G.nm]; exact of_decide_eq_true h1) (by rw [G.sco]; exact l1) (by rw [G.fns, G.sco]; exact l2)
    · cases h
  | .tgT ts, X, sc, fn, E, G, hf, hn, h => by
    simp only [chkT] at h
    split at h
    · obtain ⟨h1, h2⟩ := band h
      obtain ⟨q, ql⟩ := sndTs ts X sc fn _ G hf hn h2 h1
      obtain ⟨a1, a2⟩ := asg_len (env := X.env) h1
      exact sg_tup G.cm q (by rw [a1, ql]) a2
    · cases h
  | .tgS o i, X, sc, fn, E, G, hf, hn, h => by
    simp only [chkT] at h
    split at h
    · obtain ⟨h1, h2⟩ := band h
      obtain ⟨h2, h3⟩ := band h2
      exact sg_sub (by have := G.room; omega) (sndE o X sc fn _ G hf (nl hn) h2).v (sndE i X sc fn _ G hf (nr hn) h3).v (sub_set h1)
    · cases h
  | .non, X, sc, fn, E, G, hf, hn, h => by simp [chkT] at h
  | .bl .., X, sc, fn, E, G, hf, hn, h => by simp [chkT] at h
  | .int .., X, sc, fn, E, G, hf, hn, h => by simp [chkT] at h
  | .str .., X, sc, fn, E, G, hf, hn, h => by simp [chkT] at h
  | .var .., X, sc, fn, E, G, hf, hn, h => by simp [chkT] at h
  | .glo .., X, sc, fn, E, G, hf, hn, h => by simp [chkT] at h
  | .bin .., X, sc, fn, E, G, hf, hn, h => by simp [chkT] at h
  | .neg .., X, sc, fn, E, G, hf, hn, h => by simp [chkT] at h
  | .not .., X, sc, fn, E, G, hf, hn, h => by simp [chkT] at h
  | .and .., X, sc, fn, E, G, hf, hn, h => by simp [chkT] at h
  | .or .., X, sc, fn, E, G, hf, hn, h => by simp [chkT] at h
  | .cmp .., X, sc, fn, E, G, hf, hn, h => by simp [chkT] at h
  | .ife .., X, sc, fn, E, G, hf, hn, h => by simp [chkT] at h
  | .tup .., X, sc, fn, E, G, hf, hn, h => by simp [chkT] at h
  | .lst .., X, sc, fn, E, G, hf, hn, h => by simp [chkT] at h
  | .idx .., X, sc, fn, E, G, hf, hn, h => by simp [chkT] at h
  | .slc .., X, sc, fn, E, G, hf, hn, h => by simp [chkT] at h
  | .call .., X, sc, fn, E, G, hf, hn, h => by simp [chkT] at h
  | .callk .., X, sc, fn, E, G, hf, hn, h => by simp [chkT] at h
  | .blt .., X, sc, fn, E, G, hf, hn, h => by simp [chkT] at h
  | .setlen .., X, sc, fn, E, G, hf, hn, h => by simp [chkT] at h
  | .enumz .., X, sc, fn, E, G, hf, hn, h => by simp [chkT] at h
  | .meth .., X, sc, fn, E, G, hf, hn, h => by simp [chkT] at h
  | .rngT .., X, sc, fn, E, G, hf, hn, h => by simp [chkT] at h
  | .rngL .., X, sc, fn, E, G, hf, hn, h => by simp [chkT] at h
  | .comp .., X, sc, fn, E, G, hf, hn, h => by simp [chkT] at h
  | .abs, X, sc, fn, E, G, hf, hn, h => by simp [chkT] at h
  | .dcomp .., X, sc, fn, E, G, hf, hn, h => by simp [chkT] at h
  | .dict .., X, sc, fn, E, G, hf, hn, h => by simp [chkT] at h
  | .items .., X, sc, fn, E, G, hf, hn, h => by simp [chkT] at h
  | .values .., X, sc, fn, E, G, hf, hn, h => by simp [chkT] at h
  | .wk .., X, sc, fn, E, G, hf, hn, h => by simp [chkT] at h
  | .rng .., X, sc, fn, E, G, hf, hn, h => by simp [chkT] at h
  | .enum .., X, sc, fn, E, G, hf, hn, h => by simp [chkT] at h
  | .zip .., X, sc, fn, E, G, hf, hn, h => by simp [chkT] at h
theorem sndTs : ∀ (xs : List Ex) (X : Cx) (sc : Scope) (fn : Str → Bool) (Es : List Expr), Good X ns sc fn k → (∀ x ∈ BN, X.mg x = none) → (∀ n ∈ needss xs, Met X k n) → chkTs ns xs sc fn Es = true → noStars Es = true → SGs X Es xs ∧ Es.length = xs.length
  | [], X, sc, fn, Es, G, hf, hn, h, hs => by
    simp only [chkTs] at h
    split at h
    · exact ⟨sgs_nil, rfl⟩
    · cases h
  | x :: xs, X, sc, fn, Es, G, hf, hn, h, hs => by
    simp only [chkTs] at h
    split at h
    · rename_i E Es
      obtain ⟨h1, h2⟩ := band h
      obtain ⟨s1, s2⟩ := band (show (noStar E && noStars Es) = true from hs)
      obtain ⟨q, ql⟩ := sndTs xs X sc fn _ G hf (nr hn) h2 s2
      exact ⟨sgs_cons (sndT x X sc fn _ G hf (nl hn) h1) q (by rw [asg_cons s1]; rfl), by rw [List.length_cons, List.length_cons, ql]⟩
    · cases h
end
end
end N
set_option autoImplicit false
set_option Elab.async false
set_option linter.all false
set_option maxRecDepth 100000
set_option maxHeartbeats 4000000
namespace N
open PySem L2 PySem.Spec PyProof.Rows
/-! ### stores: what swaps, what is stored from the right -/
theorem sw_false {elt : Expr} {gs : List Comprehension} {scope : Scope} {pos py : Pos} {y : Str} {l : Nat} {env : PySem.Env} (h : (decide (env.scope.names.lookup y = some .local) && (py.line == pos.line)) = false) : swapsWith (.ListComp elt gs scope pos) (some (.Name y py)) l env = pure false := by
  unfold swapsWith
  show (pure (env.blockKind == .function && env.kindOf y == some .local && py.line == pos.line && !(scope.names.any fun (n, k) => n == y && (k == .local || k == .cell))) : Sem Bool) = pure false
  congr 1
  have e : (env.kindOf y == some NameKind.local) = decide (env.scope.names.lookup y = some .local) := by
    unfold Env.kindOf
    by_cases c : env.scope.names.lookup y = some .local
    · rw [c]; rfl
    · rw [decide_eq_false c]; simpa using c
  rw [e]
  have h2 : ∀ a b c d : Bool, (b && c) = false → (a && b && c && d) = false := by decide
  exact h2 _ _ _ _ h
theorem sw_falseD {kx vx : Expr} {gs : List Comprehension} {scope : Scope} {pos py : Pos} {y : Str} {l : Nat} {env : PySem.Env} (h : (decide (env.scope.names.lookup y = some .local) && (py.line == pos.line)) = false) : swapsWith (.DictComp kx vx gs scope pos) (some (.Name y py)) l env = pure false := by
  unfold swapsWith
  show (pure (env.blockKind == .function && env.kindOf y == some .local && py.line == pos.line && !(scope.names.any fun (n, k) => n == y && (k == .local || k == .cell))) : Sem Bool) = pure false
  congr 1
  have e : (env.kindOf y == some NameKind.local) = decide (env.scope.names.lookup y = some .local) := by
    unfold Env.kindOf
    by_cases c : env.scope.names.lookup y = some .local
    · rw [c]; rfl
    · rw [decide_eq_false c]; simpa using c
  rw [e]
  have h2 : ∀ a b c d : Bool, (b && c) = false → (a && b && c && d) = false := by decide
  exact h2 _ _ _ _ h
theorem sw_trueD {kx vx : Expr} {gs : List Comprehension} {scope : Scope} {pos py : Pos} {y : Str} {l : Nat} {env : PySem.Env} (hk : env.scope.kind = .function) (hy : env.scope.names.lookup y = some .local) (hl : (py.line == pos.line) = true)
    (ha : (scope.names.any fun (n, k) => n == y && (k == .local || k == .cell)) = false) : swapsWith (.DictComp kx vx gs scope pos) (some (.Name y py)) l env = pure true := by
  unfold swapsWith
  show (pure (env.blockKind == .function && env.kindOf y == some .local && py.line == pos.line && !(scope.names.any fun (n, k) => n == y && (k == .local || k == .cell))) : Sem Bool) = pure true
  rw [ha, hl, show env.kindOf y = some .local from hy, show env.blockKind = .function by unfold Env.blockKind; rw [hk]; rfl]
  rfl
/-- the names that a tuple of targets is -/
def nameAt (sc : Scope) (line : Nat) : Expr → Option Str
  | .Name id pos => if sc.names.lookup id == some .local && pos.line == line then some id else none
  | _ => none
def lineAt (ts : List Expr) : Nat := (ts.head?.map (·.pos.line)).getD 0
/-- no parallel stores -/
def parNo (sc : Scope) (tg V : Expr) : Bool := match tg, V with
  | .Tuple ts _ _, .Tuple vs _ _ => decide ((ts.filterMap (nameAt sc (lineAt ts))).length ≠ ts.length) || vs.all (foldedForSure 8)
  | .List _ _, _ => false
  | _, _ => true
def parYes (sc : Scope) (ts vs : List Expr) (names : List Str) : Bool :=
  ((decide (ts.length = 2) || decide (ts.length = 3)) && decide (vs.length = ts.length)) && ((noStars vs && decide (ts.filterMap (nameAt sc (lineAt ts)) = names)) &&
    ((decide (names.length = ts.length) && decide (names.eraseDups.length = names.length)) && (!vs.all (foldedForSure 8) && !vs.all (constantsAlone 8))))
theorem noStar_any : ∀ {vs : List Expr}, noStars vs = true → (vs.any fun | .Starred .. => true | _ => false) = false
  | [], _ => rfl
  | e :: es, h => by
    obtain ⟨h1, h2⟩ := Bool.and_eq_true_iff.mp (show (noStar e && noStars es) = true from h)
    rw [List.any_cons, noStar_any h2]
    cases e <;> first | rfl | cases h1
theorem sws_eq {ts vs : List Expr} {k k2 p p2} {env : PySem.Env} : swappedStores [.Tuple ts k p] (.Tuple vs k2 p2) env =
    (if (!(ts.length == 2 || ts.length == 3) || vs.length != ts.length || env.blockKind != .function) = true then pure none
    else if (vs.any fun | .Starred .. => true | _ => false) = true then pure none
    else if ((ts.filterMap (nameAt env.scope (lineAt ts))).length != ts.length || (ts.filterMap (nameAt env.scope (lineAt ts))).eraseDups.length != (ts.filterMap (nameAt env.scope (lineAt ts))).length) = true then pure none
    else if vs.all (foldedForSure 8) = true then pure none
    else if vs.all (constantsAlone 8) = true then (do unsupported "assign.tuple-of-constant-expressions:order-of-the-stores"; pure (some (ts.filterMap (nameAt env.scope (lineAt ts)))))
    else pure (some (ts.filterMap (nameAt env.scope (lineAt ts))))) := by
  first
    | rfl
    | (unfold swappedStores; simp only [pure_bind]; rfl)
theorem par_no {tg V : Expr} {env : PySem.Env} (h : parNo env.scope tg V = true) : swappedStores [tg] V env = pure none := by
  unfold parNo at h
  split at h
  · rename_i ts k p vs k2 p2
    rw [sws_eq]
    split
    · rfl
    · split
      · rfl
      · split
        · rfl
        · rename_i c3
          rcases Bool.or_eq_true_iff.mp h with h | h
          · have h := of_decide_eq_true h
            exfalso
            apply c3
            rw [Bool.or_eq_true]
            exact .inl (by simpa using h)
          · rw [if_pos h]
  · cases h
  · rename_i h1 h2
    cases tg with
    | Tuple ts k p =>
      cases V with
      | Tuple vs k2 p2 => exact (h2 _ _ _ _ _ _ rfl rfl).elim
      | _ => rfl
    | List ts p => exact (h1 _ _ rfl).elim
    | _ => rfl
theorem par_yes {ts vs : List Expr} {k k2 p p2} {env : PySem.Env} {names : List Str} (hk : env.scope.kind = .function) (h : parYes env.scope ts vs names = true) : swappedStores [.Tuple ts k p] (.Tuple vs k2 p2) env = pure (some names) := by
  unfold parYes at h
  obtain ⟨h1, h2⟩ := band h
  obtain ⟨h3, h4⟩ := band h1
  obtain ⟨h5, h6⟩ := band h2
  obtain ⟨h7, h8⟩ := band h5
  obtain ⟨h9, ha⟩ := band h6
  obtain ⟨hb, hc⟩ := band h9
  obtain ⟨hd, he⟩ := band ha
  have e := of_decide_eq_true h8
  have hbk : env.blockKind = .function := by unfold Env.blockKind; rw [hk]; rfl
  rw [sws_eq, e]
  have c1 : (!(ts.length == 2 || ts.length == 3) || vs.length != ts.length || env.blockKind != .function) = false := by
    rw [hbk, of_decide_eq_true h4]
    rcases Bool.or_eq_true_iff.mp h3 with q | q
    · rw [of_decide_eq_true q]; rfl
    · rw [of_decide_eq_true q]; rfl
  have c3 : (names.length != ts.length || names.eraseDups.length != names.length) = false := by
    rw [of_decide_eq_true hb, of_decide_eq_true hc]; simp [of_decide_eq_true hb]
  rw [if_neg (by rw [c1]; exact Bool.false_ne_true), if_neg (by rw [noStar_any h7]; exact Bool.false_ne_true), if_neg (by rw [c3]; exact Bool.false_ne_true), if_neg (by simpa using hd), if_neg (by simpa using he)]
theorem noSole_of {E t : Expr} {l : Nat} {env : PySem.Env} (h : noSwap E = true) : swapsWithSole [t] E l env = pure false := noSwap_of (t := some t) h
theorem sole_tup (V : Expr) {ts : List Expr} {k : Nat} {p : Pos} {l : Nat} {env : PySem.Env} : swapsWithSole [.Tuple ts k p] V l env = pure false := by cases V <;> rfl
theorem sole_sub (V : Expr) {O I : Expr} {p : Pos} {l : Nat} {env : PySem.Env} : swapsWithSole [.Subscript O I p] V l env = pure false := by cases V <;> rfl
/-! ### the checks of statements -/
mutual
def needsS : St → List Need
  | .asg t x => needs t ++ needs x
  | .ex x => needs x
  | .ife c a b => needs c ++ (needsSs a ++ needsSs b)
  | .forS t it b => needs t ++ (needs it ++ needsSs b)
  | .wh _ c b => needs c ++ needsSs b
  | .ret x => needs x
  | _ => []
def needsSs : List St → List Need
  | [] => []
  | s :: ss => needsS s ++ needsSs ss
end
def isLc : Expr → Bool
  | .ListComp .. => true
  | _ => false
/-- name = value -/
def chkNm (ns : List Str) (sc : Scope) (fn : Str → Bool) (t x : Ex) (y : Str) (py : Pos) (V : Expr) : Bool := chkE ns x sc fn V && match V with
  | .ListComp _ _ scope pos => match (decide (sc.names.lookup y = some .local) && (py.line == pos.line)) with
    | false => true
    | true => !(scope.names.any fun (n, k) => n == y && (k == .local || k == .cell))
  | .DictComp _ _ _ scope pos => match (decide (sc.names.lookup y = some .local) && (py.line == pos.line)) with
    | false => true
    | true => !(scope.names.any fun (n, k) => n == y && (k == .local || k == .cell))
  | _ => noSwap V
mutual
def chkS (ns : List Str) (sc : Scope) (fn : Str → Bool) : St → Stmt → Bool
  | .asg t x, E => match E with
    | .Assign [tg] V pos => (match tg with
      | .Name y py => chkT ns t sc fn (.Name y py) && chkNm ns sc fn t x y py V
      | .Tuple ts kt pt => (match parNo sc (.Tuple ts kt pt) V with
        | true => chkT ns t sc fn (.Tuple ts kt pt) && chkE ns x sc fn V
        | false => match t, x, ts, V with
          | .tgT [.tgN i, .tgN j], .tup [a, b], [.Name n1 _, .Name n2 _], .Tuple [A, B] _ _ =>
            (parYes sc ts [A, B] [n1, n2] && ((decide (ns[i]? = some n1) && decide (ns[j]? = some n2)) && (decide (i ≠ j) && (decide (sc.names.lookup n1 = some .local) && decide (sc.names.lookup n2 = some .local))))) && (chkE ns a sc fn A && chkE ns b sc fn B)
          | .tgT [.tgN i, .tgN j, .tgN l], .tup [a, b, c], [.Name n1 _, .Name n2 _, .Name n3 _], .Tuple [A, B, C] _ _ =>
            (parYes sc ts [A, B, C] [n1, n2, n3] && ((decide (ns[i]? = some n1) && (decide (ns[j]? = some n2) && decide (ns[l]? = some n3))) && ((decide (i ≠ j) && (decide (i ≠ l) && decide (j ≠ l))) && (decide (sc.names.lookup n1 = some .local) && (decide (sc.names.lookup n2 = some .local) && decide (sc.names.lookup n3 = some .local)))))) && (chkE ns a sc fn A && (chkE ns b sc fn B && chkE ns c sc fn C))
          | _, _, _, _ => false)
      | .Subscript O I p => chkT ns t sc fn (.Subscript O I p) && chkE ns x sc fn V
      | _ => false)
    | _ => false
  | .ex x, E => match E with
    | .Expr V _ => noSwap V && chkE ns x sc fn V
    | _ => false
  | .ife c a b, E => match E with
    | .If C A B _ => chkE ns c sc fn C && (chkSs ns sc fn a A && chkSs ns sc fn b B)
    | _ => false
  | .forS t it b, E => match E with
    | .For Tg Iter B [] _ => noSet Iter && (chkI ns it sc fn Tg Iter && (chkT ns t sc fn Tg && chkSs ns sc fn b B))
    | _ => false
  | .wh _ c b, E => match E with
    | .While C B [] _ => chkE ns c sc fn C && chkSs ns sc fn b B
    | _ => false
  | .ret x, E => match E with
    | .Return (some V) _ => chkE ns x sc fn V
    | _ => false
  | .retN, E => match E with
    | .Return none _ => true
    | _ => false
  | .brk, E => match E with
    | .Break _ => true
    | _ => false
  | .pass, E => match E with
    | .Pass _ => true
    | .Expr (.Constant (.str _) _ _) _ => true
    | _ => false
  | .never, _ => true
def chkSs (ns : List Str) (sc : Scope) (fn : Str → Bool) : List St → List Stmt → Bool
  | [], E => match E with
    | [] => true
    | _ => false
  | s :: ss, E => match E with
    | e :: es => chkS ns sc fn s e && chkSs ns sc fn ss es
    | _ => false
end
section
variable {X : Cx} {ns : List Str} {sc : Scope} {fn : Str → Bool} {k : Nat}
/-- a comprehension's parts, read off its check -/
theorem comp_parts {elt tg it c : Ex} {own : List Nat} {E : Expr} (G : Good X ns sc fn k) (hf : ∀ x ∈ BN, X.mg x = none) (hn : ∀ n ∈ needs (.comp elt tg it c own), Met X k n) (h : chkE ns (.comp elt tg it c own) sc fn E = true) :
    ∃ Elt Tg Iter ifs scope pos, E = .ListComp Elt [⟨Tg, Iter, ifs, 0⟩] scope pos ∧ (ownL ns own).map (·.2) = own ∧ SI X Tg Iter (evalIt it) ∧ BlkOk X.N X.env.scope scope (ownL ns own) ∧
    (∀ (s : Shared) (H : Hp) (C : Addr) (cl : List (Str × Addr)) (fp : List Addr), SG (X.blk s H scope (compEnvC scope cl C X.env) fp) Tg tg) ∧
    (∀ (s : Shared) (H : Hp) (C : Addr) (cl : List (Str × Addr)) (fp : List Addr), PTs (X.blk s H scope (compEnvC scope cl C X.env) fp) ifs (TTv X.K (evalE c))) ∧
    (∀ (s : Shared) (H : Hp) (C : Addr) (cl : List (Str × Addr)) (fp : List Addr), SE (X.blk s H scope (compEnvC scope cl C X.env) fp) Elt (evalE elt)) ∧
    (∀ x, foldedSetIterable Iter X.env x = pure x) ∧ ∀ j ∈ slots tg, j ∈ (ownL ns own).map (·.2) := by
  rw [chkE.eq_def] at h
  simp only at h
  split at h
  · rename_i Elt Tg Iter ifs scope pos
    obtain ⟨h1, h2⟩ := band h
    obtain ⟨h3, k4⟩ := band h1
    obtain ⟨h4, k5⟩ := band k4
    obtain ⟨h5, h6⟩ := band k5
    obtain ⟨h7, k8⟩ := band h2
    obtain ⟨h8, k9⟩ := band k8
    obtain ⟨h9, ha⟩ := band k9
    have ew := of_decide_eq_true h4
    have okk : BlkOk ns sc scope (ownL ns own) := blkOk_by h5
    refine ⟨Elt, Tg, Iter, ifs, scope, pos, rfl, ew, sndI it X sc fn Tg Iter G hf (nl (nr (nr hn))) h7, by rw [G.nm, G.sco]; exact okk, fun s H C cl fp => sndT tg _ _ _ Tg (G.blk okk s H C cl fp) hf (nl (nr hn)) h8, fun s H Cc cl fp => ?_,
      fun s H C cl fp => (sndE elt _ _ _ Elt (G.blk okk s H C cl fp) hf (nl hn) h9).v, noSet_of h3, fun j hj => ?_⟩
    · split at ha
      · exact spts_nil
      · exact pts_one (sndE c _ _ _ _ (G.blk okk s H Cc cl fp) hf (nr (nr (nr hn))) ha).t
      · cases ha
    · rw [ew]
      have := List.all_eq_true.mp h6 j hj
      simpa using this
  · cases h
/-- a comprehension's parts, read off its check -/
theorem dcomp_parts {kx vx tg it c : Ex} {own : List Nat} {E : Expr} (G : Good X ns sc fn k) (hf : ∀ x ∈ BN, X.mg x = none) (hn : ∀ n ∈ needs (.dcomp kx vx tg it c own), Met X k n) (h : chkE ns (.dcomp kx vx tg it c own) sc fn E = true) :
    ∃ Kx Vx Tg Iter ifs scope pos, E = .DictComp Kx Vx [⟨Tg, Iter, ifs, 0⟩] scope pos ∧ (ownL ns own).map (·.2) = own ∧ SI X Tg Iter (evalIt it) ∧ BlkOk X.N X.env.scope scope (ownL ns own) ∧
    (∀ (s : Shared) (H : Hp) (C : Addr) (cl : List (Str × Addr)) (fp : List Addr), SG (X.blk s H scope (compEnvC scope cl C X.env) fp) Tg tg) ∧
    (∀ (s : Shared) (H : Hp) (C : Addr) (cl : List (Str × Addr)) (fp : List Addr), PTs (X.blk s H scope (compEnvC scope cl C X.env) fp) ifs (TTv X.K (evalE c))) ∧
    (∀ (s : Shared) (H : Hp) (C : Addr) (cl : List (Str × Addr)) (fp : List Addr), SE (X.blk s H scope (compEnvC scope cl C X.env) fp) Kx (evalE kx)) ∧
    (∀ (s : Shared) (H : Hp) (C : Addr) (cl : List (Str × Addr)) (fp : List Addr), SE (X.blk s H scope (compEnvC scope cl C X.env) fp) Vx (evalE vx)) ∧
    (∀ x, foldedSetIterable Iter X.env x = pure x) ∧ ∀ j ∈ slots tg, j ∈ (ownL ns own).map (·.2) := by
  rw [chkE.eq_def] at h
  simp only at h
  split at h
  · rename_i Kx Vx Tg Iter ifs scope pos
    obtain ⟨h1, h2⟩ := band h
    obtain ⟨h3, k4⟩ := band h1
    obtain ⟨h4, k5⟩ := band k4
    obtain ⟨h5, h6⟩ := band k5
    obtain ⟨h7, k8⟩ := band h2
    obtain ⟨h8, k9⟩ := band k8
    obtain ⟨h9, ha⟩ := band k9
    obtain ⟨h9, hb⟩ := band h9
    have ew := of_decide_eq_true h4
    have okk : BlkOk ns sc scope (ownL ns own) := blkOk_by h5
    refine ⟨Kx, Vx, Tg, Iter, ifs, scope, pos, rfl, ew, sndI it X sc fn Tg Iter G hf (nl (nr (nr (nr hn)))) h7, by rw [G.nm, G.sco]; exact okk, fun s H C cl fp => sndT tg _ _ _ Tg (G.blk okk s H C cl fp) hf (nl (nr (nr hn))) h8, fun s H Cc cl fp => ?_,
      fun s H C cl fp => (sndE kx _ _ _ Kx (G.blk okk s H C cl fp) hf (nl hn) h9).v, fun s H C cl fp => (sndE vx _ _ _ Vx (G.blk okk s H C cl fp) hf (nl (nr hn)) hb).v, noSet_of h3, fun j hj => ?_⟩
    · split at ha
      · exact spts_nil
      · exact pts_one (sndE c _ _ _ _ (G.blk okk s H Cc cl fp) hf (nr (nr (nr (nr hn)))) ha).t
      · cases ha
    · rw [ew]
      have := List.all_eq_true.mp h6 j hj
      simpa using this
  · cases h
theorem lc_shape {x : Ex} {Elt : Expr} {gs : List Comprehension} {scope : Scope} {pos : Pos} (h : chkE ns x sc fn (.ListComp Elt gs scope pos) = true) : ∃ elt tg it c own, x = .comp elt tg it c own := by
  cases x with
  | comp elt tg it c own => exact ⟨_, _, _, _, _, rfl⟩
  | _ => rw [chkE.eq_def] at h; simp at h
theorem dc_shape {x : Ex} {Kx Vx : Expr} {gs : List Comprehension} {scope : Scope} {pos : Pos} (h : chkE ns x sc fn (.DictComp Kx Vx gs scope pos) = true) : ∃ kx vx tg it c own, x = .dcomp kx vx tg it c own := by
  cases x with
  | dcomp kx vx tg it c own => exact ⟨_, _, _, _, _, _, rfl⟩
  | _ => rw [chkE.eq_def] at h; simp at h
theorem snd_nm {t x : Ex} {y : Str} {py : Pos} {V : Expr} {pos : Pos} (G : Good X ns sc fn k) (hf : ∀ x ∈ BN, X.mg x = none) (hn : ∀ n ∈ needs t ++ needs x, Met X k n) (h1 : chkT ns t sc fn (.Name y py) = true) (h2 : chkNm ns sc fn t x y py V = true) : SS X (.Assign [.Name y py] V pos) (execS (.asg t x)) := by
  have hg := sndT t X sc fn _ G hf (nl hn) h1
  obtain ⟨h3, h4⟩ := band h2
  have plain : swapsWith V (some (.Name y py)) pos.line X.env = pure false → (∀ E, swappedStores [.Name y py] E X.env = pure none) → SS X (.Assign [.Name y py] V pos) (execS (.asg t x)) := fun q1 q2 => ss_asg (sndE x X sc fn _ G hf (nr hn) h3).v hg q1 (q2 V) rfl
  split at h4
  · rename_i Elt gs scope lp
    split at h4
    · rename_i c
      exact plain (sw_false (by rw [G.sco]; exact c)) fun _ => rfl
    · rename_i c
      obtain ⟨c1, c2⟩ := band c
      have hl := of_decide_eq_true c1
      obtain ⟨elt, tg, it, cc, own, rfl⟩ := lc_shape h3
      obtain ⟨Elt', Tg, Iter, ifs, scope', lp', ee, ew, q1, q2, q3, q4, q5, q6, q7⟩ := comp_parts G hf (nr hn) h3
      cases ee
      -- the target is a name
      have ht : ∃ i, t = .tgN i ∧ ns[i]? = some y := by
        cases t with
        | tgN i =>
          simp only [chkT] at h1
          exact ⟨i, rfl, of_decide_eq_true (band h1).1⟩
        | _ => simp [chkT] at h1
      obtain ⟨i, rfl, hi⟩ := ht
      have q := ss_setLc (spos := pos) (pos := lp) (py := py) (t := tg) (it := it) (c := cc) (elt := elt) G.cm (by rw [G.nm]; exact G.nd) (by rw [G.nm]; exact hi) (by rw [G.sco]; exact hl) (sw_true (by rw [G.sco]; exact G.kd) (by rw [G.sco]; exact hl) c2 (by simpa using h4)) q1 q2 q3 q4 q5 q6 q7
      rw [ew] at q
      exact q
  · rename_i Kx Vx gs scope lp
    split at h4
    · rename_i c
      exact plain (sw_falseD (by rw [G.sco]; exact c)) fun _ => rfl
    · rename_i c
      obtain ⟨c1, c2⟩ := band c
      have hl := of_decide_eq_true c1
      obtain ⟨kx, vx, tg, it, cc, own, rfl⟩ := dc_shape h3
      obtain ⟨Kx', Vx', Tg, Iter, ifs, scope', lp', ee, ew, q1, q2, q3, q4, q5, q5b, q6, q7⟩ := dcomp_parts G hf (nr hn) h3
      cases ee
      -- the target is a name
      have ht : ∃ i, t = .tgN i ∧ ns[i]? = some y := by
        cases t with
        | tgN i =>
          simp only [chkT] at h1
          exact ⟨i, rfl, of_decide_eq_true (band h1).1⟩
        | _ => simp [chkT] at h1
      obtain ⟨i, rfl, hi⟩ := ht
      have q := ss_setDc (spos := pos) (pos := lp) (py := py) (t := tg) (it := it) (c := cc) (kx := kx) (vx := vx) G.cm (by have := G.room; omega) (by rw [G.nm]; exact G.nd) (by rw [G.nm]; exact hi) (by rw [G.sco]; exact hl) (sw_trueD (by rw [G.sco]; exact G.kd) (by rw [G.sco]; exact hl) c2 (by simpa using h4)) q1 q2 q3 q4 q5 q5b q6 q7
      rw [ew] at q
      exact q
  · exact plain (noSwap_of h4) fun _ => rfl
mutual
theorem sndS : ∀ (s : St) (E : Stmt) (X : Cx), Good X ns sc fn k → (∀ x ∈ BN, X.mg x = none) → (∀ n ∈ needsS s, Met X k n) → chkS ns sc fn s E = true → SS X E (execS s)
  | .asg t x, E, X, G, hf, hn, h => by
    rw [chkS.eq_def] at h
    simp only at h
    split at h
    · rename_i tg V pos
      split at h
      · rename_i y py
        obtain ⟨h1, h2⟩ := band h
        exact snd_nm G hf hn h1 h2
      · rename_i ts kt pt
        split at h
        · rename_i hp
          obtain ⟨h3, h4⟩ := band h
          exact ss_asg (sndE x X sc fn _ G hf (nr hn) h4).v (sndT t X sc fn _ G hf (nl hn) h3) (sole_tup V) (par_no (by rw [G.sco]; exact hp)) rfl
        · split at h
          · rename_i i j a b n1 p1 n2 p2 A B k2 pt2 _
            obtain ⟨h1, h2⟩ := band h
            obtain ⟨h3, k4⟩ := band h1
            obtain ⟨k5, k6⟩ := band k4
            obtain ⟨h5, h6⟩ := band k5
            obtain ⟨h7, k8⟩ := band k6
            obtain ⟨h8, h9⟩ := band k8
            obtain ⟨ha, hb⟩ := band h2
            have hs : noStars [A, B] = true := (band (band (band h3).2).1).1
            have hn' := nr hn
            exact ss_par2 G.cm (by rw [G.nm]; exact G.nd) (by rw [G.nm]; exact of_decide_eq_true h5) (by rw [G.nm]; exact of_decide_eq_true h6) (of_decide_eq_true h7) (by rw [G.sco]; exact of_decide_eq_true h8) (by rw [G.sco]; exact of_decide_eq_true h9)
              (sa_all (.cons (sndE a X sc fn _ G hf (nl hn') ha) (.cons (sndE b X sc fn _ G hf (nl (nr hn')) hb) .nil)) hs) (par_yes (by rw [G.sco]; exact G.kd) (by rw [G.sco]; exact h3))
          · rename_i i j l a b c n1 p1 n2 p2 n3 p3 A B C k2 pt2 _
            obtain ⟨h1, h2⟩ := band h
            obtain ⟨h3, k4⟩ := band h1
            obtain ⟨k5, k6⟩ := band k4
            obtain ⟨h5, m6⟩ := band k5
            obtain ⟨h6, h7⟩ := band m6
            obtain ⟨m7, m8⟩ := band k6
            obtain ⟨e1, m9⟩ := band m7
            obtain ⟨e2, e3⟩ := band m9
            obtain ⟨l1, ma⟩ := band m8
            obtain ⟨l2, l3⟩ := band ma
            obtain ⟨ha, mb⟩ := band h2
            obtain ⟨hb, hc⟩ := band mb
            have hs : noStars [A, B, C] = true := (band (band (band h3).2).1).1
            have hn' := nr hn
            exact ss_par3 G.cm (by rw [G.nm]; exact G.nd) (by rw [G.nm]; exact of_decide_eq_true h5) (by rw [G.nm]; exact of_decide_eq_true h6) (by rw [G.nm]; exact of_decide_eq_true h7) (of_decide_eq_true e1) (of_decide_eq_true e2) (of_decide_eq_true e3) (by rw [G.sco]; exact of_decide_eq_true l1) (by rw [G.sco]; exact of_decide_eq_true l2) (by rw [G.sco]; exact of_decide_eq_true l3)
              (sa_all (.cons (sndE a X sc fn _ G hf (nl hn') ha) (.cons (sndE b X sc fn _ G hf (nl (nr hn')) hb) (.cons (sndE c X sc fn _ G hf (nl (nr (nr hn'))) hc) .nil))) hs) (par_yes (by rw [G.sco]; exact G.kd) (by rw [G.sco]; exact h3))
          · cases h
      · rename_i O I p
        obtain ⟨h3, h4⟩ := band h
        exact ss_asg (sndE x X sc fn _ G hf (nr hn) h4).v (sndT t X sc fn _ G hf (nl hn) h3) (sole_sub V) rfl rfl
      · cases h
    · cases h
  | .ex x, E, X, G, hf, hn, h => by
    simp only [chkS] at h
    split at h
    · obtain ⟨h1, h2⟩ := band h
      exact ss_ex (sndE x X sc fn _ G hf hn h2).v (noSwap_of h1)
    · cases h
  | .ife c a b, E, X, G, hf, hn, h => by
    simp only [chkS] at h
    split at h
    · obtain ⟨h1, h2⟩ := band h
      obtain ⟨h2, h3⟩ := band h2
      exact ss_ife (sndE c X sc fn _ G hf (nl hn) h1).t (sndSs a _ X G hf (nl (nr hn)) h2) (sndSs b _ X G hf (nr (nr hn)) h3)
    · cases h
  | .forS t it b, E, X, G, hf, hn, h => by
    simp only [chkS] at h
    split at h
    · obtain ⟨h1, h2⟩ := band h
      obtain ⟨h2, h3⟩ := band h2
      obtain ⟨h3, h4⟩ := band h3
      exact ss_for G.noxe G.cm (sndI it X sc fn _ _ G hf (nl (nr hn)) h2) (sndT t X sc fn _ G hf (nl hn) h3) (sndSs b _ X G hf (nr (nr hn)) h4) (noSet_of h1)
    · cases h
  | .wh n c b, E, X, G, hf, hn, h => by
    simp only [chkS] at h
    split at h
    · obtain ⟨h1, h2⟩ := band h
      exact ss_wh G.noxe (sndE c X sc fn _ G hf (nl hn) h1).t (sndSs b _ X G hf (nr hn) h2)
    · cases h
  | .ret x, E, X, G, hf, hn, h => by
    simp only [chkS] at h
    split at h
    · exact ss_ret (sndE x X sc fn _ G hf hn h).v
    · cases h
  | .retN, E, X, G, hf, hn, h => by
    simp only [chkS] at h
    split at h
    · exact ss_retN
    · cases h
  | .brk, E, X, G, hf, hn, h => by
    simp only [chkS] at h
    split at h
    · exact ss_brk
    · cases h
  | .pass, E, X, G, hf, hn, h => by
    simp only [chkS] at h
    split at h
    · exact ss_pass
    · exact ss_doc
    · cases h
  | .never, E, X, G, hf, hn, h => ss_never
theorem sndSs : ∀ (ss : List St) (Es : List Stmt) (X : Cx), Good X ns sc fn k → (∀ x ∈ BN, X.mg x = none) → (∀ n ∈ needsSs ss, Met X k n) → chkSs ns sc fn ss Es = true → SSs X Es (execSs ss)
  | [], Es, X, G, hf, hn, h => by
    simp only [chkSs] at h
    split at h
    · exact sss_nil
    · cases h
  | s :: ss, Es, X, G, hf, hn, h => by
    simp only [chkSs] at h
    split at h
    · obtain ⟨h1, h2⟩ := band h
      exact sss_cons (sndS s _ X G hf (nl hn) h1) (sndSs ss _ X G hf (nr hn) h2)
    · cases h
end
end
end N
set_option autoImplicit false
set_option Elab.async false
set_option linter.all false
set_option maxRecDepth 100000
set_option maxHeartbeats 4000000
namespace N
open PySem L2 PySem.Spec PyProof.Rows
/-! ### the law's end -/
/-- the script alone is told -/
def onlyAt (a : Addr) (vs : List Value) (ns : List Int) : Hp := fun b => if b = a then some (.frz { cls := .type "list", data := .seq vs.toArray } (.lst (ns.map V.int))) else none
theorem onlyAt_self {a : Addr} {vs : List Value} {ns : List Int} : onlyAt a vs ns a = some (.frz { cls := .type "list", data := .seq vs.toArray } (.lst (ns.map V.int))) := if_pos rfl
theorem onlyAt_ne {a b : Addr} {vs : List Value} {ns : List Int} (h : b ≠ a) : onlyAt a vs ns b = none := if_neg h
/-- no row stands in the written part -/
def rowless (K : PySem.W.Frag) : Prop := ∀ a o, K.lookup a = some o → ∀ xs n, o.data ≠ .seq xs n
theorem law_runs {P : Program} {w : World} {K : PySem.W.Frag} {mg mb : Str → Option Value} {k : Nat} {fa a : Addr} {fd : FuncData} {x : Str} {F : Fn} {st : Shared} {vs : List Value} {ns : List Int}
    (row : rowless K) (kin : K.In st.heap) (gl : st.heap.Ns mainGlobals mg) (bl : st.heap.Ns builtinsNs mb) (blt : ∀ y : Str, y ≠ "__name__" → mb y = bootBuiltins y) (lim : st.heap.NoLimit) (gens : st.gens = #[])
    (at_ : st.heap.get? a = some { cls := .type "list", data := .seq vs.toArray }) (inn : IntsAre vs ns) (len : ns.length ≤ sizeLine) (room : Room k callerA)
    (G : ∀ base : Heap, K.In base → base.Ns mainGlobals mg → FnG P w K mg base k fa fd [x] F) (bind : ∀ (s : Shared) (u : Value), BindsTo s fd ⟨[u], []⟩ [(x, u)])
    (says : ∃ S', F [.ref 0] [.scr ns] = some (.bl true, S')) :
    codeAny (model P w) callerA (.call (.ref fa) ⟨[.ref a], []⟩) (fun r s' => r = .ok (.ret (.bool true)) ∧ OldK st.heap s'.heap ∧ s'.os = st.os ∧ AllBare s'.gens) st := by
  have rel := vals_ints inn
  have notK : K.lookup a = none := by
    cases e : K.lookup a with
    | none => rfl
    | some o =>
      have q := kin a o e
      rw [at_] at q
      cases q
      exact absurd rfl (row a _ e _ _)
  have freeOf : ∀ {b : Addr}, b ≠ a → onlyAt a vs ns b = none := fun h => onlyAt_ne h
  have known : ∀ {b : Addr} {o : Obj}, st.heap.get? b = some o → b ≠ a → (hidT st.heap (onlyAt a vs ns)).get? b = some o := fun e h => hidT_get e (freeOf h)
  have nsOf : ∀ {b : Addr} {m : Str → Option Value}, st.heap.Ns b m → (hidT st.heap (onlyAt a vs ns)).Ns b m := by
    rintro b m ⟨o, es, ep, e, d, r⟩
    refine ⟨o, es, ep, known e fun z => ?_, d, r⟩
    rw [z, at_] at e
    cases e
    cases d
  have kbase : K.In (hidT st.heap (onlyAt a vs ns)) := fun b o e => known (kin b o e) fun z => by rw [z, notK] at e; cases e
  have hok : HOk P w (onlyAt a vs ns) st.heap := fun b u e => by
    by_cases z : b = a
    · subst z
      rw [onlyAt_self] at e
      cases e
      exact ⟨at_, by rw [List.length_map]; exact len, vs, 0, rel, at_⟩
    · rw [freeOf z] at e; cases e
  obtain ⟨mc, lm1, lm2⟩ := lim
  have env : Env0 P w K mg (hidT st.heap (onlyAt a vs ns)) callerA [] st (onlyAt a vs ns) :=
    ⟨rfl, ⟨kbase, nsOf gl, ⟨mb, nsOf bl, blt⟩, mc, nsOf lm1, lm2⟩, fun b o e => of_hidT e, Nat.le_of_eq (hidT_size _ _), trivial, fun b hb => (by cases hb), hok, .of_eq gens⟩
  obtain ⟨S', run⟩ := says
  have sp : rF K [x].length F [.ref a] (onlyAt a vs ns) fun v _ => v = .bl true := by
    refine ⟨rfl, [a], [.scr ns], [.ref 0], .bl true, S', ⟨rfl, fun n o b h1 h2 => ?_, fun m n b o u h1 h2 h3 _ l1 _ => ?_⟩, .cons (.ref rfl) .nil, run, fun ρ' H' v _ _ r => by cases r; rfl⟩
    · cases n with
      | zero => cases h1; cases h2; exact ⟨_, onlyAt_self⟩
      | succ n => simp at h1
    · cases m with
      | zero => cases h3; cases l1
      | succ m => simp at h3
  refine codeAny_mono ((G _ kbase (nsOf gl)).go (us := [.ref a]) (vs := [.ref a]) rfl room env (.cons rfl .nil) (bind st (.ref a)) sp) fun r s' h => ?_
  cases r with
  | error e => exact h.elim
  | ok fl =>
    cases fl with
    | next => exact h.elim
    | brk => exact h.elim
    | cont => exact h.elim
    | ret u =>
      obtain ⟨v, H', os, bare, un, hok', rv, q⟩ := h
      have q : v = .bl true := q
      subst q
      obtain rfl : u = Value.bool true := rv
      refine ⟨rfl, OldK.of_keep fun b o e => ?_, os, bare⟩
      by_cases z : b = a
      · subst z
        obtain ⟨e2, _⟩ := hok' b _ (un.frzs b _ _ onlyAt_self)
        rw [at_] at e
        cases e
        exact e2
      · exact un.keep b o e (freeOf z) (fun z => (by cases z)) (by simp)
theorem walk_G {l : PySem.W.OpenLaw} {n k : Nat} {q : Program} {loose : List Str} {XP : (Str → Option Value) → Heap → Prop} {YP : World → Heap → Prop} {d : DefRec} {x : Str}
    (hn : l.most = some n) (hn2 : n ≤ sizeLine) (hdf : d.params.defaults = []) (room : Room k callerA)
    (F : ∀ (w : World) (mg : Str → Option Value) (fa : Addr) (h : Heap), YP w h → h.Ns mainGlobals mg → mg d.name = some (.ref fa) →
      ∃ (K : PySem.W.Frag) (fd : FuncData) (f : Fn), K.In h ∧ rowless K ∧ (∀ (s : Shared) (u : Value), BindsTo s fd ⟨[u], []⟩ [(x, u)]) ∧
        (∀ ns : List Int, ns.length ≤ n → (∀ z ∈ ns, Builtin.Int.intBits z ≤ 1048576) → ∃ S', f [.ref 0] [.scr ns] = some (.bl true, S')) ∧
        ∀ base : Heap, K.In base → base.Ns mainGlobals mg → FnG l.prog w K mg base k fa fd [x] f) : PySem.W.WalkO q loose XP YP l.row.toRowW d [] (fun f vs => PySem.call f vs) := by
  refine Att.attach_callB hn hdf fun w s0 st mg mb fa o pm cd doc a vs ns G Y ho hd hcd hmg hobj hin len bits gens => ?_
  obtain ⟨K, fd, f, kin, row, hb, says, hG⟩ := F w mg fa _ Y G.T.g hmg
  exact law_runs row kin G.T.g G.T.b G.T.builtins G.T.nolimit gens hobj hin (Nat.le_trans len hn2) room hG hb (says ns len bits)
/-! ### the written part without its rows -/
def plainO (o : Obj) : Bool := match o.data with
  | .seq _ _ => false
  | _ => true
def lessK (K : PySem.W.Frag) : PySem.W.Frag := K.filterMap fun p => match K.lookup p.1 with
  | some o => if plainO o then some (p.1, o) else none
  | none => none
theorem lessAt (K : PySem.W.Frag) {b : Addr} {o : Obj} : ∀ L : PySem.W.Frag, (L.filterMap fun p => match K.lookup p.1 with
  | some o => if plainO o then some (p.1, o) else none
  | none => none).lookup b = some o → K.lookup b = some o ∧ plainO o = true
  | [], h => by cases h
  | p :: ps, h => by
    rw [List.filterMap_cons] at h
    cases e : K.lookup p.1 with
    | none => rw [e] at h; exact lessAt K ps h
    | some u =>
      rw [e] at h
      by_cases c : plainO u = true
      · simp only [c, if_true] at h
        rw [List.lookup_cons] at h
        split at h
        · rename_i z
          cases h
          rw [eq_of_beq z]
          exact ⟨e, c⟩
        · exact lessAt K ps h
      · simp only [c] at h
        exact lessAt K ps h
theorem less_has (K : PySem.W.Frag) {b : Addr} {o : Obj} (h : K.lookup b = some o) (c : plainO o = true) : ∀ L : PySem.W.Frag, (L.lookup b).isSome = true → (L.filterMap fun p => match K.lookup p.1 with
  | some o => if plainO o then some (p.1, o) else none
  | none => none).lookup b = some o
  | [], e => by cases e
  | p :: ps, e => by
    rw [List.filterMap_cons]
    by_cases z : b = p.1
    · subst z
      simp only [h, c, if_true]
      rw [List.lookup_cons]
      simp
    · have e' : (ps.lookup b).isSome = true := by
        rw [List.lookup_cons] at e
        have : (b == p.1) = false := by simpa using z
        rw [this] at e
        exact e
      have ih := less_has K h c ps e'
      split
      · exact ih
      · rename_i u hu
        split at hu
        · split at hu
          · cases hu
            rw [List.lookup_cons]
            have : (b == p.1) = false := by simpa using z
            rw [this]
            exact ih
          · cases hu
        · cases hu
theorem less_look {K : PySem.W.Frag} {b : Addr} {o : Obj} : (lessK K).lookup b = some o ↔ K.lookup b = some o ∧ plainO o = true :=
  ⟨fun h => lessAt K K h, fun h => less_has K h.1 h.2 K (by rw [h.1]; rfl)⟩
theorem less_in {K : PySem.W.Frag} {h : Heap} (kin : K.In h) : (lessK K).In h := fun b o e => kin b o (less_look.mp e).1
theorem less_row (K : PySem.W.Frag) : rowless (lessK K) := fun a o e xs n z => by
  have := (less_look.mp e).2
  unfold plainO at this
  rw [z] at this
  cases this
theorem less_code {K : PySem.W.Frag} {cd : Value} {q : Str} (h : PySem.W.codeIn K cd q = true) : PySem.W.codeIn (lessK K) cd q = true := by
  unfold PySem.W.codeIn at h ⊢
  split at h
  · split at h
    · rename_i c _ o1 o2 vs o3 e
      have : (lessK K).lookup c = some _ := less_look.mpr ⟨e, rfl⟩
      rw [this]
      exact h
    · cases h
  · cases h
/-- a def of the module by its name: as the head tells it -/
structure DefN (K : PySem.W.Frag) (mg : Str → Option Value) (x qual : Str) (st : Stmt) (f : Addr) (fd : FuncData) : Prop where
  fn : C8.Fun K qual qual st f fd
  mgf : mg x = some (.ref f)
  kp : PySem.W.keepIn K (.ref f) = true
  df : fd.defaults = .none
end N
set_option autoImplicit false
set_option Elab.async false
set_option linter.all false
set_option maxRecDepth 100000
set_option maxHeartbeats 4000000
namespace N
open PySem L2 PySem.Spec PyProof.Rows
/-! ### the chain of defs -/
def MetP (P : Program) (w : World) (K : PySem.W.Frag) (mg : Str → Option Value) (base : Heap) (k : Nat) : Need → Prop
  | .call x f => CalG P w K mg base k (sOf x) f
  | .callk x ks f perm => CalK P w K mg base k (sOf x) (ks.map sOf) perm f
  | .gint x i => ∃ t, mg (sOf x) = some (.int i t)
theorem all_nil {P : Need → Prop} : ∀ n ∈ ([] : List Need), P n := fun n h => by cases h
theorem all_cons {P : Need → Prop} {a : Need} {l : List Need} (h : P a) (t : ∀ n ∈ l, P n) : ∀ n ∈ a :: l, P n := fun n q => by
  rcases List.mem_cons.mp q with rfl | q
  · exact h
  · exact t n q
section
variable {P : Program} {w : World} {K : PySem.W.Frag} {mg : Str → Option Value} {base : Heap} {nm x : Str} {st : Stmt} {f : Addr} {fd : FuncData} {ns ps : List Str} {k j n : Nat} {body : List St} {F : Fn}
theorem FnG.mono (G : FnG P w K mg base k f fd ps F) (h : k ≤ j) : FnG P w K mg base j f fd ps F := ⟨fun gd r => G.go gd (r.mono h)⟩
theorem CalG.mono (c : CalG P w K mg base k x F) (h : k ≤ j) : CalG P w K mg base j x F := by
  obtain ⟨f, fd, ps, G, r⟩ := c.ex
  exact ⟨f, fd, ps, G.mono h, r⟩
theorem CalK.mono {ks : List Str} {perm : List Nat} (c : CalK P w K mg base k x ks perm F) (h : k ≤ j) : CalK P w K mg base j x ks perm F := by
  obtain ⟨f, fd, ps, G, r⟩ := c.ex
  exact ⟨f, fd, ps, G.mono h, r⟩
abbrev FunS (K : PySem.W.Frag) (nm : Str) (st : Stmt) (f : Addr) (fd : FuncData) : Prop := L2.FunD K nm nm (C8.fnArgs st) (C8.fnBody st) (C8.fnScope st) [] [] f fd
theorem fun_less (D : FunS K nm st f fd) : C8.Fun (lessK K) nm nm st f fd := by
  obtain ⟨oc, od, dV, kV, doc, pm, an, cdv, ct, osl, rfl, lk, hcd, _, _⟩ := D.ex
  exact ⟨⟨oc, od, dV, kV, doc, pm, an, cdv, ct, osl, rfl, less_look.mpr ⟨lk, rfl⟩, less_code hcd⟩⟩
theorem keep_less (D : FunS K nm st f fd) : PySem.W.keepIn (lessK K) (.ref f) = true := by
  obtain ⟨oc, od, dV, kV, doc, pm, an, cdv, ct, osl, rfl, lk, hcd, _, _⟩ := D.ex
  have : (lessK K).lookup f = some _ := less_look.mpr ⟨lk, rfl⟩
  unfold PySem.W.keepIn
  simp only [this]
theorem def_G (D : FunS K nm st f fd) (hn : n = ns.length) (sc : C8.scC ns ps (C8.fnScope st) = true) (chk : chkSs ns (C8.fnScope st) (fun _ => true) body (C8.fnBody st) = true)
    (hf : ∀ x ∈ BN, mg x = none) (hm : ∀ m ∈ needsSs body, MetP P w (lessK K) mg base k m) : FnG P w (lessK K) mg base (k + 1) f fd ps (runF n ps.length body) := by
  refine fn_G hn (fun_less D) (C8.fnScope_by sc) fun X e1 e2 e3 e4 e5 G => ?_
  subst e1 e2 e4 e5
  refine sndSs body _ X G hf (fun m q => ?_) chk
  have := hm m q
  rw [← e3] at this
  cases m <;> exact this
/-- its arguments are bound by place -/
def BindP (nm : Str) (st : Stmt) (ps : List Str) : Prop := ∀ (kV doc pm : Value) (an : Option Addr) (cdv ct : Value) (us : List Value), us.length = ps.length → bindArgs (PySem.W.fnOf nm nm (C8.fnArgs st) (C8.fnBody st) (C8.fnScope st) .none kV doc pm an cdv ct) ⟨us, []⟩ = pure (ps.zip us)
def BindK (nm : Str) (st : Stmt) (ps ks : List Str) (perm : List Nat) : Prop := ∀ (kV doc pm : Value) (an : Option Addr) (cdv ct : Value) (us : List Value), us.length = ks.length → bindArgs (PySem.W.fnOf nm nm (C8.fnArgs st) (C8.fnBody st) (C8.fnScope st) .none kV doc pm an cdv ct) ⟨[], ks.zip us⟩ = pure (ps.zip (perm.filterMap fun i => us[i]?))
theorem bindP_of (D : FunS K nm st f fd) (h : BindP nm st ps) : ∀ us : List Value, us.length = ps.length → bindArgs fd ⟨us, []⟩ = pure (ps.zip us) := by
  obtain ⟨oc, od, dV, kV, doc, pm, an, cdv, ct, osl, rfl, lk, hcd, hD, hK⟩ := D.ex
  rcases hD with ⟨_, rfl⟩ | ⟨e, _⟩
  · exact h kV doc pm an cdv ct
  · exact absurd rfl e
theorem bindK_of {ks : List Str} {perm : List Nat} (D : FunS K nm st f fd) (h : BindK nm st ps ks perm) : ∀ us : List Value, us.length = ks.length → bindArgs fd ⟨[], ks.zip us⟩ = pure (ps.zip (perm.filterMap fun i => us[i]?)) := by
  obtain ⟨oc, od, dV, kV, doc, pm, an, cdv, ct, osl, rfl, lk, hcd, hD, hK⟩ := D.ex
  rcases hD with ⟨_, rfl⟩ | ⟨e, _⟩
  · exact h kV doc pm an cdv ct
  · exact absurd rfl e
theorem cal_G (D : FunS K nm st f fd) (G : FnG P w (lessK K) mg base k f fd ps (runF n ps.length body)) (hm : mg x = some (.ref f)) (b : BindP nm st ps) : CalG P w (lessK K) mg base k x (runF n ps.length body) :=
  ⟨f, fd, ps, G, hm, keep_less D, runF_len, bindP_of D b⟩
theorem calK_G {ks : List Str} {perm : List Nat} (D : FunS K nm st f fd) (G : FnG P w (lessK K) mg base k f fd ps (runF n ps.length body)) (hm : mg x = some (.ref f)) (hp : perm.length = ps.length) (hp2 : ∀ i ∈ perm, i < ks.length) (b : BindK nm st ps ks perm) : CalK P w (lessK K) mg base k x ks perm (runF n ps.length body) :=
  ⟨f, fd, ps, G, hm, keep_less D, runF_len, hp, hp2, bindK_of D b⟩
/-- a list of so many -/
theorem len_cases {α : Type} {Q : List α → Prop} : (n : Nat) → (us : List α) → us.length = n → (match n with
  | 0 => Q []
  | 1 => ∀ a, Q [a]
  | 2 => ∀ a b, Q [a, b]
  | 3 => ∀ a b c, Q [a, b, c]
  | 4 => ∀ a b c d, Q [a, b, c, d]
  | 5 => ∀ a b c d e, Q [a, b, c, d, e]
  | 6 => ∀ a b c d e f, Q [a, b, c, d, e, f]
  | _ => False) → Q us
  | 0, [], _, h => h
  | 1, [a], _, h => h a
  | 2, [a, b], _, h => h a b
  | 3, [a, b, c], _, h => h a b c
  | 4, [a, b, c, d], _, h => h a b c d
  | 5, [a, b, c, d, e], _, h => h a b c d e
  | 6, [a, b, c, d, e, f], _, h => h a b c d e f
  | n + 7, _, _, h => h.elim
end
end N
set_option autoImplicit false
set_option linter.all false
set_option maxRecDepth 100000
namespace N
namespace K75
def fuel : Nat := 1000000000000
/-- is_integer: 0 value -/
def b_is_integer : List St := [.ret (.and (.blt (.isi .int) [.var 0]) [.not (.blt (.isi .bool) [.var 0])])]
abbrev f_is_integer : Fn := runF 1 1 b_is_integer
/-- is_item: 0 value -/
def b_is_item : List St := [.ret (.and (.call [105, 115, 95, 105, 110, 116, 101, 103, 101, 114] f_is_integer [.var 0]) [.cmp (.blt .abs [.var 0]) [.le] [.glo [77, 65, 88, 95, 73, 84, 69, 77] (.int 1000000)]])]
abbrev f_is_item : Fn := runF 1 1 b_is_item
/-- is_thing: 0 value, 1 item -/
def b_is_thing : List St := [.ret (.and (.blt (.isi .tuple) [.var 0]) [.cmp (.blt .len [.var 0]) [.le] [.glo [77, 65, 88, 95, 76, 79, 78, 71] (.int 64)], .blt .all [.comp (.call [105, 115, 95, 105, 116, 101, 109] f_is_item [.var 1]) (.tgN 1) (.wk (.var 0)) (.bl true) [1]]])]
abbrev f_is_thing : Fn := runF 2 1 b_is_thing
/-- again_place: 0 things, 1 known, 2 k, 3 thing -/
def b_again_place : List St := [.asg (.tgN 1) (.dict []),
    .forS (.tgT [.tgN 2, .tgN 3]) (.enum (.var 0)) [.ife (.cmp (.var 3) [.inn] [.var 1]) [.ret (.var 2)] [],
    .asg (.tgS (.var 1) (.var 3)) (.bl true)],
    .ret (.non)]
abbrev f_again_place : Fn := runF 4 1 b_again_place
/-- list_error: 0 value, 1 k, 2 thing -/
def b_list_error : List St := [.ife (.or (.not (.blt (.isi .tuple) [.var 0])) [.cmp (.blt .len [.var 0]) [.gt] [.glo [77, 65, 88, 95, 84, 72, 73, 78, 71, 83] (.int 5000)]]) [.ret (.str [102, 111, 114, 109])] [],
    .forS (.tgT [.tgN 1, .tgN 2]) (.enum (.var 0)) [.ife (.not (.call [105, 115, 95, 116, 104, 105, 110, 103] f_is_thing [.var 2])) [.ret (.tup [.str [116, 104, 105, 110, 103], .var 1])] []],
    .asg (.tgN 1) (.call [97, 103, 97, 105, 110, 95, 112, 108, 97, 99, 101] f_again_place [.var 0]),
    .ret (.ife (.cmp (.var 1) [.isnt] [.non]) (.tup [.str [97, 103, 97, 105, 110], .var 1]) (.non))]
abbrev f_list_error : Fn := runF 3 1 b_list_error
/-- places_of: 0 near, 1 things, 2 places, 3 place, 4 thing -/
def b_places_of : List St := [.asg (.tgN 2) (.dcomp (.var 4) (.var 3) (.tgT [.tgN 3, .tgN 4]) (.enum (.var 0)) (.bl true) [3, 4]),
    .ret (.blt .tuple [.comp (.meth .get (.var 2) [.var 4]) (.tgN 4) (.wk (.var 1)) (.bl true) [4]])]
abbrev f_places_of : Fn := runF 5 2 b_places_of
/-- unlike_places: 0 one, 1 other, 2 place, 3 item -/
def b_unlike_places : List St := [.ife (.cmp (.blt .len [.var 0]) [.ne] [.blt .len [.var 1]]) [.ret (.non)] [],
    .ret (.comp (.var 2) (.tgT [.tgN 2, .tgN 3]) (.enum (.var 0)) (.cmp (.var 3) [.ne] [.idx (.var 1) (.var 2)]) [2, 3])]
abbrev f_unlike_places : Fn := runF 4 2 b_unlike_places
/-- place_step: 0 word, 1 one, 2 other, 3 places, 4 place -/
def b_place_step : List St := [.asg (.tgN 3) (.call [117, 110, 108, 105, 107, 101, 95, 112, 108, 97, 99, 101, 115] f_unlike_places [.var 1, .var 2]),
    .ife (.or (.cmp (.var 3) [.is] [.non]) [.cmp (.blt .len [.var 3]) [.ne] [.int 1]]) [.ret (.non)] [],
    .asg (.tgN 4) (.idx (.var 3) (.int 0)),
    .ife (.and (.cmp (.var 0) [.eq] [.str [117, 110, 105, 116]]) [.cmp (.blt .abs [.bin .sub (.idx (.var 1) (.var 4)) (.idx (.var 2) (.var 4))]) [.ne] [.int 1]]) [.ret (.non)] [],
    .ret (.tup [.var 4, .idx (.var 1) (.var 4), .idx (.var 2) (.var 4)])]
abbrev f_place_step : Fn := runF 5 3 b_place_step
/-- swap_step: 0 word, 1 one, 2 other, 3 places, 4 i, 5 j -/
def b_swap_step : List St := [.asg (.tgN 3) (.call [117, 110, 108, 105, 107, 101, 95, 112, 108, 97, 99, 101, 115] f_unlike_places [.var 1, .var 2]),
    .ife (.or (.cmp (.var 3) [.is] [.non]) [.cmp (.blt .len [.var 3]) [.ne] [.int 2]]) [.ret (.non)] [],
    .asg (.tgT [.tgN 4, .tgN 5]) (.var 3),
    .ife (.or (.cmp (.idx (.var 1) (.var 4)) [.ne] [.idx (.var 2) (.var 5)]) [.cmp (.idx (.var 1) (.var 5)) [.ne] [.idx (.var 2) (.var 4)], .and (.cmp (.var 0) [.eq] [.str [110, 101, 120, 116]]) [.cmp (.var 5) [.ne] [.bin .add (.var 4) (.int 1)]]]) [.ret (.non)] [],
    .ret (.tup [.var 4, .var 5])]
abbrev f_swap_step : Fn := runF 6 3 b_swap_step
/-- door_step: 0 word, 1 one, 2 other, 3 out, 4 into, 5 item -/
def b_door_step : List St := [.ife (.or (.cmp (.setlen (.var 1)) [.lt] [.blt .len [.var 1]]) [.cmp (.setlen (.var 2)) [.lt] [.blt .len [.var 2]]]) [.ret (.non)] [],
    .asg (.tgT [.tgN 3, .tgN 4]) (.tup [.comp (.var 5) (.tgN 5) (.wk (.var 1)) (.cmp (.var 5) [.nin] [.var 2]) [5], .comp (.var 5) (.tgN 5) (.wk (.var 2)) (.cmp (.var 5) [.nin] [.var 1]) [5]]),
    .ife (.cmp (.var 0) [.eq] [.str [100, 111, 111, 114]]) [.ret (.ife (.and (.cmp (.blt .len [.var 3]) [.eq] [.int 1]) [.cmp (.blt .len [.var 4]) [.eq] [.int 1]]) (.tup [.idx (.var 3) (.int 0), .idx (.var 4) (.int 0)]) (.non))] [],
    .ife (.cmp (.bin .add (.blt .len [.var 3]) (.blt .len [.var 4])) [.ne] [.int 1]) [.ret (.non)] [],
    .ret (.ife (.cmp (.var 3) [.eq] [.lst []]) (.tup [.idx (.var 4) (.int 0), .int 1]) (.tup [.idx (.var 3) (.int 0), .neg (.int 1)]))]
abbrev f_door_step : Fn := runF 6 3 b_door_step
/-- step_told: 0 word, 1 one, 2 other -/
def b_step_told : List St := [.ife (.cmp (.var 0) [.inn] [.tup [.str [112, 108, 97, 99, 101], .str [117, 110, 105, 116]]]) [.ret (.call [112, 108, 97, 99, 101, 95, 115, 116, 101, 112] f_place_step [.var 0, .var 1, .var 2])] [],
    .ife (.cmp (.var 0) [.inn] [.tup [.str [115, 119, 97, 112], .str [110, 101, 120, 116]]]) [.ret (.call [115, 119, 97, 112, 95, 115, 116, 101, 112] f_swap_step [.var 0, .var 1, .var 2])] [],
    .ret (.call [100, 111, 111, 114, 95, 115, 116, 101, 112] f_door_step [.var 0, .var 1, .var 2])]
abbrev f_step_told : Fn := runF 3 3 b_step_told
/-- is_step: 0 word, 1 one, 2 other -/
def b_is_step : List St := [.ret (.cmp (.call [115, 116, 101, 112, 95, 116, 111, 108, 100] f_step_told [.var 0, .var 1, .var 2]) [.isnt] [.non])]
abbrev f_is_step : Fn := runF 3 3 b_is_step
/-- list_fault: 0 word, 1 near, 2 k -/
def b_list_fault : List St := [.forS (.tgN 2) (.rng [.bin .sub (.blt .len [.var 1]) (.int 1)]) [.ife (.not (.call [105, 115, 95, 115, 116, 101, 112] f_is_step [.var 0, .idx (.var 1) (.var 2), .idx (.var 1) (.bin .add (.var 2) (.int 1))])) [.ret (.var 2)] []],
    .ret (.non)]
abbrev f_list_fault : Fn := runF 3 2 b_list_fault
/-- does_close: 0 word, 1 near -/
def b_does_close : List St := [.ife (.or (.cmp (.var 1) [.eq] [.tup []]) [.cmp (.call [108, 105, 115, 116, 95, 102, 97, 117, 108, 116] f_list_fault [.var 0, .var 1]) [.isnt] [.non]]) [.ret (.bl false)] [],
    .ret (.or (.cmp (.blt .len [.var 1]) [.eq] [.int 1]) [.call [105, 115, 95, 115, 116, 101, 112] f_is_step [.var 0, .idx (.var 1) (.neg (.int 1)), .idx (.var 1) (.int 0)]])]
abbrev f_does_close : Fn := runF 2 2 b_does_close
/-- steps_row: 0 word, 1 near, 2 k -/
def b_steps_row : List St := [.ife (.cmp (.call [108, 105, 115, 116, 95, 102, 97, 117, 108, 116] f_list_fault [.var 0, .var 1]) [.isnt] [.non]) [.never] [],
    .ret (.blt .tuple [.comp (.call [115, 116, 101, 112, 95, 116, 111, 108, 100] f_step_told [.var 0, .idx (.var 1) (.var 2), .idx (.var 1) (.bin .add (.var 2) (.int 1))]) (.tgN 2) (.rng [.bin .sub (.blt .len [.var 1]) (.int 1)]) (.bl true) [2]])]
abbrev f_steps_row : Fn := runF 3 2 b_steps_row
/-- placed_on: 0 word, 1 one, 2 step, 3 place, 4 before, 5 behind -/
def b_placed_on : List St := [.asg (.tgT [.tgN 3, .tgN 4, .tgN 5]) (.var 2),
    .ife (.or (.not (.cmp (.int 0) [.le, .lt] [.var 3, .blt .len [.var 1]])) [.cmp (.idx (.var 1) (.var 3)) [.ne] [.var 4], .not (.call [105, 115, 95, 105, 116, 101, 109] f_is_item [.var 5]), .cmp (.var 4) [.eq] [.var 5]]) [.never] [],
    .ife (.and (.cmp (.var 0) [.eq] [.str [117, 110, 105, 116]]) [.cmp (.blt .abs [.bin .sub (.var 4) (.var 5)]) [.ne] [.int 1]]) [.never] [],
    .ret (.bin .add (.bin .add (.slc (.var 1) (.abs) (.var 3) (.abs)) (.tup [.var 5])) (.slc (.var 1) (.bin .add (.var 3) (.int 1)) (.abs) (.abs)))]
abbrev f_placed_on : Fn := runF 6 3 b_placed_on
/-- swapped_on: 0 word, 1 one, 2 step, 3 i, 4 j -/
def b_swapped_on : List St := [.asg (.tgT [.tgN 3, .tgN 4]) (.var 2),
    .ife (.or (.not (.cmp (.int 0) [.le, .lt, .lt] [.var 3, .var 4, .blt .len [.var 1]])) [.cmp (.idx (.var 1) (.var 3)) [.eq] [.idx (.var 1) (.var 4)], .and (.cmp (.var 0) [.eq] [.str [110, 101, 120, 116]]) [.cmp (.var 4) [.ne] [.bin .add (.var 3) (.int 1)]]]) [.never] [],
    .ret (.bin .add (.bin .add (.bin .add (.bin .add (.slc (.var 1) (.abs) (.var 3) (.abs)) (.tup [.idx (.var 1) (.var 4)])) (.slc (.var 1) (.bin .add (.var 3) (.int 1)) (.var 4) (.abs))) (.tup [.idx (.var 1) (.var 3)])) (.slc (.var 1) (.bin .add (.var 4) (.int 1)) (.abs) (.abs)))]
abbrev f_swapped_on : Fn := runF 5 3 b_swapped_on
/-- moved_on: 0 one, 1 out, 2 into, 3 found, 4 item -/
def b_moved_on : List St := [.ife (.or (.cmp (.setlen (.var 0)) [.lt] [.blt .len [.var 0]]) [.not (.blt .all [.comp (.cmp (.var 4) [.inn] [.var 0]) (.tgN 4) (.wk (.var 1)) (.bl true) [4]])]) [.never] [],
    .asg (.tgN 3) (.bin .add (.comp (.var 4) (.tgN 4) (.wk (.var 0)) (.cmp (.var 4) [.nin] [.var 1]) [4]) (.var 2)),
    .ife (.or (.not (.blt .all [.comp (.and (.call [105, 115, 95, 105, 116, 101, 109] f_is_item [.var 4]) [.cmp (.var 4) [.nin] [.var 0]]) (.tgN 4) (.wk (.var 2)) (.bl true) [4]])) [.cmp (.blt .len [.var 3]) [.gt] [.glo [77, 65, 88, 95, 76, 79, 78, 71] (.int 64)]]) [.never] [],
    .ret (.blt .tuple [.blt .sorted [.var 3]])]
abbrev f_moved_on : Fn := runF 5 3 b_moved_on
/-- stepped_on: 0 word, 1 one, 2 step, 3 many, 4 item -/
def b_stepped_on : List St := [.asg (.tgN 3) (.ife (.cmp (.var 0) [.inn] [.tup [.str [112, 108, 97, 99, 101], .str [117, 110, 105, 116]]]) (.int 3) (.int 2)),
    .ife (.or (.not (.blt (.isi .tuple) [.var 2])) [.cmp (.blt .len [.var 2]) [.ne] [.var 3], .not (.blt .all [.comp (.call [105, 115, 95, 105, 110, 116, 101, 103, 101, 114] f_is_integer [.var 4]) (.tgN 4) (.wk (.var 2)) (.bl true) [4]])]) [.never] [],
    .ife (.cmp (.var 0) [.inn] [.tup [.str [112, 108, 97, 99, 101], .str [117, 110, 105, 116]]]) [.ret (.call [112, 108, 97, 99, 101, 100, 95, 111, 110] f_placed_on [.var 0, .var 1, .var 2])] [],
    .ife (.cmp (.var 0) [.inn] [.tup [.str [115, 119, 97, 112], .str [110, 101, 120, 116]]]) [.ret (.call [115, 119, 97, 112, 112, 101, 100, 95, 111, 110] f_swapped_on [.var 0, .var 1, .var 2])] [],
    .ife (.cmp (.var 0) [.eq] [.str [100, 111, 111, 114]]) [.ret (.call [109, 111, 118, 101, 100, 95, 111, 110] f_moved_on [.var 1, .lst [.idx (.var 2) (.int 0)], .lst [.idx (.var 2) (.int 1)]])] [],
    .ife (.cmp (.idx (.var 2) (.int 1)) [.nin] [.tup [.int 1, .neg (.int 1)]]) [.never] [],
    .ret (.ife (.cmp (.idx (.var 2) (.int 1)) [.eq] [.int 1]) (.call [109, 111, 118, 101, 100, 95, 111, 110] f_moved_on [.var 1, .lst [], .lst [.idx (.var 2) (.int 0)]]) (.call [109, 111, 118, 101, 100, 95, 111, 110] f_moved_on [.var 1, .lst [.idx (.var 2) (.int 0)], .lst []]))]
abbrev f_stepped_on : Fn := runF 5 3 b_stepped_on
/-- place_of_row: 0 row, 1 item, 2 place, 3 digit -/
def b_place_of_row : List St := [.asg (.tgT [.tgN 2, .tgN 3]) (.tup [.int 0, .int 0]),
    .forS (.tgN 1) (.wk (.var 0)) [.asg (.tgN 3) (.blt .int [.cmp (.var 3) [.ne] [.var 1]]),
    .asg (.tgN 2) (.bin .add (.bin .mul (.int 2) (.var 2)) (.var 3))],
    .ret (.var 2)]
abbrev f_place_of_row : Fn := runF 4 1 b_place_of_row
/-- digits_of: 0 n, 1 place, 2 found, 3 step -/
def b_digits_of : List St := [.asg (.tgN 2) (.lst []),
    .forS (.tgN 3) (.rng [.var 0]) [.ex (.meth .append (.var 2) [.bin .mod (.var 1) (.int 2)]),
    .asg (.tgN 1) (.bin .fdiv (.var 1) (.int 2))],
    .ret (.slc (.var 2) (.abs) (.abs) (.neg (.int 1)))]
abbrev f_digits_of : Fn := runF 4 2 b_digits_of
/-- row_at: 0 n, 1 place, 2 digits, 3 one, 4 other -/
def b_row_at : List St := [.asg (.tgN 2) (.call [100, 105, 103, 105, 116, 115, 95, 111, 102] f_digits_of [.var 0, .var 1]),
    .ret (.blt .tuple [.comp (.blt .int [.cmp (.var 3) [.ne] [.var 4]]) (.tgT [.tgN 3, .tgN 4]) (.zip (.var 2) (.bin .add (.lst [.int 0]) (.var 2))) (.bl true) [3, 4]])]
abbrev f_row_at : Fn := runF 5 2 b_row_at
/-- rows_in_all: 0 n, 1 found, 2 step -/
def b_rows_in_all : List St := [.asg (.tgN 1) (.int 1),
    .forS (.tgN 2) (.rng [.var 0]) [.asg (.tgN 1) (.bin .mul (.int 2) (.var 1))],
    .ret (.var 1)]
abbrev f_rows_in_all : Fn := runF 3 1 b_rows_in_all
/-- next_flipped: 0 row, 1 place -/
def b_next_flipped : List St := [.asg (.tgN 1) (.bin .add (.call [112, 108, 97, 99, 101, 95, 111, 102, 95, 114, 111, 119] f_place_of_row [.var 0]) (.int 1)),
    .ret (.ife (.cmp (.var 1) [.lt] [.call [114, 111, 119, 115, 95, 105, 110, 95, 97, 108, 108] f_rows_in_all [.blt .len [.var 0]]]) (.call [114, 111, 119, 95, 97, 116] f_row_at [.blt .len [.var 0], .var 1]) (.non))]
abbrev f_next_flipped : Fn := runF 2 1 b_next_flipped
/-- flipped_list: 0 n, 1 place -/
def b_flipped_list : List St := [.ife (.cmp (.var 0) [.gt] [.glo [77, 65, 88, 95, 83, 72, 79, 87, 78] (.int 12)]) [.never] [],
    .ret (.blt .tuple [.comp (.call [114, 111, 119, 95, 97, 116] f_row_at [.var 0, .var 1]) (.tgN 1) (.rng [.call [114, 111, 119, 115, 95, 105, 110, 95, 97, 108, 108] f_rows_in_all [.var 0]]) (.bl true) [1]])]
abbrev f_flipped_list : Fn := runF 2 1 b_flipped_list
/-- even_places: 0 n, 1 end -/
def b_even_places : List St := [.ret (.bin .fdiv (.bin .add (.var 1) (.int 1)) (.int 2))]
abbrev f_even_places : Fn := runF 2 2 b_even_places
/-- switch_turned: 0 n, 1 place, 2 switch, 3 here -/
def b_switch_turned : List St := [.ife (.cmp (.var 1) [.eq] [.bin .sub (.call [114, 111, 119, 115, 95, 105, 110, 95, 97, 108, 108] f_rows_in_all [.var 0]) (.int 1)]) [.ret (.int 0)] [],
    .asg (.tgT [.tgN 2, .tgN 3]) (.tup [.bin .sub (.var 0) (.int 1), .bin .add (.var 1) (.int 1)]),
    .wh fuel (.cmp (.bin .mod (.var 3) (.int 2)) [.eq] [.int 0]) [.asg (.tgT [.tgN 2, .tgN 3]) (.tup [.bin .sub (.var 2) (.int 1), .bin .fdiv (.var 3) (.int 2)])],
    .ret (.var 2)]
abbrev f_switch_turned : Fn := runF 4 2 b_switch_turned
/-- need_few: 0 near -/
def b_need_few : List St := [.ife (.cmp (.blt .len [.var 0]) [.gt] [.glo [77, 65, 88, 95, 83, 73, 68, 69, 68] (.int 300)]) [.never] []]
abbrev f_need_few : Fn := runF 1 1 b_need_few
/-- neighbours_of: 0 word, 1 near, 2 found, 3 i, 4 one, 5 j, 6 thing, 7 own -/
def b_neighbours_of : List St := [.ex (.call [110, 101, 101, 100, 95, 102, 101, 119] f_need_few [.var 1]),
    .asg (.tgN 2) (.comp (.lst []) (.tgN 6) (.wk (.var 1)) (.bl true) [6]),
    .forS (.tgT [.tgN 3, .tgN 4]) (.enum (.var 1)) [.forS (.tgN 5) (.rng [.bin .add (.var 3) (.int 1), .blt .len [.var 1]]) [.ife (.call [105, 115, 95, 115, 116, 101, 112] f_is_step [.var 0, .var 4, .idx (.var 1) (.var 5)]) [.ex (.meth .append (.idx (.var 2) (.var 3)) [.var 5]),
    .ex (.meth .append (.idx (.var 2) (.var 5)) [.var 3])] []]],
    .ret (.blt .tuple [.comp (.blt .tuple [.blt .sorted [.var 7]]) (.tgN 7) (.wk (.var 2)) (.bl true) [7]])]
abbrev f_neighbours_of : Fn := runF 8 2 b_neighbours_of
/-- walked_sides: 0 neighbours, 1 begin, 2 sides, 3 ahead_of, 4 rest, 5 here, 6 place -/
def b_walked_sides : List St := [.asg (.tgT [.tgN 2, .tgN 3]) (.tup [.bin .mul (.lst [.non]) (.blt .len [.var 0]), .bin .mul (.lst [.non]) (.blt .len [.var 0])]),
    .forS (.tgN 1) (.rng [.blt .len [.var 0]]) [.ife (.cmp (.idx (.var 2) (.var 1)) [.is] [.non]) [.asg (.tgS (.var 2) (.var 1)) (.int 0),
    .asg (.tgN 4) (.lst [.var 1]),
    .wh fuel (.cmp (.var 4) [.ne] [.lst []]) [.asg (.tgN 5) (.meth .pop (.var 4) [.int 0]),
    .forS (.tgN 6) (.wk (.idx (.var 0) (.var 5))) [.ife (.cmp (.idx (.var 2) (.var 6)) [.is] [.non]) [.asg (.tgT [.tgS (.var 2) (.var 6), .tgS (.var 3) (.var 6)]) (.tup [.bin .sub (.int 1) (.idx (.var 2) (.var 5)), .var 5]),
    .ex (.meth .append (.var 4) [.var 6])] [.ife (.cmp (.idx (.var 2) (.var 6)) [.eq] [.idx (.var 2) (.var 5)]) [.ret (.tup [.var 2, .var 3, .tup [.var 5, .var 6]])] []]]]] []],
    .ret (.tup [.var 2, .var 3, .non])]
abbrev f_walked_sides : Fn := runF 7 1 b_walked_sides
/-- sides_of: 0 word, 1 near, 2 sides, 3 ahead_of, 4 same -/
def b_sides_of : List St := [.asg (.tgT [.tgN 2, .tgN 3, .tgN 4]) (.call [119, 97, 108, 107, 101, 100, 95, 115, 105, 100, 101, 115] f_walked_sides [.call [110, 101, 105, 103, 104, 98, 111, 117, 114, 115, 95, 111, 102] f_neighbours_of [.var 0, .var 1]]),
    .ret (.ife (.cmp (.var 4) [.is] [.non]) (.blt .ftuple [.var 2]) (.non))]
abbrev f_sides_of : Fn := runF 5 2 b_sides_of
/-- side_counts: 0 word, 1 near, 2 sides -/
def b_side_counts : List St := [.asg (.tgN 2) (.call [115, 105, 100, 101, 115, 95, 111, 102] f_sides_of [.var 0, .var 1]),
    .ife (.cmp (.var 2) [.is] [.non]) [.never] [],
    .ret (.tup [.meth .tcount (.var 2) [.int 0], .meth .tcount (.var 2) [.int 1]])]
abbrev f_side_counts : Fn := runF 3 2 b_side_counts
/-- _law_bag: 0 script, 1 cells, 2 mixed, 3 cell -/
def b__law_bag : List St := [.asg (.tgN 1) (.comp (.blt .abs [.var 3]) (.tgN 3) (.wk (.slc (.var 0) (.abs) (.int 63) (.abs))) (.bl true) [3]),
    .asg (.tgN 2) (.bin .add (.int 19593) (.blt .len [.var 1])),
    .forS (.tgN 3) (.wk (.var 1)) [.asg (.tgN 2) (.bin .mod (.blt .int [.bin .add (.bin .add (.bin .mul (.var 2) (.int 48271)) (.bin .mod (.blt .int [.var 3]) (.int 2147483629))) (.int 5)]) (.int 2147483647))],
    .ret (.lst [.slc (.var 1) (.abs) (.abs) (.neg (.int 1)), .int 0, .var 2])]
abbrev f__law_bag : Fn := runF 4 1 b__law_bag
/-- _law_draw: 0 bag, 1 below, 2 cell, 3 found -/
def b__law_draw : List St := [.wh fuel (.and (.cmp (.idx (.var 0) (.int 1)) [.eq] [.int 0]) [.cmp (.idx (.var 0) (.int 0)) [.ne] [.lst []]]) [.asg (.tgN 2) (.meth .pop (.idx (.var 0) (.int 0)) []),
    .asg (.tgS (.var 0) (.int 1)) (.ife (.cmp (.var 2) [.gt] [.bin .pow (.int 10) (.int 9)]) (.var 2) (.int 0))],
    .ife (.cmp (.idx (.var 0) (.int 1)) [.gt] [.int 0]) [.asg (.tgN 3) (.bin .mod (.blt .int [.idx (.var 0) (.int 1)]) (.var 1)),
    .asg (.tgS (.var 0) (.int 1)) (.bin .fdiv (.idx (.var 0) (.int 1)) (.var 1)),
    .ret (.var 3)] [],
    .asg (.tgS (.var 0) (.int 2)) (.bin .mod (.blt .int [.bin .add (.bin .mul (.idx (.var 0) (.int 2)) (.int 48271)) (.int 13)]) (.int 2147483647)),
    .ret (.bin .mod (.blt .int [.bin .fdiv (.bin .mod (.blt .int [.bin .mul (.idx (.var 0) (.int 2)) (.idx (.var 0) (.int 2))]) (.int 2147483629)) (.int 7)]) (.var 1))]
abbrev f__law_draw : Fn := runF 4 2 b__law_draw
/-- _law_mixed: 0 bag, 1 row, 2 left, 3 found -/
def b__law_mixed : List St := [.asg (.tgT [.tgN 2, .tgN 3]) (.tup [.blt .list [.var 1], .lst []]),
    .wh fuel (.cmp (.var 2) [.ne] [.lst []]) [.ex (.meth .append (.var 3) [.meth .pop (.var 2) [.call [95, 108, 97, 119, 95, 100, 114, 97, 119] f__law_draw [.var 0, .blt .len [.var 2]]]])],
    .ret (.var 3)]
abbrev f__law_mixed : Fn := runF 4 2 b__law_mixed
/-- _law_with: 0 row, 1 place, 2 item -/
def b__law_with : List St := [.ret (.bin .add (.bin .add (.slc (.var 0) (.abs) (.var 1) (.abs)) (.tup [.var 2])) (.slc (.var 0) (.bin .add (.var 1) (.int 1)) (.abs) (.abs)))]
abbrev f__law_with : Fn := runF 3 3 b__law_with
/-- _law_is_step: 0 word, 1 one, 2 other, 3 places, 4 gone, 5 come, 6 k, 7 x -/
def b__law_is_step : List St := [.ife (.cmp (.var 0) [.inn] [.tup [.str [100, 111, 111, 114], .str [109, 111, 114, 101]]]) [.ife (.or (.cmp (.setlen (.var 1)) [.lt] [.blt .len [.var 1]]) [.cmp (.setlen (.var 2)) [.lt] [.blt .len [.var 2]]]) [.ret (.bl false)] [],
    .asg (.tgT [.tgN 4, .tgN 5]) (.tup [.comp (.var 7) (.tgN 7) (.wk (.var 1)) (.cmp (.var 7) [.nin] [.var 2]) [7], .comp (.var 7) (.tgN 7) (.wk (.var 2)) (.cmp (.var 7) [.nin] [.var 1]) [7]]),
    .ret (.ife (.cmp (.var 0) [.eq] [.str [100, 111, 111, 114]]) (.cmp (.blt .len [.var 4]) [.eq, .eq] [.blt .len [.var 5], .int 1]) (.cmp (.bin .add (.blt .len [.var 4]) (.blt .len [.var 5])) [.eq] [.int 1]))] [],
    .ife (.cmp (.blt .len [.var 1]) [.ne] [.blt .len [.var 2]]) [.ret (.bl false)] [],
    .asg (.tgN 3) (.comp (.var 6) (.tgN 6) (.rng [.blt .len [.var 1]]) (.cmp (.idx (.var 1) (.var 6)) [.ne] [.idx (.var 2) (.var 6)]) [6]),
    .ife (.cmp (.var 0) [.inn] [.tup [.str [112, 108, 97, 99, 101], .str [117, 110, 105, 116]]]) [.ret (.and (.cmp (.blt .len [.var 3]) [.eq] [.int 1]) [.or (.cmp (.var 0) [.eq] [.str [112, 108, 97, 99, 101]]) [.cmp (.blt .abs [.bin .sub (.idx (.var 1) (.idx (.var 3) (.int 0))) (.idx (.var 2) (.idx (.var 3) (.int 0)))]) [.eq] [.int 1]]])] [],
    .ife (.or (.cmp (.blt .len [.var 3]) [.ne] [.int 2]) [.and (.cmp (.var 0) [.eq] [.str [110, 101, 120, 116]]) [.cmp (.idx (.var 3) (.int 1)) [.ne] [.bin .add (.idx (.var 3) (.int 0)) (.int 1)]]]) [.ret (.bl false)] [],
    .ret (.and (.cmp (.idx (.var 1) (.idx (.var 3) (.int 0))) [.eq] [.idx (.var 2) (.idx (.var 3) (.int 1))]) [.cmp (.idx (.var 1) (.idx (.var 3) (.int 1))) [.eq] [.idx (.var 2) (.idx (.var 3) (.int 0))]])]
abbrev f__law_is_step : Fn := runF 8 3 b__law_is_step
/-- _law_goes: 0 word, 1 near, 2 one, 3 other -/
def b__law_goes : List St := [.ret (.blt .all [.comp (.call [95, 108, 97, 119, 95, 105, 115, 95, 115, 116, 101, 112] f__law_is_step [.var 0, .var 2, .var 3]) (.tgT [.tgN 2, .tgN 3]) (.zip (.var 1) (.slc (.var 1) (.int 1) (.abs) (.abs))) (.bl true) [2, 3]])]
abbrev f__law_goes : Fn := runF 4 2 b__law_goes
/-- _law_closes: 0 word, 1 near -/
def b__law_closes : List St := [.ret (.and (.cmp (.var 1) [.ne] [.tup []]) [.call [95, 108, 97, 119, 95, 103, 111, 101, 115] f__law_goes [.var 0, .var 1], .or (.cmp (.blt .len [.var 1]) [.eq] [.int 1]) [.call [95, 108, 97, 119, 95, 105, 115, 95, 115, 116, 101, 112] f__law_is_step [.var 0, .idx (.var 1) (.neg (.int 1)), .idx (.var 1) (.int 0)]]])]
abbrev f__law_closes : Fn := runF 2 2 b__law_closes
/-- _law_row: 0 n, 1 place, 2 own, 3 i -/
def b__law_row : List St := [.asg (.tgN 2) (.bin .bxor (.var 1) (.bin .shr (.var 1) (.int 1))),
    .ret (.blt .tuple [.comp (.bin .band (.bin .shr (.var 2) (.bin .sub (.bin .sub (.var 0) (.int 1)) (.var 3))) (.int 1)) (.tgN 3) (.rng [.var 0]) (.bl true) [3]])]
abbrev f__law_row : Fn := runF 4 2 b__law_row
/-- turned_list: 0 near -/
def b_turned_list : List St := [.ret (.slc (.var 0) (.abs) (.abs) (.neg (.int 1)))]
abbrev f_turned_list : Fn := runF 1 1 b_turned_list
/-- mirrored_list: 0 near, 1 thing -/
def b_mirrored_list : List St := [.ret (.blt .tuple [.comp (.slc (.var 1) (.abs) (.abs) (.neg (.int 1))) (.tgN 1) (.wk (.var 0)) (.bl true) [1]])]
abbrev f_mirrored_list : Fn := runF 2 1 b_mirrored_list
/-- led_list: 0 near, 1 place -/
def b_led_list : List St := [.ret (.bin .add (.slc (.var 0) (.var 1) (.abs) (.abs)) (.slc (.var 0) (.abs) (.var 1) (.abs)))]
abbrev f_led_list : Fn := runF 2 2 b_led_list
/-- called_list: 0 near, 1 naming, 2 thing, 3 item -/
def b_called_list : List St := [.ret (.blt .tuple [.comp (.blt .tuple [.comp (.idx (.var 1) (.var 3)) (.tgN 3) (.wk (.var 2)) (.bl true) [3]]) (.tgN 2) (.wk (.var 0)) (.bl true) [2]])]
abbrev f_called_list : Fn := runF 4 2 b_called_list
/-- _law_pick: 0 bag, 1 some -/
def b__law_pick : List St := [.ret (.idx (.var 1) (.call [95, 108, 97, 119, 95, 100, 114, 97, 119] f__law_draw [.var 0, .blt .len [.var 1]]))]
abbrev f__law_pick : Fn := runF 2 2 b__law_pick
/-- _law_are_others_right: 0 bag, 1 near, 2 dues, 3 told, 4 named, 5 place, 6 naming, 7 own, 8 row, 9 item -/
def b__law_are_others_right : List St := [.asg (.tgT [.tgN 5, .tgN 6]) (.tup [.call [95, 108, 97, 119, 95, 100, 114, 97, 119] f__law_draw [.var 0, .blt .len [.var 1]], .call [95, 108, 97, 119, 95, 112, 105, 99, 107] f__law_pick [.var 0, .lst [.tup [.int 5, .neg (.int 1)], .tup [.int 1, .int 0], .tup [.int 0, .bin .pow (.int 10) (.int 6)]]]]),
    .asg (.tgN 2) (.lst [.slc (.var 1) (.abs) (.abs) (.neg (.int 1)), .blt .tuple [.comp (.slc (.var 8) (.abs) (.abs) (.neg (.int 1))) (.tgN 8) (.wk (.var 1)) (.bl true) [8]], .bin .add (.slc (.var 1) (.var 5) (.abs) (.abs)) (.slc (.var 1) (.abs) (.var 5) (.abs))]),
    .ex (.meth .append (.var 2) [.blt .tuple [.comp (.blt .tuple [.comp (.idx (.var 6) (.var 9)) (.tgN 9) (.wk (.var 8)) (.bl true) [9]]) (.tgN 8) (.wk (.var 1)) (.bl true) [8]]]),
    .asg (.tgN 3) (.lst [.call [116, 117, 114, 110, 101, 100, 95, 108, 105, 115, 116] f_turned_list [.var 1], .call [109, 105, 114, 114, 111, 114, 101, 100, 95, 108, 105, 115, 116] f_mirrored_list [.var 1], .call [108, 101, 100, 95, 108, 105, 115, 116] f_led_list [.var 1, .var 5], .call [99, 97, 108, 108, 101, 100, 95, 108, 105, 115, 116] f_called_list [.var 1, .var 6]]),
    .asg (.tgN 4) (.lst [.callk [116, 117, 114, 110, 101, 100, 95, 108, 105, 115, 116] [[110, 101, 97, 114]] f_turned_list [0] [.var 1], .callk [109, 105, 114, 114, 111, 114, 101, 100, 95, 108, 105, 115, 116] [[110, 101, 97, 114]] f_mirrored_list [0] [.var 1], .callk [108, 101, 100, 95, 108, 105, 115, 116] [[112, 108, 97, 99, 101], [110, 101, 97, 114]] f_led_list [1, 0] [.var 5, .var 1]]),
    .ife (.cmp (.blt .repr [.lst [.var 3, .bin .add (.var 4) (.lst [.callk [99, 97, 108, 108, 101, 100, 95, 108, 105, 115, 116] [[110, 97, 109, 105, 110, 103], [110, 101, 97, 114]] f_called_list [1, 0] [.var 6, .var 1]])]]) [.ne] [.blt .repr [.lst [.var 2, .var 2]]]) [.ret (.bl false)] [],
    .ret (.blt .all [.comp (.cmp (.call [100, 111, 101, 115, 95, 99, 108, 111, 115, 101] f_does_close [.str [112, 108, 97, 99, 101], .var 7]) [.is] [.bl true]) (.tgN 7) (.wk (.var 2)) (.bl true) [7]])]
abbrev f__law_are_others_right : Fn := runF 10 2 b__law_are_others_right
/-- law: 0 script, 1 bag, 2 n, 3 kept, 4 rows, 5 word, 6 some, 7 due, 8 bent, 9 places, 10 near, 11 many, 12 steps, 13 i, 14 j, 15 sides, 16 end, 17 place, 18 switch, 19 k, 20 one, 21 other, 22 row -/
def b_law : List St := [.asg (.tgN 1) (.call [95, 108, 97, 119, 95, 98, 97, 103] f__law_bag [.var 0]),
    .asg (.tgN 2) (.bin .add (.int 1) (.call [95, 108, 97, 119, 95, 100, 114, 97, 119] f__law_draw [.var 1, .int 6])),
    .asg (.tgT [.tgN 10, .tgN 11]) (.tup [.call [102, 108, 105, 112, 112, 101, 100, 95, 108, 105, 115, 116] f_flipped_list [.var 2], .bin .shl (.int 1) (.var 2)]),
    .asg (.tgN 3) (.blt .repr [.var 10]),
    .asg (.tgN 4) (.blt .tuple [.comp (.call [95, 108, 97, 119, 95, 114, 111, 119] f__law_row [.var 2, .var 17]) (.tgN 17) (.rng [.var 11]) (.bl true) [17]]),
    .ife (.or (.cmp (.var 3) [.ne] [.blt .repr [.var 4]]) [.cmp (.call [108, 105, 115, 116, 95, 101, 114, 114, 111, 114] f_list_error [.var 10]) [.isnt] [.non]]) [.ret (.bl false)] [],
    .forS (.tgN 5) (.wk (.tup [.str [112, 108, 97, 99, 101], .str [117, 110, 105, 116]])) [.ife (.or (.cmp (.call [108, 105, 115, 116, 95, 102, 97, 117, 108, 116] f_list_fault [.var 5, .var 10]) [.isnt] [.non]) [.cmp (.callk [100, 111, 101, 115, 95, 99, 108, 111, 115, 101] [[110, 101, 97, 114], [119, 111, 114, 100]] f_does_close [1, 0] [.var 10, .var 5]) [.isnt] [.bl true]]) [.ret (.bl false)] [],
    .asg (.tgN 12) (.call [115, 116, 101, 112, 115, 95, 114, 111, 119] f_steps_row [.var 5, .var 10]),
    .asg (.tgN 7) (.lst []),
    .forS (.tgT [.tgN 17, .tgT [.tgN 20, .tgN 21]]) (.enumz (.var 4) (.slc (.var 4) (.int 1) (.abs) (.abs))) [.asg (.tgN 18) (.call [115, 119, 105, 116, 99, 104, 95, 116, 117, 114, 110, 101, 100] f_switch_turned [.var 2, .var 17]),
    .ex (.meth .append (.var 7) [.tup [.var 18, .idx (.var 20) (.var 18), .idx (.var 21) (.var 18)]])],
    .ife (.cmp (.blt .repr [.var 12]) [.ne] [.blt .repr [.blt .tuple [.var 7]]]) [.ret (.bl false)] [],
    .ife (.cmp (.var 7) [.ne] [.lst []]) [.asg (.tgN 19) (.call [95, 108, 97, 119, 95, 100, 114, 97, 119] f__law_draw [.var 1, .blt .len [.var 7]]),
    .ife (.cmp (.blt .repr [.lst [.call [115, 116, 101, 112, 112, 101, 100, 95, 111, 110] f_stepped_on [.var 5, .idx (.var 10) (.var 19), .idx (.var 12) (.var 19)], .call [110, 101, 120, 116, 95, 102, 108, 105, 112, 112, 101, 100] f_next_flipped [.idx (.var 10) (.var 19)]]]) [.ne] [.blt .repr [.bin .mul (.lst [.idx (.var 10) (.bin .add (.var 19) (.int 1))]) (.int 2)]]) [.ret (.bl false)] []] []],
    .forS (.tgN 5) (.wk (.tup [.str [115, 119, 97, 112], .str [110, 101, 120, 116], .str [100, 111, 111, 114], .str [109, 111, 114, 101]])) [.asg (.tgN 9) (.comp (.var 19) (.tgN 19) (.rng [.bin .sub (.var 11) (.int 1)]) (.not (.call [95, 108, 97, 119, 95, 105, 115, 95, 115, 116, 101, 112] f__law_is_step [.var 5, .idx (.var 10) (.var 19), .idx (.var 10) (.bin .add (.var 19) (.int 1))])) [19]),
    .asg (.tgN 7) (.ife (.cmp (.var 9) [.ne] [.lst []]) (.idx (.var 9) (.int 0)) (.non)),
    .ife (.or (.cmp (.call [108, 105, 115, 116, 95, 102, 97, 117, 108, 116] f_list_fault [.var 5, .var 10]) [.ne] [.var 7]) [.cmp (.call [100, 111, 101, 115, 95, 99, 108, 111, 115, 101] f_does_close [.var 5, .var 10]) [.ne] [.call [95, 108, 97, 119, 95, 99, 108, 111, 115, 101, 115] f__law_closes [.var 5, .var 10]]]) [.ret (.bl false)] []],
    .asg (.tgN 6) (.bin .add (.slc (.blt .tuple [.call [95, 108, 97, 119, 95, 109, 105, 120, 101, 100] f__law_mixed [.var 1, .var 4]]) (.abs) (.int 5) (.abs)) (.tup [.bin .mul (.tup [.int 2]) (.var 2), .tup []])),
    .asg (.tgN 7) (.bin .add (.blt .tuple [.comp (.call [112, 108, 97, 99, 101, 95, 111, 102, 95, 114, 111, 119] f_place_of_row [.var 22]) (.tgN 22) (.wk (.slc (.var 6) (.abs) (.neg (.int 2)) (.abs))) (.bl true) [22]]) (.tup [.non, .non])),
    .ife (.cmp (.blt .repr [.lst [.call [112, 108, 97, 99, 101, 115, 95, 111, 102] f_places_of [.var 10, .var 6], .callk [112, 108, 97, 99, 101, 115, 95, 111, 102] [[116, 104, 105, 110, 103, 115], [110, 101, 97, 114]] f_places_of [1, 0] [.var 6, .var 10]]]) [.ne] [.blt .repr [.lst [.var 7, .var 7]]]) [.ret (.bl false)] [],
    .ife (.not (.call [95, 108, 97, 119, 95, 97, 114, 101, 95, 111, 116, 104, 101, 114, 115, 95, 114, 105, 103, 104, 116] f__law_are_others_right [.var 1, .var 10])) [.ret (.bl false)] [],
    .asg (.tgT [.tgN 13, .tgN 14]) (.tup [.call [95, 108, 97, 119, 95, 100, 114, 97, 119] f__law_draw [.var 1, .var 11], .call [95, 108, 97, 119, 95, 100, 114, 97, 119] f__law_draw [.var 1, .var 11]]),
    .asg (.tgN 8) (.call [95, 108, 97, 119, 95, 119, 105, 116, 104] f__law_with [.call [95, 108, 97, 119, 95, 119, 105, 116, 104] f__law_with [.var 10, .var 13, .idx (.var 10) (.var 14)], .var 14, .idx (.var 10) (.var 13)]),
    .asg (.tgN 9) (.comp (.var 19) (.tgN 19) (.rng [.bin .sub (.var 11) (.int 1)]) (.not (.call [95, 108, 97, 119, 95, 105, 115, 95, 115, 116, 101, 112] f__law_is_step [.str [112, 108, 97, 99, 101], .idx (.var 8) (.var 19), .idx (.var 8) (.bin .add (.var 19) (.int 1))])) [19]),
    .ife (.cmp (.call [108, 105, 115, 116, 95, 102, 97, 117, 108, 116] f_list_fault [.str [112, 108, 97, 99, 101], .var 8]) [.ne] [.ife (.cmp (.var 9) [.ne] [.lst []]) (.idx (.var 9) (.int 0)) (.non)]) [.ret (.bl false)] [],
    .ife (.cmp (.var 2) [.lt] [.int 5]) [.asg (.tgN 15) (.blt .ftuple [.comp (.bin .band (.blt .sum [.var 22]) (.int 1)) (.tgN 22) (.wk (.var 10)) (.bl true) [22]]),
    .ife (.cmp (.blt .repr [.lst [.call [115, 105, 100, 101, 115, 95, 111, 102] f_sides_of [.str [112, 108, 97, 99, 101], .var 10], .call [115, 105, 100, 101, 95, 99, 111, 117, 110, 116, 115] f_side_counts [.str [112, 108, 97, 99, 101], .var 10]]]) [.ne] [.blt .repr [.lst [.var 15, .tup [.bin .fdiv (.var 11) (.int 2), .bin .fdiv (.var 11) (.int 2)]]]]) [.ret (.bl false)] [],
    .asg (.tgN 16) (.call [95, 108, 97, 119, 95, 100, 114, 97, 119] f__law_draw [.var 1, .bin .add (.var 11) (.int 1)]),
    .ife (.cmp (.call [101, 118, 101, 110, 95, 112, 108, 97, 99, 101, 115] f_even_places [.var 2, .var 16]) [.ne] [.meth .tcount (.slc (.var 15) (.abs) (.var 16) (.abs)) [.int 0]]) [.ret (.bl false)] []] [],
    .ret (.cmp (.blt .repr [.var 10]) [.eq] [.var 3])]
abbrev f_law : Fn := runF 23 1 b_law
end K75
end N
set_option autoImplicit false
set_option Elab.async false
set_option linter.all false
set_option maxRecDepth 100000
set_option maxHeartbeats 0
namespace N
namespace K75
open PySem PySem.Spec PyProof.Rows L2
/-! the chain of defs, the head -/
def top (i : Nat) : Stmt := PySem.Challenge.pw_nearlists_k75_whole_flipped_and_steps.main.body.getD i (.Pass ⟨0, 0, 0, 0⟩)
def d_is_integer : He.DefD := ⟨("is_integer", none), "is_integer", "is_integer", C8.fnArgs (top 10), C8.fnBody (top 10), C8.fnScope (top 10), [], []⟩
def d_is_item : He.DefD := ⟨("is_item", none), "is_item", "is_item", C8.fnArgs (top 11), C8.fnBody (top 11), C8.fnScope (top 11), [], []⟩
def d_is_thing : He.DefD := ⟨("is_thing", none), "is_thing", "is_thing", C8.fnArgs (top 12), C8.fnBody (top 12), C8.fnScope (top 12), [], []⟩
def d_again_place : He.DefD := ⟨("again_place", none), "again_place", "again_place", C8.fnArgs (top 13), C8.fnBody (top 13), C8.fnScope (top 13), [], []⟩
def d_list_error : He.DefD := ⟨("list_error", none), "list_error", "list_error", C8.fnArgs (top 14), C8.fnBody (top 14), C8.fnScope (top 14), [], []⟩
def d_places_of : He.DefD := ⟨("places_of", none), "places_of", "places_of", C8.fnArgs (top 18), C8.fnBody (top 18), C8.fnScope (top 18), [], []⟩
def d_unlike_places : He.DefD := ⟨("unlike_places", none), "unlike_places", "unlike_places", C8.fnArgs (top 21), C8.fnBody (top 21), C8.fnScope (top 21), [], []⟩
def d_place_step : He.DefD := ⟨("place_step", none), "place_step", "place_step", C8.fnArgs (top 22), C8.fnBody (top 22), C8.fnScope (top 22), [], []⟩
def d_swap_step : He.DefD := ⟨("swap_step", none), "swap_step", "swap_step", C8.fnArgs (top 23), C8.fnBody (top 23), C8.fnScope (top 23), [], []⟩
def d_door_step : He.DefD := ⟨("door_step", none), "door_step", "door_step", C8.fnArgs (top 24), C8.fnBody (top 24), C8.fnScope (top 24), [], []⟩
def d_step_told : He.DefD := ⟨("step_told", none), "step_told", "step_told", C8.fnArgs (top 25), C8.fnBody (top 25), C8.fnScope (top 25), [], []⟩
def d_is_step : He.DefD := ⟨("is_step", none), "is_step", "is_step", C8.fnArgs (top 26), C8.fnBody (top 26), C8.fnScope (top 26), [], []⟩
def d_list_fault : He.DefD := ⟨("list_fault", none), "list_fault", "list_fault", C8.fnArgs (top 27), C8.fnBody (top 27), C8.fnScope (top 27), [], []⟩
def d_does_close : He.DefD := ⟨("does_close", none), "does_close", "does_close", C8.fnArgs (top 28), C8.fnBody (top 28), C8.fnScope (top 28), [], []⟩
def d_steps_row : He.DefD := ⟨("steps_row", none), "steps_row", "steps_row", C8.fnArgs (top 29), C8.fnBody (top 29), C8.fnScope (top 29), [], []⟩
def d_placed_on : He.DefD := ⟨("placed_on", none), "placed_on", "placed_on", C8.fnArgs (top 30), C8.fnBody (top 30), C8.fnScope (top 30), [], []⟩
def d_swapped_on : He.DefD := ⟨("swapped_on", none), "swapped_on", "swapped_on", C8.fnArgs (top 31), C8.fnBody (top 31), C8.fnScope (top 31), [], []⟩
def d_moved_on : He.DefD := ⟨("moved_on", none), "moved_on", "moved_on", C8.fnArgs (top 32), C8.fnBody (top 32), C8.fnScope (top 32), [], []⟩
def d_stepped_on : He.DefD := ⟨("stepped_on", none), "stepped_on", "stepped_on", C8.fnArgs (top 33), C8.fnBody (top 33), C8.fnScope (top 33), [], []⟩
def d_place_of_row : He.DefD := ⟨("place_of_row", none), "place_of_row", "place_of_row", C8.fnArgs (top 37), C8.fnBody (top 37), C8.fnScope (top 37), [], []⟩
def d_digits_of : He.DefD := ⟨("digits_of", none), "digits_of", "digits_of", C8.fnArgs (top 35), C8.fnBody (top 35), C8.fnScope (top 35), [], []⟩
def d_row_at : He.DefD := ⟨("row_at", none), "row_at", "row_at", C8.fnArgs (top 36), C8.fnBody (top 36), C8.fnScope (top 36), [], []⟩
def d_rows_in_all : He.DefD := ⟨("rows_in_all", none), "rows_in_all", "rows_in_all", C8.fnArgs (top 38), C8.fnBody (top 38), C8.fnScope (top 38), [], []⟩
def d_next_flipped : He.DefD := ⟨("next_flipped", none), "next_flipped", "next_flipped", C8.fnArgs (top 39), C8.fnBody (top 39), C8.fnScope (top 39), [], []⟩
def d_flipped_list : He.DefD := ⟨("flipped_list", none), "flipped_list", "flipped_list", C8.fnArgs (top 40), C8.fnBody (top 40), C8.fnScope (top 40), [], []⟩
def d_even_places : He.DefD := ⟨("even_places", none), "even_places", "even_places", C8.fnArgs (top 42), C8.fnBody (top 42), C8.fnScope (top 42), [], []⟩
def d_switch_turned : He.DefD := ⟨("switch_turned", none), "switch_turned", "switch_turned", C8.fnArgs (top 44), C8.fnBody (top 44), C8.fnScope (top 44), [], []⟩
def d_need_few : He.DefD := ⟨("need_few", none), "need_few", "need_few", C8.fnArgs (top 46), C8.fnBody (top 46), C8.fnScope (top 46), [], []⟩
def d_neighbours_of : He.DefD := ⟨("neighbours_of", none), "neighbours_of", "neighbours_of", C8.fnArgs (top 47), C8.fnBody (top 47), C8.fnScope (top 47), [], []⟩
def d_walked_sides : He.DefD := ⟨("walked_sides", none), "walked_sides", "walked_sides", C8.fnArgs (top 48), C8.fnBody (top 48), C8.fnScope (top 48), [], []⟩
def d_sides_of : He.DefD := ⟨("sides_of", none), "sides_of", "sides_of", C8.fnArgs (top 49), C8.fnBody (top 49), C8.fnScope (top 49), [], []⟩
def d_side_counts : He.DefD := ⟨("side_counts", none), "side_counts", "side_counts", C8.fnArgs (top 50), C8.fnBody (top 50), C8.fnScope (top 50), [], []⟩
def d__law_bag : He.DefD := ⟨("_law_bag", none), "_law_bag", "_law_bag", C8.fnArgs (top 52), C8.fnBody (top 52), C8.fnScope (top 52), [], []⟩
def d__law_draw : He.DefD := ⟨("_law_draw", none), "_law_draw", "_law_draw", C8.fnArgs (top 53), C8.fnBody (top 53), C8.fnScope (top 53), [], []⟩
def d__law_mixed : He.DefD := ⟨("_law_mixed", none), "_law_mixed", "_law_mixed", C8.fnArgs (top 55), C8.fnBody (top 55), C8.fnScope (top 55), [], []⟩
def d__law_with : He.DefD := ⟨("_law_with", none), "_law_with", "_law_with", C8.fnArgs (top 56), C8.fnBody (top 56), C8.fnScope (top 56), [], []⟩
def d__law_is_step : He.DefD := ⟨("_law_is_step", none), "_law_is_step", "_law_is_step", C8.fnArgs (top 57), C8.fnBody (top 57), C8.fnScope (top 57), [], []⟩
def d__law_goes : He.DefD := ⟨("_law_goes", none), "_law_goes", "_law_goes", C8.fnArgs (top 58), C8.fnBody (top 58), C8.fnScope (top 58), [], []⟩
def d__law_closes : He.DefD := ⟨("_law_closes", none), "_law_closes", "_law_closes", C8.fnArgs (top 59), C8.fnBody (top 59), C8.fnScope (top 59), [], []⟩
def d__law_row : He.DefD := ⟨("_law_row", none), "_law_row", "_law_row", C8.fnArgs (top 60), C8.fnBody (top 60), C8.fnScope (top 60), [], []⟩
def d_turned_list : He.DefD := ⟨("turned_list", none), "turned_list", "turned_list", C8.fnArgs (top 15), C8.fnBody (top 15), C8.fnScope (top 15), [], []⟩
def d_mirrored_list : He.DefD := ⟨("mirrored_list", none), "mirrored_list", "mirrored_list", C8.fnArgs (top 16), C8.fnBody (top 16), C8.fnScope (top 16), [], []⟩
def d_led_list : He.DefD := ⟨("led_list", none), "led_list", "led_list", C8.fnArgs (top 17), C8.fnBody (top 17), C8.fnScope (top 17), [], []⟩
def d_called_list : He.DefD := ⟨("called_list", none), "called_list", "called_list", C8.fnArgs (top 19), C8.fnBody (top 19), C8.fnScope (top 19), [], []⟩
def d__law_pick : He.DefD := ⟨("_law_pick", none), "_law_pick", "_law_pick", C8.fnArgs (top 54), C8.fnBody (top 54), C8.fnScope (top 54), [], []⟩
def d__law_are_others_right : He.DefD := ⟨("_law_are_others_right", none), "_law_are_others_right", "_law_are_others_right", C8.fnArgs (top 61), C8.fnBody (top 61), C8.fnScope (top 61), [], []⟩
def d_law : He.DefD := ⟨("law", none), "law", "law", C8.fnArgs (top 62), C8.fnBody (top 62), C8.fnScope (top 62), [], []⟩
def fn : List He.DefD := [d_is_integer, d_is_item, d_is_thing, d_again_place, d_list_error, d_places_of, d_unlike_places, d_place_step, d_swap_step, d_door_step, d_step_told, d_is_step, d_list_fault, d_does_close, d_steps_row, d_placed_on, d_swapped_on, d_moved_on, d_stepped_on, d_place_of_row, d_digits_of, d_row_at, d_rows_in_all, d_next_flipped, d_flipped_list, d_even_places, d_switch_turned, d_need_few, d_neighbours_of, d_walked_sides, d_sides_of, d_side_counts, d__law_bag, d__law_draw, d__law_mixed, d__law_with, d__law_is_step, d__law_goes, d__law_closes, d__law_row, d_turned_list, d_mirrored_list, d_led_list, d_called_list, d__law_pick, d__law_are_others_right, d_law]
def fa : List He.Fa := [.glo "is_integer", .glo "is_item", .glo "is_thing", .glo "again_place", .glo "list_error", .glo "places_of", .glo "unlike_places", .glo "place_step", .glo "swap_step", .glo "door_step", .glo "step_told", .glo "is_step", .glo "list_fault", .glo "does_close", .glo "steps_row", .glo "placed_on", .glo "swapped_on", .glo "moved_on", .glo "stepped_on", .glo "place_of_row", .glo "digits_of", .glo "row_at", .glo "rows_in_all", .glo "next_flipped", .glo "flipped_list", .glo "even_places", .glo "switch_turned", .glo "need_few", .glo "neighbours_of", .glo "walked_sides", .glo "sides_of", .glo "side_counts", .glo "_law_bag", .glo "_law_draw", .glo "_law_mixed", .glo "_law_with", .glo "_law_is_step", .glo "_law_goes", .glo "_law_closes", .glo "_law_row", .glo "turned_list", .glo "mirrored_list", .glo "led_list", .glo "called_list", .glo "_law_pick", .glo "_law_are_others_right", .glo "law", .free "len", .free "abs", .free "max", .free "min", .free "sum", .free "all", .free "any", .free "int", .free "str", .free "tuple", .free "list", .free "sorted", .free "repr", .free "isinstance", .free "set", .free "range", .free "enumerate", .free "zip", .free "bool", .int "MAX_ITEM" 1000000, .int "MAX_LONG" 64, .int "MAX_THINGS" 5000, .int "MAX_SHOWN" 12, .int "MAX_SIDED" 300]
section
variable {P : Program} {w : World} {K : PySem.W.Frag} {h : Heap} {mg : Str → Option Value} {base : Heap}
theorem free (c : He.SaysD fa fn K) (X : K.In h) (G : h.Ns mainGlobals mg) : ∀ x ∈ BN, mg x = none := by
  intro x hx
  simp only [BN, List.mem_cons, List.not_mem_nil, or_false] at hx
  rcases hx with rfl | rfl | rfl | rfl | rfl | rfl | rfl | rfl | rfl | rfl | rfl | rfl | rfl | rfl | rfl | rfl | rfl | rfl | rfl
  · exact He.free_ok X G (c.fact 47 (f := .free "len") rfl)
  · exact He.free_ok X G (c.fact 48 (f := .free "abs") rfl)
  · exact He.free_ok X G (c.fact 49 (f := .free "max") rfl)
  · exact He.free_ok X G (c.fact 50 (f := .free "min") rfl)
  · exact He.free_ok X G (c.fact 51 (f := .free "sum") rfl)
  · exact He.free_ok X G (c.fact 52 (f := .free "all") rfl)
  · exact He.free_ok X G (c.fact 53 (f := .free "any") rfl)
  · exact He.free_ok X G (c.fact 54 (f := .free "int") rfl)
  · exact He.free_ok X G (c.fact 55 (f := .free "str") rfl)
  · exact He.free_ok X G (c.fact 56 (f := .free "tuple") rfl)
  · exact He.free_ok X G (c.fact 57 (f := .free "list") rfl)
  · exact He.free_ok X G (c.fact 58 (f := .free "sorted") rfl)
  · exact He.free_ok X G (c.fact 59 (f := .free "repr") rfl)
  · exact He.free_ok X G (c.fact 60 (f := .free "isinstance") rfl)
  · exact He.free_ok X G (c.fact 61 (f := .free "set") rfl)
  · exact He.free_ok X G (c.fact 62 (f := .free "range") rfl)
  · exact He.free_ok X G (c.fact 63 (f := .free "enumerate") rfl)
  · exact He.free_ok X G (c.fact 64 (f := .free "zip") rfl)
  · exact He.free_ok X G (c.fact 65 (f := .free "bool") rfl)
theorem g_is_integer (c : He.SaysD fa fn K) (X : K.In h) (G : h.Ns mainGlobals mg) {fd : FuncData} (D : FunS K "is_integer" (top 10) (He.fAd K ("is_integer", none)) fd) : FnG P w (lessK K) mg base 1 (He.fAd K ("is_integer", none)) fd ["value"] f_is_integer := by
  have e : needsSs b_is_integer = [] := by kernel_rfl
  exact def_G (ns := ["value"]) D rfl (by decide +kernel) (by decide +kernel) (free c X G) (by rw [e]; exact all_nil)
theorem c_is_integer (c : He.SaysD fa fn K) (X : K.In h) (G : h.Ns mainGlobals mg) : CalG P w (lessK K) mg base 1 (sOf [105, 115, 95, 105, 110, 116, 101, 103, 101, 114]) f_is_integer := by
  obtain ⟨fd, D⟩ := c.def_ 0 (d := d_is_integer) rfl
  exact cal_G (nm := "is_integer") (st := top 10) D (g_is_integer c X G D) (He.glo_ok X G (c.fact 0 (f := .glo "is_integer") rfl)) (fun kV doc pm an cdv ct us hl => match us, hl with | [_], _ => rfl)
theorem g_is_item (c : He.SaysD fa fn K) (X : K.In h) (G : h.Ns mainGlobals mg) {fd : FuncData} (D : FunS K "is_item" (top 11) (He.fAd K ("is_item", none)) fd) : FnG P w (lessK K) mg base 2 (He.fAd K ("is_item", none)) fd ["value"] f_is_item := by
  have e : needsSs b_is_item = [.call [105, 115, 95, 105, 110, 116, 101, 103, 101, 114] f_is_integer, .gint [77, 65, 88, 95, 73, 84, 69, 77] 1000000] := by kernel_rfl
  exact def_G (ns := ["value"]) D rfl (by decide +kernel) (by decide +kernel) (free c X G) (by rw [e]; exact all_cons ((c_is_integer c X G).mono (by decide)) (all_cons (He.int_ok X G (c.fact 66 (f := .int "MAX_ITEM" 1000000) rfl)) (all_nil)))
theorem c_is_item (c : He.SaysD fa fn K) (X : K.In h) (G : h.Ns mainGlobals mg) : CalG P w (lessK K) mg base 2 (sOf [105, 115, 95, 105, 116, 101, 109]) f_is_item := by
  obtain ⟨fd, D⟩ := c.def_ 1 (d := d_is_item) rfl
  exact cal_G (nm := "is_item") (st := top 11) D (g_is_item c X G D) (He.glo_ok X G (c.fact 1 (f := .glo "is_item") rfl)) (fun kV doc pm an cdv ct us hl => match us, hl with | [_], _ => rfl)
theorem g_is_thing (c : He.SaysD fa fn K) (X : K.In h) (G : h.Ns mainGlobals mg) {fd : FuncData} (D : FunS K "is_thing" (top 12) (He.fAd K ("is_thing", none)) fd) : FnG P w (lessK K) mg base 3 (He.fAd K ("is_thing", none)) fd ["value"] f_is_thing := by
  have e : needsSs b_is_thing = [.gint [77, 65, 88, 95, 76, 79, 78, 71] 64, .call [105, 115, 95, 105, 116, 101, 109] f_is_item] := by kernel_rfl
  exact def_G (ns := ["value", "item"]) D rfl (by decide +kernel) (by decide +kernel) (free c X G) (by rw [e]; exact all_cons (He.int_ok X G (c.fact 67 (f := .int "MAX_LONG" 64) rfl)) (all_cons ((c_is_item c X G).mono (by decide)) (all_nil)))
theorem c_is_thing (c : He.SaysD fa fn K) (X : K.In h) (G : h.Ns mainGlobals mg) : CalG P w (lessK K) mg base 3 (sOf [105, 115, 95, 116, 104, 105, 110, 103]) f_is_thing := by
  obtain ⟨fd, D⟩ := c.def_ 2 (d := d_is_thing) rfl
  exact cal_G (nm := "is_thing") (st := top 12) D (g_is_thing c X G D) (He.glo_ok X G (c.fact 2 (f := .glo "is_thing") rfl)) (fun kV doc pm an cdv ct us hl => match us, hl with | [_], _ => rfl)
theorem g_again_place (c : He.SaysD fa fn K) (X : K.In h) (G : h.Ns mainGlobals mg) {fd : FuncData} (D : FunS K "again_place" (top 13) (He.fAd K ("again_place", none)) fd) : FnG P w (lessK K) mg base 1 (He.fAd K ("again_place", none)) fd ["things"] f_again_place := by
  have e : needsSs b_again_place = [] := by kernel_rfl
  exact def_G (ns := ["things", "known", "k", "thing"]) D rfl (by decide +kernel) (by decide +kernel) (free c X G) (by rw [e]; exact all_nil)
theorem c_again_place (c : He.SaysD fa fn K) (X : K.In h) (G : h.Ns mainGlobals mg) : CalG P w (lessK K) mg base 1 (sOf [97, 103, 97, 105, 110, 95, 112, 108, 97, 99, 101]) f_again_place := by
  obtain ⟨fd, D⟩ := c.def_ 3 (d := d_again_place) rfl
  exact cal_G (nm := "again_place") (st := top 13) D (g_again_place c X G D) (He.glo_ok X G (c.fact 3 (f := .glo "again_place") rfl)) (fun kV doc pm an cdv ct us hl => match us, hl with | [_], _ => rfl)
theorem g_list_error (c : He.SaysD fa fn K) (X : K.In h) (G : h.Ns mainGlobals mg) {fd : FuncData} (D : FunS K "list_error" (top 14) (He.fAd K ("list_error", none)) fd) : FnG P w (lessK K) mg base 4 (He.fAd K ("list_error", none)) fd ["value"] f_list_error := by
  have e : needsSs b_list_error = [.gint [77, 65, 88, 95, 84, 72, 73, 78, 71, 83] 5000, .call [105, 115, 95, 116, 104, 105, 110, 103] f_is_thing, .call [97, 103, 97, 105, 110, 95, 112, 108, 97, 99, 101] f_again_place] := by kernel_rfl
  exact def_G (ns := ["value", "k", "thing"]) D rfl (by decide +kernel) (by decide +kernel) (free c X G) (by rw [e]; exact all_cons (He.int_ok X G (c.fact 68 (f := .int "MAX_THINGS" 5000) rfl)) (all_cons ((c_is_thing c X G).mono (by decide)) (all_cons ((c_again_place c X G).mono (by decide)) (all_nil))))
theorem c_list_error (c : He.SaysD fa fn K) (X : K.In h) (G : h.Ns mainGlobals mg) : CalG P w (lessK K) mg base 4 (sOf [108, 105, 115, 116, 95, 101, 114, 114, 111, 114]) f_list_error := by
  obtain ⟨fd, D⟩ := c.def_ 4 (d := d_list_error) rfl
  exact cal_G (nm := "list_error") (st := top 14) D (g_list_error c X G D) (He.glo_ok X G (c.fact 4 (f := .glo "list_error") rfl)) (fun kV doc pm an cdv ct us hl => match us, hl with | [_], _ => rfl)
theorem g_places_of (c : He.SaysD fa fn K) (X : K.In h) (G : h.Ns mainGlobals mg) {fd : FuncData} (D : FunS K "places_of" (top 18) (He.fAd K ("places_of", none)) fd) : FnG P w (lessK K) mg base 1 (He.fAd K ("places_of", none)) fd ["near", "things"] f_places_of := by
  have e : needsSs b_places_of = [] := by kernel_rfl
  exact def_G (ns := ["near", "things", "places", "place", "thing"]) D rfl (by decide +kernel) (by decide +kernel) (free c X G) (by rw [e]; exact all_nil)
theorem c_places_of (c : He.SaysD fa fn K) (X : K.In h) (G : h.Ns mainGlobals mg) : CalG P w (lessK K) mg base 1 (sOf [112, 108, 97, 99, 101, 115, 95, 111, 102]) f_places_of := by
  obtain ⟨fd, D⟩ := c.def_ 5 (d := d_places_of) rfl
  exact cal_G (nm := "places_of") (st := top 18) D (g_places_of c X G D) (He.glo_ok X G (c.fact 5 (f := .glo "places_of") rfl)) (fun kV doc pm an cdv ct us hl => match us, hl with | [_, _], _ => rfl)
theorem g_unlike_places (c : He.SaysD fa fn K) (X : K.In h) (G : h.Ns mainGlobals mg) {fd : FuncData} (D : FunS K "unlike_places" (top 21) (He.fAd K ("unlike_places", none)) fd) : FnG P w (lessK K) mg base 1 (He.fAd K ("unlike_places", none)) fd ["one", "other"] f_unlike_places := by
  have e : needsSs b_unlike_places = [] := by kernel_rfl
  exact def_G (ns := ["one", "other", "place", "item"]) D rfl (by decide +kernel) (by decide +kernel) (free c X G) (by rw [e]; exact all_nil)
theorem c_unlike_places (c : He.SaysD fa fn K) (X : K.In h) (G : h.Ns mainGlobals mg) : CalG P w (lessK K) mg base 1 (sOf [117, 110, 108, 105, 107, 101, 95, 112, 108, 97, 99, 101, 115]) f_unlike_places := by
  obtain ⟨fd, D⟩ := c.def_ 6 (d := d_unlike_places) rfl
  exact cal_G (nm := "unlike_places") (st := top 21) D (g_unlike_places c X G D) (He.glo_ok X G (c.fact 6 (f := .glo "unlike_places") rfl)) (fun kV doc pm an cdv ct us hl => match us, hl with | [_, _], _ => rfl)
theorem g_place_step (c : He.SaysD fa fn K) (X : K.In h) (G : h.Ns mainGlobals mg) {fd : FuncData} (D : FunS K "place_step" (top 22) (He.fAd K ("place_step", none)) fd) : FnG P w (lessK K) mg base 2 (He.fAd K ("place_step", none)) fd ["word", "one", "other"] f_place_step := by
  have e : needsSs b_place_step = [.call [117, 110, 108, 105, 107, 101, 95, 112, 108, 97, 99, 101, 115] f_unlike_places] := by kernel_rfl
  exact def_G (ns := ["word", "one", "other", "places", "place"]) D rfl (by decide +kernel) (by decide +kernel) (free c X G) (by rw [e]; exact all_cons ((c_unlike_places c X G).mono (by decide)) (all_nil))
theorem c_place_step (c : He.SaysD fa fn K) (X : K.In h) (G : h.Ns mainGlobals mg) : CalG P w (lessK K) mg base 2 (sOf [112, 108, 97, 99, 101, 95, 115, 116, 101, 112]) f_place_step := by
  obtain ⟨fd, D⟩ := c.def_ 7 (d := d_place_step) rfl
  exact cal_G (nm := "place_step") (st := top 22) D (g_place_step c X G D) (He.glo_ok X G (c.fact 7 (f := .glo "place_step") rfl)) (fun kV doc pm an cdv ct us hl => match us, hl with | [_, _, _], _ => rfl)
theorem g_swap_step (c : He.SaysD fa fn K) (X : K.In h) (G : h.Ns mainGlobals mg) {fd : FuncData} (D : FunS K "swap_step" (top 23) (He.fAd K ("swap_step", none)) fd) : FnG P w (lessK K) mg base 2 (He.fAd K ("swap_step", none)) fd ["word", "one", "other"] f_swap_step := by
  have e : needsSs b_swap_step = [.call [117, 110, 108, 105, 107, 101, 95, 112, 108, 97, 99, 101, 115] f_unlike_places] := by kernel_rfl
  exact def_G (ns := ["word", "one", "other", "places", "i", "j"]) D rfl (by decide +kernel) (by decide +kernel) (free c X G) (by rw [e]; exact all_cons ((c_unlike_places c X G).mono (by decide)) (all_nil))
theorem c_swap_step (c : He.SaysD fa fn K) (X : K.In h) (G : h.Ns mainGlobals mg) : CalG P w (lessK K) mg base 2 (sOf [115, 119, 97, 112, 95, 115, 116, 101, 112]) f_swap_step := by
  obtain ⟨fd, D⟩ := c.def_ 8 (d := d_swap_step) rfl
  exact cal_G (nm := "swap_step") (st := top 23) D (g_swap_step c X G D) (He.glo_ok X G (c.fact 8 (f := .glo "swap_step") rfl)) (fun kV doc pm an cdv ct us hl => match us, hl with | [_, _, _], _ => rfl)
theorem g_door_step (c : He.SaysD fa fn K) (X : K.In h) (G : h.Ns mainGlobals mg) {fd : FuncData} (D : FunS K "door_step" (top 24) (He.fAd K ("door_step", none)) fd) : FnG P w (lessK K) mg base 1 (He.fAd K ("door_step", none)) fd ["word", "one", "other"] f_door_step := by
  have e : needsSs b_door_step = [] := by kernel_rfl
  exact def_G (ns := ["word", "one", "other", "out", "into", "item"]) D rfl (by decide +kernel) (by decide +kernel) (free c X G) (by rw [e]; exact all_nil)
theorem c_door_step (c : He.SaysD fa fn K) (X : K.In h) (G : h.Ns mainGlobals mg) : CalG P w (lessK K) mg base 1 (sOf [100, 111, 111, 114, 95, 115, 116, 101, 112]) f_door_step := by
  obtain ⟨fd, D⟩ := c.def_ 9 (d := d_door_step) rfl
  exact cal_G (nm := "door_step") (st := top 24) D (g_door_step c X G D) (He.glo_ok X G (c.fact 9 (f := .glo "door_step") rfl)) (fun kV doc pm an cdv ct us hl => match us, hl with | [_, _, _], _ => rfl)
theorem g_step_told (c : He.SaysD fa fn K) (X : K.In h) (G : h.Ns mainGlobals mg) {fd : FuncData} (D : FunS K "step_told" (top 25) (He.fAd K ("step_told", none)) fd) : FnG P w (lessK K) mg base 3 (He.fAd K ("step_told", none)) fd ["word", "one", "other"] f_step_told := by
  have e : needsSs b_step_told = [.call [112, 108, 97, 99, 101, 95, 115, 116, 101, 112] f_place_step, .call [115, 119, 97, 112, 95, 115, 116, 101, 112] f_swap_step, .call [100, 111, 111, 114, 95, 115, 116, 101, 112] f_door_step] := by kernel_rfl
  exact def_G (ns := ["word", "one", "other"]) D rfl (by decide +kernel) (by decide +kernel) (free c X G) (by rw [e]; exact all_cons ((c_place_step c X G).mono (by decide)) (all_cons ((c_swap_step c X G).mono (by decide)) (all_cons ((c_door_step c X G).mono (by decide)) (all_nil))))
theorem c_step_told (c : He.SaysD fa fn K) (X : K.In h) (G : h.Ns mainGlobals mg) : CalG P w (lessK K) mg base 3 (sOf [115, 116, 101, 112, 95, 116, 111, 108, 100]) f_step_told := by
  obtain ⟨fd, D⟩ := c.def_ 10 (d := d_step_told) rfl
  exact cal_G (nm := "step_told") (st := top 25) D (g_step_told c X G D) (He.glo_ok X G (c.fact 10 (f := .glo "step_told") rfl)) (fun kV doc pm an cdv ct us hl => match us, hl with | [_, _, _], _ => rfl)
theorem g_is_step (c : He.SaysD fa fn K) (X : K.In h) (G : h.Ns mainGlobals mg) {fd : FuncData} (D : FunS K "is_step" (top 26) (He.fAd K ("is_step", none)) fd) : FnG P w (lessK K) mg base 4 (He.fAd K ("is_step", none)) fd ["word", "one", "other"] f_is_step := by
  have e : needsSs b_is_step = [.call [115, 116, 101, 112, 95, 116, 111, 108, 100] f_step_told] := by kernel_rfl
  exact def_G (ns := ["word", "one", "other"]) D rfl (by decide +kernel) (by decide +kernel) (free c X G) (by rw [e]; exact all_cons ((c_step_told c X G).mono (by decide)) (all_nil))
theorem c_is_step (c : He.SaysD fa fn K) (X : K.In h) (G : h.Ns mainGlobals mg) : CalG P w (lessK K) mg base 4 (sOf [105, 115, 95, 115, 116, 101, 112]) f_is_step := by
  obtain ⟨fd, D⟩ := c.def_ 11 (d := d_is_step) rfl
  exact cal_G (nm := "is_step") (st := top 26) D (g_is_step c X G D) (He.glo_ok X G (c.fact 11 (f := .glo "is_step") rfl)) (fun kV doc pm an cdv ct us hl => match us, hl with | [_, _, _], _ => rfl)
theorem g_list_fault (c : He.SaysD fa fn K) (X : K.In h) (G : h.Ns mainGlobals mg) {fd : FuncData} (D : FunS K "list_fault" (top 27) (He.fAd K ("list_fault", none)) fd) : FnG P w (lessK K) mg base 5 (He.fAd K ("list_fault", none)) fd ["word", "near"] f_list_fault := by
  have e : needsSs b_list_fault = [.call [105, 115, 95, 115, 116, 101, 112] f_is_step] := by kernel_rfl
  exact def_G (ns := ["word", "near", "k"]) D rfl (by decide +kernel) (by decide +kernel) (free c X G) (by rw [e]; exact all_cons ((c_is_step c X G).mono (by decide)) (all_nil))
theorem c_list_fault (c : He.SaysD fa fn K) (X : K.In h) (G : h.Ns mainGlobals mg) : CalG P w (lessK K) mg base 5 (sOf [108, 105, 115, 116, 95, 102, 97, 117, 108, 116]) f_list_fault := by
  obtain ⟨fd, D⟩ := c.def_ 12 (d := d_list_fault) rfl
  exact cal_G (nm := "list_fault") (st := top 27) D (g_list_fault c X G D) (He.glo_ok X G (c.fact 12 (f := .glo "list_fault") rfl)) (fun kV doc pm an cdv ct us hl => match us, hl with | [_, _], _ => rfl)
theorem g_does_close (c : He.SaysD fa fn K) (X : K.In h) (G : h.Ns mainGlobals mg) {fd : FuncData} (D : FunS K "does_close" (top 28) (He.fAd K ("does_close", none)) fd) : FnG P w (lessK K) mg base 6 (He.fAd K ("does_close", none)) fd ["word", "near"] f_does_close := by
  have e : needsSs b_does_close = [.call [108, 105, 115, 116, 95, 102, 97, 117, 108, 116] f_list_fault, .call [105, 115, 95, 115, 116, 101, 112] f_is_step] := by kernel_rfl
  exact def_G (ns := ["word", "near"]) D rfl (by decide +kernel) (by decide +kernel) (free c X G) (by rw [e]; exact all_cons ((c_list_fault c X G).mono (by decide)) (all_cons ((c_is_step c X G).mono (by decide)) (all_nil)))
theorem c_does_close (c : He.SaysD fa fn K) (X : K.In h) (G : h.Ns mainGlobals mg) : CalG P w (lessK K) mg base 6 (sOf [100, 111, 101, 115, 95, 99, 108, 111, 115, 101]) f_does_close := by
  obtain ⟨fd, D⟩ := c.def_ 13 (d := d_does_close) rfl
  exact cal_G (nm := "does_close") (st := top 28) D (g_does_close c X G D) (He.glo_ok X G (c.fact 13 (f := .glo "does_close") rfl)) (fun kV doc pm an cdv ct us hl => match us, hl with | [_, _], _ => rfl)
theorem g_steps_row (c : He.SaysD fa fn K) (X : K.In h) (G : h.Ns mainGlobals mg) {fd : FuncData} (D : FunS K "steps_row" (top 29) (He.fAd K ("steps_row", none)) fd) : FnG P w (lessK K) mg base 6 (He.fAd K ("steps_row", none)) fd ["word", "near"] f_steps_row := by
  have e : needsSs b_steps_row = [.call [108, 105, 115, 116, 95, 102, 97, 117, 108, 116] f_list_fault, .call [115, 116, 101, 112, 95, 116, 111, 108, 100] f_step_told] := by kernel_rfl
  exact def_G (ns := ["word", "near", "k"]) D rfl (by decide +kernel) (by decide +kernel) (free c X G) (by rw [e]; exact all_cons ((c_list_fault c X G).mono (by decide)) (all_cons ((c_step_told c X G).mono (by decide)) (all_nil)))
theorem c_steps_row (c : He.SaysD fa fn K) (X : K.In h) (G : h.Ns mainGlobals mg) : CalG P w (lessK K) mg base 6 (sOf [115, 116, 101, 112, 115, 95, 114, 111, 119]) f_steps_row := by
  obtain ⟨fd, D⟩ := c.def_ 14 (d := d_steps_row) rfl
  exact cal_G (nm := "steps_row") (st := top 29) D (g_steps_row c X G D) (He.glo_ok X G (c.fact 14 (f := .glo "steps_row") rfl)) (fun kV doc pm an cdv ct us hl => match us, hl with | [_, _], _ => rfl)
theorem g_placed_on (c : He.SaysD fa fn K) (X : K.In h) (G : h.Ns mainGlobals mg) {fd : FuncData} (D : FunS K "placed_on" (top 30) (He.fAd K ("placed_on", none)) fd) : FnG P w (lessK K) mg base 3 (He.fAd K ("placed_on", none)) fd ["word", "one", "step"] f_placed_on := by
  have e : needsSs b_placed_on = [.call [105, 115, 95, 105, 116, 101, 109] f_is_item] := by kernel_rfl
  exact def_G (ns := ["word", "one", "step", "place", "before", "behind"]) D rfl (by decide +kernel) (by decide +kernel) (free c X G) (by rw [e]; exact all_cons ((c_is_item c X G).mono (by decide)) (all_nil))
theorem c_placed_on (c : He.SaysD fa fn K) (X : K.In h) (G : h.Ns mainGlobals mg) : CalG P w (lessK K) mg base 3 (sOf [112, 108, 97, 99, 101, 100, 95, 111, 110]) f_placed_on := by
  obtain ⟨fd, D⟩ := c.def_ 15 (d := d_placed_on) rfl
  exact cal_G (nm := "placed_on") (st := top 30) D (g_placed_on c X G D) (He.glo_ok X G (c.fact 15 (f := .glo "placed_on") rfl)) (fun kV doc pm an cdv ct us hl => match us, hl with | [_, _, _], _ => rfl)
theorem g_swapped_on (c : He.SaysD fa fn K) (X : K.In h) (G : h.Ns mainGlobals mg) {fd : FuncData} (D : FunS K "swapped_on" (top 31) (He.fAd K ("swapped_on", none)) fd) : FnG P w (lessK K) mg base 1 (He.fAd K ("swapped_on", none)) fd ["word", "one", "step"] f_swapped_on := by
  have e : needsSs b_swapped_on = [] := by kernel_rfl
  exact def_G (ns := ["word", "one", "step", "i", "j"]) D rfl (by decide +kernel) (by decide +kernel) (free c X G) (by rw [e]; exact all_nil)
theorem c_swapped_on (c : He.SaysD fa fn K) (X : K.In h) (G : h.Ns mainGlobals mg) : CalG P w (lessK K) mg base 1 (sOf [115, 119, 97, 112, 112, 101, 100, 95, 111, 110]) f_swapped_on := by
  obtain ⟨fd, D⟩ := c.def_ 16 (d := d_swapped_on) rfl
  exact cal_G (nm := "swapped_on") (st := top 31) D (g_swapped_on c X G D) (He.glo_ok X G (c.fact 16 (f := .glo "swapped_on") rfl)) (fun kV doc pm an cdv ct us hl => match us, hl with | [_, _, _], _ => rfl)
theorem g_moved_on (c : He.SaysD fa fn K) (X : K.In h) (G : h.Ns mainGlobals mg) {fd : FuncData} (D : FunS K "moved_on" (top 32) (He.fAd K ("moved_on", none)) fd) : FnG P w (lessK K) mg base 3 (He.fAd K ("moved_on", none)) fd ["one", "out", "into"] f_moved_on := by
  have e : needsSs b_moved_on = [.call [105, 115, 95, 105, 116, 101, 109] f_is_item, .gint [77, 65, 88, 95, 76, 79, 78, 71] 64] := by kernel_rfl
  exact def_G (ns := ["one", "out", "into", "found", "item"]) D rfl (by decide +kernel) (by decide +kernel) (free c X G) (by rw [e]; exact all_cons ((c_is_item c X G).mono (by decide)) (all_cons (He.int_ok X G (c.fact 67 (f := .int "MAX_LONG" 64) rfl)) (all_nil)))
theorem c_moved_on (c : He.SaysD fa fn K) (X : K.In h) (G : h.Ns mainGlobals mg) : CalG P w (lessK K) mg base 3 (sOf [109, 111, 118, 101, 100, 95, 111, 110]) f_moved_on := by
  obtain ⟨fd, D⟩ := c.def_ 17 (d := d_moved_on) rfl
  exact cal_G (nm := "moved_on") (st := top 32) D (g_moved_on c X G D) (He.glo_ok X G (c.fact 17 (f := .glo "moved_on") rfl)) (fun kV doc pm an cdv ct us hl => match us, hl with | [_, _, _], _ => rfl)
theorem g_stepped_on (c : He.SaysD fa fn K) (X : K.In h) (G : h.Ns mainGlobals mg) {fd : FuncData} (D : FunS K "stepped_on" (top 33) (He.fAd K ("stepped_on", none)) fd) : FnG P w (lessK K) mg base 4 (He.fAd K ("stepped_on", none)) fd ["word", "one", "step"] f_stepped_on := by
  have e : needsSs b_stepped_on = [.call [105, 115, 95, 105, 110, 116, 101, 103, 101, 114] f_is_integer, .call [112, 108, 97, 99, 101, 100, 95, 111, 110] f_placed_on, .call [115, 119, 97, 112, 112, 101, 100, 95, 111, 110] f_swapped_on, .call [109, 111, 118, 101, 100, 95, 111, 110] f_moved_on, .call [109, 111, 118, 101, 100, 95, 111, 110] f_moved_on, .call [109, 111, 118, 101, 100, 95, 111, 110] f_moved_on] := by kernel_rfl
  exact def_G (ns := ["word", "one", "step", "many", "item"]) D rfl (by decide +kernel) (by decide +kernel) (free c X G) (by rw [e]; exact all_cons ((c_is_integer c X G).mono (by decide)) (all_cons ((c_placed_on c X G).mono (by decide)) (all_cons ((c_swapped_on c X G).mono (by decide)) (all_cons ((c_moved_on c X G).mono (by decide)) (all_cons ((c_moved_on c X G).mono (by decide)) (all_cons ((c_moved_on c X G).mono (by decide)) (all_nil)))))))
theorem c_stepped_on (c : He.SaysD fa fn K) (X : K.In h) (G : h.Ns mainGlobals mg) : CalG P w (lessK K) mg base 4 (sOf [115, 116, 101, 112, 112, 101, 100, 95, 111, 110]) f_stepped_on := by
  obtain ⟨fd, D⟩ := c.def_ 18 (d := d_stepped_on) rfl
  exact cal_G (nm := "stepped_on") (st := top 33) D (g_stepped_on c X G D) (He.glo_ok X G (c.fact 18 (f := .glo "stepped_on") rfl)) (fun kV doc pm an cdv ct us hl => match us, hl with | [_, _, _], _ => rfl)
theorem g_place_of_row (c : He.SaysD fa fn K) (X : K.In h) (G : h.Ns mainGlobals mg) {fd : FuncData} (D : FunS K "place_of_row" (top 37) (He.fAd K ("place_of_row", none)) fd) : FnG P w (lessK K) mg base 1 (He.fAd K ("place_of_row", none)) fd ["row"] f_place_of_row := by
  have e : needsSs b_place_of_row = [] := by kernel_rfl
  exact def_G (ns := ["row", "item", "place", "digit"]) D rfl (by decide +kernel) (by decide +kernel) (free c X G) (by rw [e]; exact all_nil)
theorem c_place_of_row (c : He.SaysD fa fn K) (X : K.In h) (G : h.Ns mainGlobals mg) : CalG P w (lessK K) mg base 1 (sOf [112, 108, 97, 99, 101, 95, 111, 102, 95, 114, 111, 119]) f_place_of_row := by
  obtain ⟨fd, D⟩ := c.def_ 19 (d := d_place_of_row) rfl
  exact cal_G (nm := "place_of_row") (st := top 37) D (g_place_of_row c X G D) (He.glo_ok X G (c.fact 19 (f := .glo "place_of_row") rfl)) (fun kV doc pm an cdv ct us hl => match us, hl with | [_], _ => rfl)
theorem g_digits_of (c : He.SaysD fa fn K) (X : K.In h) (G : h.Ns mainGlobals mg) {fd : FuncData} (D : FunS K "digits_of" (top 35) (He.fAd K ("digits_of", none)) fd) : FnG P w (lessK K) mg base 1 (He.fAd K ("digits_of", none)) fd ["n", "place"] f_digits_of := by
  have e : needsSs b_digits_of = [] := by kernel_rfl
  exact def_G (ns := ["n", "place", "found", "step"]) D rfl (by decide +kernel) (by decide +kernel) (free c X G) (by rw [e]; exact all_nil)
theorem c_digits_of (c : He.SaysD fa fn K) (X : K.In h) (G : h.Ns mainGlobals mg) : CalG P w (lessK K) mg base 1 (sOf [100, 105, 103, 105, 116, 115, 95, 111, 102]) f_digits_of := by
  obtain ⟨fd, D⟩ := c.def_ 20 (d := d_digits_of) rfl
  exact cal_G (nm := "digits_of") (st := top 35) D (g_digits_of c X G D) (He.glo_ok X G (c.fact 20 (f := .glo "digits_of") rfl)) (fun kV doc pm an cdv ct us hl => match us, hl with | [_, _], _ => rfl)
theorem g_row_at (c : He.SaysD fa fn K) (X : K.In h) (G : h.Ns mainGlobals mg) {fd : FuncData} (D : FunS K "row_at" (top 36) (He.fAd K ("row_at", none)) fd) : FnG P w (lessK K) mg base 2 (He.fAd K ("row_at", none)) fd ["n", "place"] f_row_at := by
  have e : needsSs b_row_at = [.call [100, 105, 103, 105, 116, 115, 95, 111, 102] f_digits_of] := by kernel_rfl
  exact def_G (ns := ["n", "place", "digits", "one", "other"]) D rfl (by decide +kernel) (by decide +kernel) (free c X G) (by rw [e]; exact all_cons ((c_digits_of c X G).mono (by decide)) (all_nil))
theorem c_row_at (c : He.SaysD fa fn K) (X : K.In h) (G : h.Ns mainGlobals mg) : CalG P w (lessK K) mg base 2 (sOf [114, 111, 119, 95, 97, 116]) f_row_at := by
  obtain ⟨fd, D⟩ := c.def_ 21 (d := d_row_at) rfl
  exact cal_G (nm := "row_at") (st := top 36) D (g_row_at c X G D) (He.glo_ok X G (c.fact 21 (f := .glo "row_at") rfl)) (fun kV doc pm an cdv ct us hl => match us, hl with | [_, _], _ => rfl)
theorem g_rows_in_all (c : He.SaysD fa fn K) (X : K.In h) (G : h.Ns mainGlobals mg) {fd : FuncData} (D : FunS K "rows_in_all" (top 38) (He.fAd K ("rows_in_all", none)) fd) : FnG P w (lessK K) mg base 1 (He.fAd K ("rows_in_all", none)) fd ["n"] f_rows_in_all := by
  have e : needsSs b_rows_in_all = [] := by kernel_rfl
  exact def_G (ns := ["n", "found", "step"]) D rfl (by decide +kernel) (by decide +kernel) (free c X G) (by rw [e]; exact all_nil)
theorem c_rows_in_all (c : He.SaysD fa fn K) (X : K.In h) (G : h.Ns mainGlobals mg) : CalG P w (lessK K) mg base 1 (sOf [114, 111, 119, 115, 95, 105, 110, 95, 97, 108, 108]) f_rows_in_all := by
  obtain ⟨fd, D⟩ := c.def_ 22 (d := d_rows_in_all) rfl
  exact cal_G (nm := "rows_in_all") (st := top 38) D (g_rows_in_all c X G D) (He.glo_ok X G (c.fact 22 (f := .glo "rows_in_all") rfl)) (fun kV doc pm an cdv ct us hl => match us, hl with | [_], _ => rfl)
theorem g_next_flipped (c : He.SaysD fa fn K) (X : K.In h) (G : h.Ns mainGlobals mg) {fd : FuncData} (D : FunS K "next_flipped" (top 39) (He.fAd K ("next_flipped", none)) fd) : FnG P w (lessK K) mg base 3 (He.fAd K ("next_flipped", none)) fd ["row"] f_next_flipped := by
  have e : needsSs b_next_flipped = [.call [112, 108, 97, 99, 101, 95, 111, 102, 95, 114, 111, 119] f_place_of_row, .call [114, 111, 119, 115, 95, 105, 110, 95, 97, 108, 108] f_rows_in_all, .call [114, 111, 119, 95, 97, 116] f_row_at] := by kernel_rfl
  exact def_G (ns := ["row", "place"]) D rfl (by decide +kernel) (by decide +kernel) (free c X G) (by rw [e]; exact all_cons ((c_place_of_row c X G).mono (by decide)) (all_cons ((c_rows_in_all c X G).mono (by decide)) (all_cons ((c_row_at c X G).mono (by decide)) (all_nil))))
theorem c_next_flipped (c : He.SaysD fa fn K) (X : K.In h) (G : h.Ns mainGlobals mg) : CalG P w (lessK K) mg base 3 (sOf [110, 101, 120, 116, 95, 102, 108, 105, 112, 112, 101, 100]) f_next_flipped := by
  obtain ⟨fd, D⟩ := c.def_ 23 (d := d_next_flipped) rfl
  exact cal_G (nm := "next_flipped") (st := top 39) D (g_next_flipped c X G D) (He.glo_ok X G (c.fact 23 (f := .glo "next_flipped") rfl)) (fun kV doc pm an cdv ct us hl => match us, hl with | [_], _ => rfl)
theorem g_flipped_list (c : He.SaysD fa fn K) (X : K.In h) (G : h.Ns mainGlobals mg) {fd : FuncData} (D : FunS K "flipped_list" (top 40) (He.fAd K ("flipped_list", none)) fd) : FnG P w (lessK K) mg base 3 (He.fAd K ("flipped_list", none)) fd ["n"] f_flipped_list := by
  have e : needsSs b_flipped_list = [.gint [77, 65, 88, 95, 83, 72, 79, 87, 78] 12, .call [114, 111, 119, 95, 97, 116] f_row_at, .call [114, 111, 119, 115, 95, 105, 110, 95, 97, 108, 108] f_rows_in_all] := by kernel_rfl
  exact def_G (ns := ["n", "place"]) D rfl (by decide +kernel) (by decide +kernel) (free c X G) (by rw [e]; exact all_cons (He.int_ok X G (c.fact 69 (f := .int "MAX_SHOWN" 12) rfl)) (all_cons ((c_row_at c X G).mono (by decide)) (all_cons ((c_rows_in_all c X G).mono (by decide)) (all_nil))))
theorem c_flipped_list (c : He.SaysD fa fn K) (X : K.In h) (G : h.Ns mainGlobals mg) : CalG P w (lessK K) mg base 3 (sOf [102, 108, 105, 112, 112, 101, 100, 95, 108, 105, 115, 116]) f_flipped_list := by
  obtain ⟨fd, D⟩ := c.def_ 24 (d := d_flipped_list) rfl
  exact cal_G (nm := "flipped_list") (st := top 40) D (g_flipped_list c X G D) (He.glo_ok X G (c.fact 24 (f := .glo "flipped_list") rfl)) (fun kV doc pm an cdv ct us hl => match us, hl with | [_], _ => rfl)
theorem g_even_places (c : He.SaysD fa fn K) (X : K.In h) (G : h.Ns mainGlobals mg) {fd : FuncData} (D : FunS K "even_places" (top 42) (He.fAd K ("even_places", none)) fd) : FnG P w (lessK K) mg base 1 (He.fAd K ("even_places", none)) fd ["n", "end"] f_even_places := by
  have e : needsSs b_even_places = [] := by kernel_rfl
  exact def_G (ns := ["n", "end"]) D rfl (by decide +kernel) (by decide +kernel) (free c X G) (by rw [e]; exact all_nil)
theorem c_even_places (c : He.SaysD fa fn K) (X : K.In h) (G : h.Ns mainGlobals mg) : CalG P w (lessK K) mg base 1 (sOf [101, 118, 101, 110, 95, 112, 108, 97, 99, 101, 115]) f_even_places := by
  obtain ⟨fd, D⟩ := c.def_ 25 (d := d_even_places) rfl
  exact cal_G (nm := "even_places") (st := top 42) D (g_even_places c X G D) (He.glo_ok X G (c.fact 25 (f := .glo "even_places") rfl)) (fun kV doc pm an cdv ct us hl => match us, hl with | [_, _], _ => rfl)
theorem g_switch_turned (c : He.SaysD fa fn K) (X : K.In h) (G : h.Ns mainGlobals mg) {fd : FuncData} (D : FunS K "switch_turned" (top 44) (He.fAd K ("switch_turned", none)) fd) : FnG P w (lessK K) mg base 2 (He.fAd K ("switch_turned", none)) fd ["n", "place"] f_switch_turned := by
  have e : needsSs b_switch_turned = [.call [114, 111, 119, 115, 95, 105, 110, 95, 97, 108, 108] f_rows_in_all] := by kernel_rfl
  exact def_G (ns := ["n", "place", "switch", "here"]) D rfl (by decide +kernel) (by decide +kernel) (free c X G) (by rw [e]; exact all_cons ((c_rows_in_all c X G).mono (by decide)) (all_nil))
theorem c_switch_turned (c : He.SaysD fa fn K) (X : K.In h) (G : h.Ns mainGlobals mg) : CalG P w (lessK K) mg base 2 (sOf [115, 119, 105, 116, 99, 104, 95, 116, 117, 114, 110, 101, 100]) f_switch_turned := by
  obtain ⟨fd, D⟩ := c.def_ 26 (d := d_switch_turned) rfl
  exact cal_G (nm := "switch_turned") (st := top 44) D (g_switch_turned c X G D) (He.glo_ok X G (c.fact 26 (f := .glo "switch_turned") rfl)) (fun kV doc pm an cdv ct us hl => match us, hl with | [_, _], _ => rfl)
theorem g_need_few (c : He.SaysD fa fn K) (X : K.In h) (G : h.Ns mainGlobals mg) {fd : FuncData} (D : FunS K "need_few" (top 46) (He.fAd K ("need_few", none)) fd) : FnG P w (lessK K) mg base 1 (He.fAd K ("need_few", none)) fd ["near"] f_need_few := by
  have e : needsSs b_need_few = [.gint [77, 65, 88, 95, 83, 73, 68, 69, 68] 300] := by kernel_rfl
  exact def_G (ns := ["near"]) D rfl (by decide +kernel) (by decide +kernel) (free c X G) (by rw [e]; exact all_cons (He.int_ok X G (c.fact 70 (f := .int "MAX_SIDED" 300) rfl)) (all_nil))
theorem c_need_few (c : He.SaysD fa fn K) (X : K.In h) (G : h.Ns mainGlobals mg) : CalG P w (lessK K) mg base 1 (sOf [110, 101, 101, 100, 95, 102, 101, 119]) f_need_few := by
  obtain ⟨fd, D⟩ := c.def_ 27 (d := d_need_few) rfl
  exact cal_G (nm := "need_few") (st := top 46) D (g_need_few c X G D) (He.glo_ok X G (c.fact 27 (f := .glo "need_few") rfl)) (fun kV doc pm an cdv ct us hl => match us, hl with | [_], _ => rfl)
theorem g_neighbours_of (c : He.SaysD fa fn K) (X : K.In h) (G : h.Ns mainGlobals mg) {fd : FuncData} (D : FunS K "neighbours_of" (top 47) (He.fAd K ("neighbours_of", none)) fd) : FnG P w (lessK K) mg base 5 (He.fAd K ("neighbours_of", none)) fd ["word", "near"] f_neighbours_of := by
  have e : needsSs b_neighbours_of = [.call [110, 101, 101, 100, 95, 102, 101, 119] f_need_few, .call [105, 115, 95, 115, 116, 101, 112] f_is_step] := by kernel_rfl
  exact def_G (ns := ["word", "near", "found", "i", "one", "j", "thing", "own"]) D rfl (by decide +kernel) (by decide +kernel) (free c X G) (by rw [e]; exact all_cons ((c_need_few c X G).mono (by decide)) (all_cons ((c_is_step c X G).mono (by decide)) (all_nil)))
theorem c_neighbours_of (c : He.SaysD fa fn K) (X : K.In h) (G : h.Ns mainGlobals mg) : CalG P w (lessK K) mg base 5 (sOf [110, 101, 105, 103, 104, 98, 111, 117, 114, 115, 95, 111, 102]) f_neighbours_of := by
  obtain ⟨fd, D⟩ := c.def_ 28 (d := d_neighbours_of) rfl
  exact cal_G (nm := "neighbours_of") (st := top 47) D (g_neighbours_of c X G D) (He.glo_ok X G (c.fact 28 (f := .glo "neighbours_of") rfl)) (fun kV doc pm an cdv ct us hl => match us, hl with | [_, _], _ => rfl)
theorem g_walked_sides (c : He.SaysD fa fn K) (X : K.In h) (G : h.Ns mainGlobals mg) {fd : FuncData} (D : FunS K "walked_sides" (top 48) (He.fAd K ("walked_sides", none)) fd) : FnG P w (lessK K) mg base 1 (He.fAd K ("walked_sides", none)) fd ["neighbours"] f_walked_sides := by
  have e : needsSs b_walked_sides = [] := by kernel_rfl
  exact def_G (ns := ["neighbours", "begin", "sides", "ahead_of", "rest", "here", "place"]) D rfl (by decide +kernel) (by decide +kernel) (free c X G) (by rw [e]; exact all_nil)
theorem c_walked_sides (c : He.SaysD fa fn K) (X : K.In h) (G : h.Ns mainGlobals mg) : CalG P w (lessK K) mg base 1 (sOf [119, 97, 108, 107, 101, 100, 95, 115, 105, 100, 101, 115]) f_walked_sides := by
  obtain ⟨fd, D⟩ := c.def_ 29 (d := d_walked_sides) rfl
  exact cal_G (nm := "walked_sides") (st := top 48) D (g_walked_sides c X G D) (He.glo_ok X G (c.fact 29 (f := .glo "walked_sides") rfl)) (fun kV doc pm an cdv ct us hl => match us, hl with | [_], _ => rfl)
theorem g_sides_of (c : He.SaysD fa fn K) (X : K.In h) (G : h.Ns mainGlobals mg) {fd : FuncData} (D : FunS K "sides_of" (top 49) (He.fAd K ("sides_of", none)) fd) : FnG P w (lessK K) mg base 6 (He.fAd K ("sides_of", none)) fd ["word", "near"] f_sides_of := by
  have e : needsSs b_sides_of = [.call [119, 97, 108, 107, 101, 100, 95, 115, 105, 100, 101, 115] f_walked_sides, .call [110, 101, 105, 103, 104, 98, 111, 117, 114, 115, 95, 111, 102] f_neighbours_of] := by kernel_rfl
  exact def_G (ns := ["word", "near", "sides", "ahead_of", "same"]) D rfl (by decide +kernel) (by decide +kernel) (free c X G) (by rw [e]; exact all_cons ((c_walked_sides c X G).mono (by decide)) (all_cons ((c_neighbours_of c X G).mono (by decide)) (all_nil)))
theorem c_sides_of (c : He.SaysD fa fn K) (X : K.In h) (G : h.Ns mainGlobals mg) : CalG P w (lessK K) mg base 6 (sOf [115, 105, 100, 101, 115, 95, 111, 102]) f_sides_of := by
  obtain ⟨fd, D⟩ := c.def_ 30 (d := d_sides_of) rfl
  exact cal_G (nm := "sides_of") (st := top 49) D (g_sides_of c X G D) (He.glo_ok X G (c.fact 30 (f := .glo "sides_of") rfl)) (fun kV doc pm an cdv ct us hl => match us, hl with | [_, _], _ => rfl)
theorem g_side_counts (c : He.SaysD fa fn K) (X : K.In h) (G : h.Ns mainGlobals mg) {fd : FuncData} (D : FunS K "side_counts" (top 50) (He.fAd K ("side_counts", none)) fd) : FnG P w (lessK K) mg base 7 (He.fAd K ("side_counts", none)) fd ["word", "near"] f_side_counts := by
  have e : needsSs b_side_counts = [.call [115, 105, 100, 101, 115, 95, 111, 102] f_sides_of] := by kernel_rfl
  exact def_G (ns := ["word", "near", "sides"]) D rfl (by decide +kernel) (by decide +kernel) (free c X G) (by rw [e]; exact all_cons ((c_sides_of c X G).mono (by decide)) (all_nil))
theorem c_side_counts (c : He.SaysD fa fn K) (X : K.In h) (G : h.Ns mainGlobals mg) : CalG P w (lessK K) mg base 7 (sOf [115, 105, 100, 101, 95, 99, 111, 117, 110, 116, 115]) f_side_counts := by
  obtain ⟨fd, D⟩ := c.def_ 31 (d := d_side_counts) rfl
  exact cal_G (nm := "side_counts") (st := top 50) D (g_side_counts c X G D) (He.glo_ok X G (c.fact 31 (f := .glo "side_counts") rfl)) (fun kV doc pm an cdv ct us hl => match us, hl with | [_, _], _ => rfl)
theorem g__law_bag (c : He.SaysD fa fn K) (X : K.In h) (G : h.Ns mainGlobals mg) {fd : FuncData} (D : FunS K "_law_bag" (top 52) (He.fAd K ("_law_bag", none)) fd) : FnG P w (lessK K) mg base 1 (He.fAd K ("_law_bag", none)) fd ["script"] f__law_bag := by
  have e : needsSs b__law_bag = [] := by kernel_rfl
  exact def_G (ns := ["script", "cells", "mixed", "cell"]) D rfl (by decide +kernel) (by decide +kernel) (free c X G) (by rw [e]; exact all_nil)
theorem c__law_bag (c : He.SaysD fa fn K) (X : K.In h) (G : h.Ns mainGlobals mg) : CalG P w (lessK K) mg base 1 (sOf [95, 108, 97, 119, 95, 98, 97, 103]) f__law_bag := by
  obtain ⟨fd, D⟩ := c.def_ 32 (d := d__law_bag) rfl
  exact cal_G (nm := "_law_bag") (st := top 52) D (g__law_bag c X G D) (He.glo_ok X G (c.fact 32 (f := .glo "_law_bag") rfl)) (fun kV doc pm an cdv ct us hl => match us, hl with | [_], _ => rfl)
theorem g__law_draw (c : He.SaysD fa fn K) (X : K.In h) (G : h.Ns mainGlobals mg) {fd : FuncData} (D : FunS K "_law_draw" (top 53) (He.fAd K ("_law_draw", none)) fd) : FnG P w (lessK K) mg base 1 (He.fAd K ("_law_draw", none)) fd ["bag", "below"] f__law_draw := by
  have e : needsSs b__law_draw = [] := by kernel_rfl
  exact def_G (ns := ["bag", "below", "cell", "found"]) D rfl (by decide +kernel) (by decide +kernel) (free c X G) (by rw [e]; exact all_nil)
theorem c__law_draw (c : He.SaysD fa fn K) (X : K.In h) (G : h.Ns mainGlobals mg) : CalG P w (lessK K) mg base 1 (sOf [95, 108, 97, 119, 95, 100, 114, 97, 119]) f__law_draw := by
  obtain ⟨fd, D⟩ := c.def_ 33 (d := d__law_draw) rfl
  exact cal_G (nm := "_law_draw") (st := top 53) D (g__law_draw c X G D) (He.glo_ok X G (c.fact 33 (f := .glo "_law_draw") rfl)) (fun kV doc pm an cdv ct us hl => match us, hl with | [_, _], _ => rfl)
theorem g__law_mixed (c : He.SaysD fa fn K) (X : K.In h) (G : h.Ns mainGlobals mg) {fd : FuncData} (D : FunS K "_law_mixed" (top 55) (He.fAd K ("_law_mixed", none)) fd) : FnG P w (lessK K) mg base 2 (He.fAd K ("_law_mixed", none)) fd ["bag", "row"] f__law_mixed := by
  have e : needsSs b__law_mixed = [.call [95, 108, 97, 119, 95, 100, 114, 97, 119] f__law_draw] := by kernel_rfl
  exact def_G (ns := ["bag", "row", "left", "found"]) D rfl (by decide +kernel) (by decide +kernel) (free c X G) (by rw [e]; exact all_cons ((c__law_draw c X G).mono (by decide)) (all_nil))
theorem c__law_mixed (c : He.SaysD fa fn K) (X : K.In h) (G : h.Ns mainGlobals mg) : CalG P w (lessK K) mg base 2 (sOf [95, 108, 97, 119, 95, 109, 105, 120, 101, 100]) f__law_mixed := by
  obtain ⟨fd, D⟩ := c.def_ 34 (d := d__law_mixed) rfl
  exact cal_G (nm := "_law_mixed") (st := top 55) D (g__law_mixed c X G D) (He.glo_ok X G (c.fact 34 (f := .glo "_law_mixed") rfl)) (fun kV doc pm an cdv ct us hl => match us, hl with | [_, _], _ => rfl)
theorem g__law_with (c : He.SaysD fa fn K) (X : K.In h) (G : h.Ns mainGlobals mg) {fd : FuncData} (D : FunS K "_law_with" (top 56) (He.fAd K ("_law_with", none)) fd) : FnG P w (lessK K) mg base 1 (He.fAd K ("_law_with", none)) fd ["row", "place", "item"] f__law_with := by
  have e : needsSs b__law_with = [] := by kernel_rfl
  exact def_G (ns := ["row", "place", "item"]) D rfl (by decide +kernel) (by decide +kernel) (free c X G) (by rw [e]; exact all_nil)
theorem c__law_with (c : He.SaysD fa fn K) (X : K.In h) (G : h.Ns mainGlobals mg) : CalG P w (lessK K) mg base 1 (sOf [95, 108, 97, 119, 95, 119, 105, 116, 104]) f__law_with := by
  obtain ⟨fd, D⟩ := c.def_ 35 (d := d__law_with) rfl
  exact cal_G (nm := "_law_with") (st := top 56) D (g__law_with c X G D) (He.glo_ok X G (c.fact 35 (f := .glo "_law_with") rfl)) (fun kV doc pm an cdv ct us hl => match us, hl with | [_, _, _], _ => rfl)
theorem g__law_is_step (c : He.SaysD fa fn K) (X : K.In h) (G : h.Ns mainGlobals mg) {fd : FuncData} (D : FunS K "_law_is_step" (top 57) (He.fAd K ("_law_is_step", none)) fd) : FnG P w (lessK K) mg base 1 (He.fAd K ("_law_is_step", none)) fd ["word", "one", "other"] f__law_is_step := by
  have e : needsSs b__law_is_step = [] := by kernel_rfl
  exact def_G (ns := ["word", "one", "other", "places", "gone", "come", "k", "x"]) D rfl (by decide +kernel) (by decide +kernel) (free c X G) (by rw [e]; exact all_nil)
theorem c__law_is_step (c : He.SaysD fa fn K) (X : K.In h) (G : h.Ns mainGlobals mg) : CalG P w (lessK K) mg base 1 (sOf [95, 108, 97, 119, 95, 105, 115, 95, 115, 116, 101, 112]) f__law_is_step := by
  obtain ⟨fd, D⟩ := c.def_ 36 (d := d__law_is_step) rfl
  exact cal_G (nm := "_law_is_step") (st := top 57) D (g__law_is_step c X G D) (He.glo_ok X G (c.fact 36 (f := .glo "_law_is_step") rfl)) (fun kV doc pm an cdv ct us hl => match us, hl with | [_, _, _], _ => rfl)
theorem g__law_goes (c : He.SaysD fa fn K) (X : K.In h) (G : h.Ns mainGlobals mg) {fd : FuncData} (D : FunS K "_law_goes" (top 58) (He.fAd K ("_law_goes", none)) fd) : FnG P w (lessK K) mg base 2 (He.fAd K ("_law_goes", none)) fd ["word", "near"] f__law_goes := by
  have e : needsSs b__law_goes = [.call [95, 108, 97, 119, 95, 105, 115, 95, 115, 116, 101, 112] f__law_is_step] := by kernel_rfl
  exact def_G (ns := ["word", "near", "one", "other"]) D rfl (by decide +kernel) (by decide +kernel) (free c X G) (by rw [e]; exact all_cons ((c__law_is_step c X G).mono (by decide)) (all_nil))
theorem c__law_goes (c : He.SaysD fa fn K) (X : K.In h) (G : h.Ns mainGlobals mg) : CalG P w (lessK K) mg base 2 (sOf [95, 108, 97, 119, 95, 103, 111, 101, 115]) f__law_goes := by
  obtain ⟨fd, D⟩ := c.def_ 37 (d := d__law_goes) rfl
  exact cal_G (nm := "_law_goes") (st := top 58) D (g__law_goes c X G D) (He.glo_ok X G (c.fact 37 (f := .glo "_law_goes") rfl)) (fun kV doc pm an cdv ct us hl => match us, hl with | [_, _], _ => rfl)
theorem g__law_closes (c : He.SaysD fa fn K) (X : K.In h) (G : h.Ns mainGlobals mg) {fd : FuncData} (D : FunS K "_law_closes" (top 59) (He.fAd K ("_law_closes", none)) fd) : FnG P w (lessK K) mg base 3 (He.fAd K ("_law_closes", none)) fd ["word", "near"] f__law_closes := by
  have e : needsSs b__law_closes = [.call [95, 108, 97, 119, 95, 103, 111, 101, 115] f__law_goes, .call [95, 108, 97, 119, 95, 105, 115, 95, 115, 116, 101, 112] f__law_is_step] := by kernel_rfl
  exact def_G (ns := ["word", "near"]) D rfl (by decide +kernel) (by decide +kernel) (free c X G) (by rw [e]; exact all_cons ((c__law_goes c X G).mono (by decide)) (all_cons ((c__law_is_step c X G).mono (by decide)) (all_nil)))
theorem c__law_closes (c : He.SaysD fa fn K) (X : K.In h) (G : h.Ns mainGlobals mg) : CalG P w (lessK K) mg base 3 (sOf [95, 108, 97, 119, 95, 99, 108, 111, 115, 101, 115]) f__law_closes := by
  obtain ⟨fd, D⟩ := c.def_ 38 (d := d__law_closes) rfl
  exact cal_G (nm := "_law_closes") (st := top 59) D (g__law_closes c X G D) (He.glo_ok X G (c.fact 38 (f := .glo "_law_closes") rfl)) (fun kV doc pm an cdv ct us hl => match us, hl with | [_, _], _ => rfl)
theorem g__law_row (c : He.SaysD fa fn K) (X : K.In h) (G : h.Ns mainGlobals mg) {fd : FuncData} (D : FunS K "_law_row" (top 60) (He.fAd K ("_law_row", none)) fd) : FnG P w (lessK K) mg base 1 (He.fAd K ("_law_row", none)) fd ["n", "place"] f__law_row := by
  have e : needsSs b__law_row = [] := by kernel_rfl
  exact def_G (ns := ["n", "place", "own", "i"]) D rfl (by decide +kernel) (by decide +kernel) (free c X G) (by rw [e]; exact all_nil)
theorem c__law_row (c : He.SaysD fa fn K) (X : K.In h) (G : h.Ns mainGlobals mg) : CalG P w (lessK K) mg base 1 (sOf [95, 108, 97, 119, 95, 114, 111, 119]) f__law_row := by
  obtain ⟨fd, D⟩ := c.def_ 39 (d := d__law_row) rfl
  exact cal_G (nm := "_law_row") (st := top 60) D (g__law_row c X G D) (He.glo_ok X G (c.fact 39 (f := .glo "_law_row") rfl)) (fun kV doc pm an cdv ct us hl => match us, hl with | [_, _], _ => rfl)
theorem g_turned_list (c : He.SaysD fa fn K) (X : K.In h) (G : h.Ns mainGlobals mg) {fd : FuncData} (D : FunS K "turned_list" (top 15) (He.fAd K ("turned_list", none)) fd) : FnG P w (lessK K) mg base 1 (He.fAd K ("turned_list", none)) fd ["near"] f_turned_list := by
  have e : needsSs b_turned_list = [] := by kernel_rfl
  exact def_G (ns := ["near"]) D rfl (by decide +kernel) (by decide +kernel) (free c X G) (by rw [e]; exact all_nil)
theorem c_turned_list (c : He.SaysD fa fn K) (X : K.In h) (G : h.Ns mainGlobals mg) : CalG P w (lessK K) mg base 1 (sOf [116, 117, 114, 110, 101, 100, 95, 108, 105, 115, 116]) f_turned_list := by
  obtain ⟨fd, D⟩ := c.def_ 40 (d := d_turned_list) rfl
  exact cal_G (nm := "turned_list") (st := top 15) D (g_turned_list c X G D) (He.glo_ok X G (c.fact 40 (f := .glo "turned_list") rfl)) (fun kV doc pm an cdv ct us hl => match us, hl with | [_], _ => rfl)
theorem g_mirrored_list (c : He.SaysD fa fn K) (X : K.In h) (G : h.Ns mainGlobals mg) {fd : FuncData} (D : FunS K "mirrored_list" (top 16) (He.fAd K ("mirrored_list", none)) fd) : FnG P w (lessK K) mg base 1 (He.fAd K ("mirrored_list", none)) fd ["near"] f_mirrored_list := by
  have e : needsSs b_mirrored_list = [] := by kernel_rfl
  exact def_G (ns := ["near", "thing"]) D rfl (by decide +kernel) (by decide +kernel) (free c X G) (by rw [e]; exact all_nil)
theorem c_mirrored_list (c : He.SaysD fa fn K) (X : K.In h) (G : h.Ns mainGlobals mg) : CalG P w (lessK K) mg base 1 (sOf [109, 105, 114, 114, 111, 114, 101, 100, 95, 108, 105, 115, 116]) f_mirrored_list := by
  obtain ⟨fd, D⟩ := c.def_ 41 (d := d_mirrored_list) rfl
  exact cal_G (nm := "mirrored_list") (st := top 16) D (g_mirrored_list c X G D) (He.glo_ok X G (c.fact 41 (f := .glo "mirrored_list") rfl)) (fun kV doc pm an cdv ct us hl => match us, hl with | [_], _ => rfl)
theorem g_led_list (c : He.SaysD fa fn K) (X : K.In h) (G : h.Ns mainGlobals mg) {fd : FuncData} (D : FunS K "led_list" (top 17) (He.fAd K ("led_list", none)) fd) : FnG P w (lessK K) mg base 1 (He.fAd K ("led_list", none)) fd ["near", "place"] f_led_list := by
  have e : needsSs b_led_list = [] := by kernel_rfl
  exact def_G (ns := ["near", "place"]) D rfl (by decide +kernel) (by decide +kernel) (free c X G) (by rw [e]; exact all_nil)
theorem c_led_list (c : He.SaysD fa fn K) (X : K.In h) (G : h.Ns mainGlobals mg) : CalG P w (lessK K) mg base 1 (sOf [108, 101, 100, 95, 108, 105, 115, 116]) f_led_list := by
  obtain ⟨fd, D⟩ := c.def_ 42 (d := d_led_list) rfl
  exact cal_G (nm := "led_list") (st := top 17) D (g_led_list c X G D) (He.glo_ok X G (c.fact 42 (f := .glo "led_list") rfl)) (fun kV doc pm an cdv ct us hl => match us, hl with | [_, _], _ => rfl)
theorem g_called_list (c : He.SaysD fa fn K) (X : K.In h) (G : h.Ns mainGlobals mg) {fd : FuncData} (D : FunS K "called_list" (top 19) (He.fAd K ("called_list", none)) fd) : FnG P w (lessK K) mg base 1 (He.fAd K ("called_list", none)) fd ["near", "naming"] f_called_list := by
  have e : needsSs b_called_list = [] := by kernel_rfl
  exact def_G (ns := ["near", "naming", "thing", "item"]) D rfl (by decide +kernel) (by decide +kernel) (free c X G) (by rw [e]; exact all_nil)
theorem c_called_list (c : He.SaysD fa fn K) (X : K.In h) (G : h.Ns mainGlobals mg) : CalG P w (lessK K) mg base 1 (sOf [99, 97, 108, 108, 101, 100, 95, 108, 105, 115, 116]) f_called_list := by
  obtain ⟨fd, D⟩ := c.def_ 43 (d := d_called_list) rfl
  exact cal_G (nm := "called_list") (st := top 19) D (g_called_list c X G D) (He.glo_ok X G (c.fact 43 (f := .glo "called_list") rfl)) (fun kV doc pm an cdv ct us hl => match us, hl with | [_, _], _ => rfl)
theorem g__law_pick (c : He.SaysD fa fn K) (X : K.In h) (G : h.Ns mainGlobals mg) {fd : FuncData} (D : FunS K "_law_pick" (top 54) (He.fAd K ("_law_pick", none)) fd) : FnG P w (lessK K) mg base 2 (He.fAd K ("_law_pick", none)) fd ["bag", "some"] f__law_pick := by
  have e : needsSs b__law_pick = [.call [95, 108, 97, 119, 95, 100, 114, 97, 119] f__law_draw] := by kernel_rfl
  exact def_G (ns := ["bag", "some"]) D rfl (by decide +kernel) (by decide +kernel) (free c X G) (by rw [e]; exact all_cons ((c__law_draw c X G).mono (by decide)) (all_nil))
theorem c__law_pick (c : He.SaysD fa fn K) (X : K.In h) (G : h.Ns mainGlobals mg) : CalG P w (lessK K) mg base 2 (sOf [95, 108, 97, 119, 95, 112, 105, 99, 107]) f__law_pick := by
  obtain ⟨fd, D⟩ := c.def_ 44 (d := d__law_pick) rfl
  exact cal_G (nm := "_law_pick") (st := top 54) D (g__law_pick c X G D) (He.glo_ok X G (c.fact 44 (f := .glo "_law_pick") rfl)) (fun kV doc pm an cdv ct us hl => match us, hl with | [_, _], _ => rfl)
theorem k_turned_list_0 (c : He.SaysD fa fn K) (X : K.In h) (G : h.Ns mainGlobals mg) : CalK P w (lessK K) mg base 1 (sOf [116, 117, 114, 110, 101, 100, 95, 108, 105, 115, 116]) (([[110, 101, 97, 114]] : List (List Nat)).map sOf) [0] f_turned_list := by
  obtain ⟨fd, D⟩ := c.def_ 40 (d := d_turned_list) rfl
  exact calK_G (nm := "turned_list") (st := top 15) (ps := ["near"]) D (g_turned_list c X G D) (He.glo_ok X G (c.fact 40 (f := .glo "turned_list") rfl)) rfl (by decide) (fun kV doc pm an cdv ct us hl => match us, hl with | [_], _ => rfl)
theorem k_mirrored_list_0 (c : He.SaysD fa fn K) (X : K.In h) (G : h.Ns mainGlobals mg) : CalK P w (lessK K) mg base 1 (sOf [109, 105, 114, 114, 111, 114, 101, 100, 95, 108, 105, 115, 116]) (([[110, 101, 97, 114]] : List (List Nat)).map sOf) [0] f_mirrored_list := by
  obtain ⟨fd, D⟩ := c.def_ 41 (d := d_mirrored_list) rfl
  exact calK_G (nm := "mirrored_list") (st := top 16) (ps := ["near"]) D (g_mirrored_list c X G D) (He.glo_ok X G (c.fact 41 (f := .glo "mirrored_list") rfl)) rfl (by decide) (fun kV doc pm an cdv ct us hl => match us, hl with | [_], _ => rfl)
theorem k_led_list_1_0 (c : He.SaysD fa fn K) (X : K.In h) (G : h.Ns mainGlobals mg) : CalK P w (lessK K) mg base 1 (sOf [108, 101, 100, 95, 108, 105, 115, 116]) (([[112, 108, 97, 99, 101], [110, 101, 97, 114]] : List (List Nat)).map sOf) [1, 0] f_led_list := by
  obtain ⟨fd, D⟩ := c.def_ 42 (d := d_led_list) rfl
  exact calK_G (nm := "led_list") (st := top 17) (ps := ["near", "place"]) D (g_led_list c X G D) (He.glo_ok X G (c.fact 42 (f := .glo "led_list") rfl)) rfl (by decide) (fun kV doc pm an cdv ct us hl => match us, hl with | [_, _], _ => rfl)
theorem k_called_list_1_0 (c : He.SaysD fa fn K) (X : K.In h) (G : h.Ns mainGlobals mg) : CalK P w (lessK K) mg base 1 (sOf [99, 97, 108, 108, 101, 100, 95, 108, 105, 115, 116]) (([[110, 97, 109, 105, 110, 103], [110, 101, 97, 114]] : List (List Nat)).map sOf) [1, 0] f_called_list := by
  obtain ⟨fd, D⟩ := c.def_ 43 (d := d_called_list) rfl
  exact calK_G (nm := "called_list") (st := top 19) (ps := ["near", "naming"]) D (g_called_list c X G D) (He.glo_ok X G (c.fact 43 (f := .glo "called_list") rfl)) rfl (by decide) (fun kV doc pm an cdv ct us hl => match us, hl with | [_, _], _ => rfl)
theorem g__law_are_others_right (c : He.SaysD fa fn K) (X : K.In h) (G : h.Ns mainGlobals mg) {fd : FuncData} (D : FunS K "_law_are_others_right" (top 61) (He.fAd K ("_law_are_others_right", none)) fd) : FnG P w (lessK K) mg base 7 (He.fAd K ("_law_are_others_right", none)) fd ["bag", "near"] f__law_are_others_right := by
  have e : needsSs b__law_are_others_right = [.call [95, 108, 97, 119, 95, 100, 114, 97, 119] f__law_draw, .call [95, 108, 97, 119, 95, 112, 105, 99, 107] f__law_pick, .call [116, 117, 114, 110, 101, 100, 95, 108, 105, 115, 116] f_turned_list, .call [109, 105, 114, 114, 111, 114, 101, 100, 95, 108, 105, 115, 116] f_mirrored_list, .call [108, 101, 100, 95, 108, 105, 115, 116] f_led_list, .call [99, 97, 108, 108, 101, 100, 95, 108, 105, 115, 116] f_called_list, .callk [116, 117, 114, 110, 101, 100, 95, 108, 105, 115, 116] [[110, 101, 97, 114]] f_turned_list [0], .callk [109, 105, 114, 114, 111, 114, 101, 100, 95, 108, 105, 115, 116] [[110, 101, 97, 114]] f_mirrored_list [0], .callk [108, 101, 100, 95, 108, 105, 115, 116] [[112, 108, 97, 99, 101], [110, 101, 97, 114]] f_led_list [1, 0], .callk [99, 97, 108, 108, 101, 100, 95, 108, 105, 115, 116] [[110, 97, 109, 105, 110, 103], [110, 101, 97, 114]] f_called_list [1, 0], .call [100, 111, 101, 115, 95, 99, 108, 111, 115, 101] f_does_close] := by kernel_rfl
  exact def_G (ns := ["bag", "near", "dues", "told", "named", "place", "naming", "own", "row", "item"]) D rfl (by decide +kernel) (by decide +kernel) (free c X G) (by rw [e]; exact all_cons ((c__law_draw c X G).mono (by decide)) (all_cons ((c__law_pick c X G).mono (by decide)) (all_cons ((c_turned_list c X G).mono (by decide)) (all_cons ((c_mirrored_list c X G).mono (by decide)) (all_cons ((c_led_list c X G).mono (by decide)) (all_cons ((c_called_list c X G).mono (by decide)) (all_cons ((k_turned_list_0 c X G).mono (by decide)) (all_cons ((k_mirrored_list_0 c X G).mono (by decide)) (all_cons ((k_led_list_1_0 c X G).mono (by decide)) (all_cons ((k_called_list_1_0 c X G).mono (by decide)) (all_cons ((c_does_close c X G).mono (by decide)) (all_nil))))))))))))
theorem c__law_are_others_right (c : He.SaysD fa fn K) (X : K.In h) (G : h.Ns mainGlobals mg) : CalG P w (lessK K) mg base 7 (sOf [95, 108, 97, 119, 95, 97, 114, 101, 95, 111, 116, 104, 101, 114, 115, 95, 114, 105, 103, 104, 116]) f__law_are_others_right := by
  obtain ⟨fd, D⟩ := c.def_ 45 (d := d__law_are_others_right) rfl
  exact cal_G (nm := "_law_are_others_right") (st := top 61) D (g__law_are_others_right c X G D) (He.glo_ok X G (c.fact 45 (f := .glo "_law_are_others_right") rfl)) (fun kV doc pm an cdv ct us hl => match us, hl with | [_, _], _ => rfl)
theorem k_does_close_1_0 (c : He.SaysD fa fn K) (X : K.In h) (G : h.Ns mainGlobals mg) : CalK P w (lessK K) mg base 6 (sOf [100, 111, 101, 115, 95, 99, 108, 111, 115, 101]) (([[110, 101, 97, 114], [119, 111, 114, 100]] : List (List Nat)).map sOf) [1, 0] f_does_close := by
  obtain ⟨fd, D⟩ := c.def_ 13 (d := d_does_close) rfl
  exact calK_G (nm := "does_close") (st := top 28) (ps := ["word", "near"]) D (g_does_close c X G D) (He.glo_ok X G (c.fact 13 (f := .glo "does_close") rfl)) rfl (by decide) (fun kV doc pm an cdv ct us hl => match us, hl with | [_, _], _ => rfl)
theorem k_places_of_1_0 (c : He.SaysD fa fn K) (X : K.In h) (G : h.Ns mainGlobals mg) : CalK P w (lessK K) mg base 1 (sOf [112, 108, 97, 99, 101, 115, 95, 111, 102]) (([[116, 104, 105, 110, 103, 115], [110, 101, 97, 114]] : List (List Nat)).map sOf) [1, 0] f_places_of := by
  obtain ⟨fd, D⟩ := c.def_ 5 (d := d_places_of) rfl
  exact calK_G (nm := "places_of") (st := top 18) (ps := ["near", "things"]) D (g_places_of c X G D) (He.glo_ok X G (c.fact 5 (f := .glo "places_of") rfl)) rfl (by decide) (fun kV doc pm an cdv ct us hl => match us, hl with | [_, _], _ => rfl)
theorem g_law (c : He.SaysD fa fn K) (X : K.In h) (G : h.Ns mainGlobals mg) {fd : FuncData} (D : FunS K "law" (top 62) (He.fAd K ("law", none)) fd) : FnG P w (lessK K) mg base 8 (He.fAd K ("law", none)) fd ["script"] f_law := by
  have e : needsSs b_law = [.call [95, 108, 97, 119, 95, 98, 97, 103] f__law_bag, .call [95, 108, 97, 119, 95, 100, 114, 97, 119] f__law_draw, .call [102, 108, 105, 112, 112, 101, 100, 95, 108, 105, 115, 116] f_flipped_list, .call [95, 108, 97, 119, 95, 114, 111, 119] f__law_row, .call [108, 105, 115, 116, 95, 101, 114, 114, 111, 114] f_list_error, .call [108, 105, 115, 116, 95, 102, 97, 117, 108, 116] f_list_fault, .callk [100, 111, 101, 115, 95, 99, 108, 111, 115, 101] [[110, 101, 97, 114], [119, 111, 114, 100]] f_does_close [1, 0], .call [115, 116, 101, 112, 115, 95, 114, 111, 119] f_steps_row, .call [115, 119, 105, 116, 99, 104, 95, 116, 117, 114, 110, 101, 100] f_switch_turned, .call [95, 108, 97, 119, 95, 100, 114, 97, 119] f__law_draw, .call [115, 116, 101, 112, 112, 101, 100, 95, 111, 110] f_stepped_on, .call [110, 101, 120, 116, 95, 102, 108, 105, 112, 112, 101, 100] f_next_flipped, .call [95, 108, 97, 119, 95, 105, 115, 95, 115, 116, 101, 112] f__law_is_step, .call [108, 105, 115, 116, 95, 102, 97, 117, 108, 116] f_list_fault, .call [100, 111, 101, 115, 95, 99, 108, 111, 115, 101] f_does_close, .call [95, 108, 97, 119, 95, 99, 108, 111, 115, 101, 115] f__law_closes, .call [95, 108, 97, 119, 95, 109, 105, 120, 101, 100] f__law_mixed, .call [112, 108, 97, 99, 101, 95, 111, 102, 95, 114, 111, 119] f_place_of_row, .call [112, 108, 97, 99, 101, 115, 95, 111, 102] f_places_of, .callk [112, 108, 97, 99, 101, 115, 95, 111, 102] [[116, 104, 105, 110, 103, 115], [110, 101, 97, 114]] f_places_of [1, 0], .call [95, 108, 97, 119, 95, 97, 114, 101, 95, 111, 116, 104, 101, 114, 115, 95, 114, 105, 103, 104, 116] f__law_are_others_right, .call [95, 108, 97, 119, 95, 100, 114, 97, 119] f__law_draw, .call [95, 108, 97, 119, 95, 100, 114, 97, 119] f__law_draw, .call [95, 108, 97, 119, 95, 119, 105, 116, 104] f__law_with, .call [95, 108, 97, 119, 95, 119, 105, 116, 104] f__law_with, .call [95, 108, 97, 119, 95, 105, 115, 95, 115, 116, 101, 112] f__law_is_step, .call [108, 105, 115, 116, 95, 102, 97, 117, 108, 116] f_list_fault, .call [115, 105, 100, 101, 115, 95, 111, 102] f_sides_of, .call [115, 105, 100, 101, 95, 99, 111, 117, 110, 116, 115] f_side_counts, .call [95, 108, 97, 119, 95, 100, 114, 97, 119] f__law_draw, .call [101, 118, 101, 110, 95, 112, 108, 97, 99, 101, 115] f_even_places] := by kernel_rfl
  exact def_G (ns := ["script", "bag", "n", "kept", "rows", "word", "some", "due", "bent", "places", "near", "many", "steps", "i", "j", "sides", "end", "place", "switch", "k", "one", "other", "row"]) D rfl (by decide +kernel) (by decide +kernel) (free c X G) (by rw [e]; exact all_cons ((c__law_bag c X G).mono (by decide)) (all_cons ((c__law_draw c X G).mono (by decide)) (all_cons ((c_flipped_list c X G).mono (by decide)) (all_cons ((c__law_row c X G).mono (by decide)) (all_cons ((c_list_error c X G).mono (by decide)) (all_cons ((c_list_fault c X G).mono (by decide)) (all_cons ((k_does_close_1_0 c X G).mono (by decide)) (all_cons ((c_steps_row c X G).mono (by decide)) (all_cons ((c_switch_turned c X G).mono (by decide)) (all_cons ((c__law_draw c X G).mono (by decide)) (all_cons ((c_stepped_on c X G).mono (by decide)) (all_cons ((c_next_flipped c X G).mono (by decide)) (all_cons ((c__law_is_step c X G).mono (by decide)) (all_cons ((c_list_fault c X G).mono (by decide)) (all_cons ((c_does_close c X G).mono (by decide)) (all_cons ((c__law_closes c X G).mono (by decide)) (all_cons ((c__law_mixed c X G).mono (by decide)) (all_cons ((c_place_of_row c X G).mono (by decide)) (all_cons ((c_places_of c X G).mono (by decide)) (all_cons ((k_places_of_1_0 c X G).mono (by decide)) (all_cons ((c__law_are_others_right c X G).mono (by decide)) (all_cons ((c__law_draw c X G).mono (by decide)) (all_cons ((c__law_draw c X G).mono (by decide)) (all_cons ((c__law_with c X G).mono (by decide)) (all_cons ((c__law_with c X G).mono (by decide)) (all_cons ((c__law_is_step c X G).mono (by decide)) (all_cons ((c_list_fault c X G).mono (by decide)) (all_cons ((c_sides_of c X G).mono (by decide)) (all_cons ((c_side_counts c X G).mono (by decide)) (all_cons ((c__law_draw c X G).mono (by decide)) (all_cons ((c_even_places c X G).mono (by decide)) (all_nil))))))))))))))))))))))))))))))))
theorem c_law (c : He.SaysD fa fn K) (X : K.In h) (G : h.Ns mainGlobals mg) : CalG P w (lessK K) mg base 8 (sOf [108, 97, 119]) f_law := by
  obtain ⟨fd, D⟩ := c.def_ 46 (d := d_law) rfl
  exact cal_G (nm := "law") (st := top 62) D (g_law c X G D) (He.glo_ok X G (c.fact 46 (f := .glo "law") rfl)) (fun kV doc pm an cdv ct us hl => match us, hl with | [_], _ => rfl)
end
abbrev R : PySem.W.OpenRow := PySem.W.OpenLaw.row PySem.Challenge.rw_nearlists_k75_whole_flipped_and_steps
abbrev hk : PySem.W.Hook := He.hookD 4 fa fn
def ob (s : PySem.W.SharedT) : He.AlD := He.obsDG 4 fa fn (HandSHeadRun.getT s)
theorem ob_eq (s : PySem.W.SharedT) : ob s = hk.obs s.abs := He.obsDG_eq (HandSHeadRun.getT_eq s)
def ls0 : List Str := ["MAX_ITEM", "MAX_LONG", "MAX_SHOWN", "MAX_SIDED", "MAX_THINGS", "ListError", "Unfit", "TooMany", "is_integer", "is_item", "is_thing", "again_place", "list_error", "turned_list", "mirrored_list", "led_list", "places_of", "called_list", "unlike_places", "place_step", "swap_step", "door_step", "step_told", "is_step", "list_fault", "does_close", "steps_row", "placed_on", "swapped_on", "moved_on"]
def ls1 : List Str := ["stepped_on", "digits_of", "row_at", "place_of_row", "rows_in_all", "next_flipped", "flipped_list", "even_places", "switch_turned", "need_few", "neighbours_of", "walked_sides", "sides_of", "side_counts", "_law_bag", "_law_draw", "_law_pick", "_law_mixed", "_law_with", "_law_is_step", "_law_goes", "_law_closes", "_law_row", "_law_are_others_right"]
def ls : List Str := ls0 ++ ls1
theorem run (w : World) : HandSHeadRun.RunEq R (PySem.W.view R.prog [62]) hk ob 2920 ls w := by
  intro os
  kernel_rfl
open PySem PySem.W PySem.Calls PyProof.Rows in
theorem holds (says : ∀ ns : List Int, ns.length ≤ 63 → (∀ z ∈ ns, Builtin.Int.intBits z ≤ 1048576) → ∃ S', f_law [.ref 0] [.scr ns] = some (.bl true, S')) : PySem.Challenge.rw_nearlists_k75_whole_flipped_and_steps.Holds := by
  w_on; o_law
  refine HandSHeadRun.head_any (r := OpenLaw.row PySem.Challenge.rw_nearlists_k75_whole_flipped_and_steps) (q := view (OpenLaw.row PySem.Challenge.rw_nearlists_k75_whole_flipped_and_steps).prog [62]) (H := hk) (ob := ob) (M := 2920) (loose := ls) (d := HandSHeadRun.topDef (OpenLaw.row PySem.Challenge.rw_nearlists_k75_whole_flipped_and_steps).prog 62) (kwd := []) ob_eq
    (by kernel_rfl) (fun s => by kernel_rfl) run (by kernel_rfl) (by kernel_rfl) (by kernel_rfl) (by rfl) (by first | assumption | decide +kernel) (by decide +kernel) ⟨rfl, rfl, rfl, rfl, rfl, by decide +kernel⟩ ?hw ?hc
  case hw => w_witness2
  case hc =>
    refine walk_G (l := PySem.Challenge.rw_nearlists_k75_whole_flipped_and_steps) (n := 63) (k := 8) (x := "script") rfl (by decide) (by kernel_rfl) ⟨rfl, by decide, by decide⟩ ?F
    intro w mg fad h Y G hmg0
    obtain ⟨K, KX, c⟩ := Y
    have hmg : mg ("law" : PySem.Str) = some (.ref fad) := by
      have e : (HandSHeadRun.topDef (OpenLaw.row PySem.Challenge.rw_nearlists_k75_whole_flipped_and_steps).prog 62).name = ("law" : PySem.Str) := by kernel_rfl
      rw [← e]
      exact hmg0
    obtain ⟨fd, D⟩ := c.def_ 46 (d := d_law) rfl
    have e := hmg.symm.trans (He.glo_ok KX G (c.fact 46 (f := .glo "law") rfl))
    cases e
    have b : BindP "law" (top 62) ["script"] := fun kV doc pm an cdv ct us hl => match us, hl with | [_], _ => rfl
    exact ⟨lessK K, fd, f_law, less_in KX, less_row K, fun s u => .of_eq (bindP_of (nm := "law") (st := top 62) D b [u] rfl), says, fun base _ _ => g_law c KX G D⟩
end K75
end N
set_option autoImplicit false
set_option linter.all false
set_option maxRecDepth 100000
/-! what a run of the evaluator gives, told by what is wanted of it -/
namespace N
def Ret {α : Type} (r : Option (α × Sto)) (Q : α → Sto → Prop) : Prop := match r with
  | some (a, S) => Q a S
  | none => False
def Run (r : RS) (Q : Fl → Env → Sto → Prop) : Prop := match r with
  | some (f, e, S) => Q f e S
  | none => False
def RetI (r : RI) (Q : List D → List (Nat × O) → Sto → Prop) : Prop := match r with
  | some (xs, g, S) => Q xs g S
  | none => False
def Opt {α : Type} (r : Option α) (Q : α → Prop) : Prop := match r with
  | some a => Q a
  | none => False
section
variable {α β : Type} {S T : Sto} {e : Env} {d : D}
@[simp] theorem ret_some (a : α) (S : Sto) (Q : α → Sto → Prop) : Ret (some (a, S)) Q = Q a S := rfl
@[simp] theorem ret_none (Q : α → Sto → Prop) : Ret (none : Option (α × Sto)) Q = False := rfl
@[simp] theorem ret_if (c : Prop) [Decidable c] (r : Option (α × Sto)) (Q : α → Sto → Prop) : Ret (if c then r else none) Q = (c ∧ Ret r Q) := by
  by_cases h : c <;> simp [h, Ret]
@[simp] theorem run_some (f : Fl) (e : Env) (S : Sto) (Q : Fl → Env → Sto → Prop) : Run (some (f, e, S)) Q = Q f e S := rfl
@[simp] theorem run_none (Q : Fl → Env → Sto → Prop) : Run none Q = False := rfl
@[simp] theorem reti_some (xs : List D) (g : List (Nat × O)) (S : Sto) (Q : List D → List (Nat × O) → Sto → Prop) : RetI (some (xs, g, S)) Q = Q xs g S := rfl
@[simp] theorem reti_none (Q : List D → List (Nat × O) → Sto → Prop) : RetI none Q = False := rfl
@[simp] theorem opt_some (a : α) (Q : α → Prop) : Opt (some a) Q = Q a := rfl
@[simp] theorem opt_none (Q : α → Prop) : Opt (none : Option α) Q = False := rfl
@[simp] theorem opt_if (c : Prop) [Decidable c] (r : Option α) (Q : α → Prop) : Opt (if c then r else none) Q = (c ∧ Opt r Q) := by
  by_cases h : c <;> simp [h, Opt]
@[simp] theorem opt_map (f : α → β) (r : Option α) (Q : β → Prop) : Opt (r.map f) Q = Opt r fun a => Q (f a) := by cases r <;> rfl
@[simp] theorem opt_bind (f : α → Option β) (r : Option α) (Q : β → Prop) : Opt (r.bind f) Q = Opt r fun a => Opt (f a) Q := by cases r <;> rfl
theorem Ret.imp {r : Option (α × Sto)} {Q Q' : α → Sto → Prop} (h : Ret r Q) (i : ∀ a S, Q a S → Q' a S) : Ret r Q' := by
  unfold Ret at h ⊢; split
  · exact i _ _ h
  · exact h
theorem Run.imp {r : RS} {Q Q' : Fl → Env → Sto → Prop} (h : Run r Q) (i : ∀ f e S, Q f e S → Q' f e S) : Run r Q' := by
  unfold Run at h ⊢; split
  · exact i _ _ _ h
  · exact h
theorem Ret.get {r : Option (α × Sto)} {Q : α → Sto → Prop} (h : Ret r Q) : ∃ a S, r = some (a, S) ∧ Q a S := by
  unfold Ret at h; split at h
  · exact ⟨_, _, rfl, h⟩
  · exact h.elim
theorem Run.get {r : RS} {Q : Fl → Env → Sto → Prop} (h : Run r Q) : ∃ f e S, r = some (f, e, S) ∧ Q f e S := by
  unfold Run at h; split at h
  · exact ⟨_, _, _, rfl, h⟩
  · exact h.elim
/-! ### expressions -/
variable {Q : D → Sto → Prop}
@[simp] theorem w_abs : Ret (evalE .abs e S) Q = Q .non S := by simp [evalE]
@[simp] theorem w_non : Ret (evalE .non e S) Q = Q .non S := by simp [evalE]
@[simp] theorem w_bl (b : Bool) : Ret (evalE (.bl b) e S) Q = Q (.bl b) S := by simp [evalE]
@[simp] theorem w_int (i : Int) : Ret (evalE (.int i) e S) Q = Q (.int i) S := by simp [evalE]
@[simp] theorem w_str (x : List Nat) : Ret (evalE (.str x) e S) Q = Q (.str x) S := by simp [evalE]
@[simp] theorem w_glo (x : List Nat) (v : D) : Ret (evalE (.glo x v) e S) Q = Q v S := by simp [evalE]
@[simp] theorem w_var (i : Nat) : Ret (evalE (.var i) e S) Q = Opt e[i]? fun o => Opt o fun d => Q d S := by
  simp only [evalE]
  rcases e[i]? with _ | _ | d <;> rfl
@[simp] theorem w_bin (op : Op2) (a b : Ex) : Ret (evalE (.bin op a b) e S) Q = Ret (evalE a e S) fun x S1 => Ret (evalE b e S1) fun y S2 => Ret (binI S2 op x y) Q := by
  simp only [evalE]
  rcases evalE a e S with _ | ⟨x, S1⟩
  · rfl
  · simp only [ret_some]
    rcases evalE b e S1 with _ | ⟨y, S2⟩ <;> rfl
@[simp] theorem w_neg (a : Ex) : Ret (evalE (.neg a) e S) Q = Ret (evalE a e S) fun x S1 => match x with
    | .int i => Q (.int (-i)) S1
    | _ => False := by
  simp only [evalE]
  rcases evalE a e S with _ | ⟨x, S1⟩
  · rfl
  · cases x <;> rfl
@[simp] theorem w_not (a : Ex) : Ret (evalE (.not a) e S) Q = Ret (evalE a e S) fun x S1 => Opt (tru S1 x) fun b => Q (.bl (!b)) S1 := by
  simp only [evalE, thenT]
  rcases evalE a e S with _ | ⟨x, S1⟩
  · rfl
  · simp only [ret_some]
    rcases tru S1 x with _ | b <;> rfl
theorem thenT_ret (r : RE) (Q : Bool → Sto → Prop) : Ret (thenT r) Q = Ret r fun d S1 => Opt (tru S1 d) fun b => Q b S1 := by
  rcases r with _ | ⟨x, S1⟩
  · rfl
  · simp only [thenT, ret_some]
    rcases tru S1 x with _ | b <;> rfl
@[simp] theorem w_thenT (c : Ex) (Q : Bool → Sto → Prop) : Ret (thenT (evalE c e S)) Q = Ret (evalE c e S) fun d S1 => Opt (tru S1 d) fun b => Q b S1 := thenT_ret _ _
@[simp] theorem w_and (a : Ex) (es : List Ex) : Ret (evalE (.and a es) e S) Q = Ret (evalE a e S) fun d S1 => Ret (evalAnd es d e S1) Q := by
  simp only [evalE]
  rcases evalE a e S with _ | ⟨x, S1⟩ <;> rfl
@[simp] theorem w_or (a : Ex) (es : List Ex) : Ret (evalE (.or a es) e S) Q = Ret (evalE a e S) fun d S1 => Ret (evalOr es d e S1) Q := by
  simp only [evalE]
  rcases evalE a e S with _ | ⟨x, S1⟩ <;> rfl
@[simp] theorem w_and0 : Ret (evalAnd [] d e S) Q = Q d S := by simp [evalAnd]
@[simp] theorem w_and1 (x : Ex) (xs : List Ex) : Ret (evalAnd (x :: xs) d e S) Q = Opt (tru S d) fun b => if b = true then Ret (evalE x e S) fun d1 S1 => Ret (evalAnd xs d1 e S1) Q else Q d S := by
  simp only [evalAnd]
  rcases tru S d with _ | _ | _
  · rfl
  · rfl
  · simp only [opt_some, if_true]
    rcases evalE x e S with _ | ⟨x, S1⟩ <;> rfl
@[simp] theorem w_or0 : Ret (evalOr [] d e S) Q = Q d S := by simp [evalOr]
@[simp] theorem w_or1 (x : Ex) (xs : List Ex) : Ret (evalOr (x :: xs) d e S) Q = Opt (tru S d) fun b => if b = true then Q d S else Ret (evalE x e S) fun d1 S1 => Ret (evalOr xs d1 e S1) Q := by
  simp only [evalOr]
  rcases tru S d with _ | _ | _
  · rfl
  · simp only [opt_some]
    rcases evalE x e S with _ | ⟨x, S1⟩ <;> rfl
  · rfl
@[simp] theorem w_cmp (a : Ex) (os : List Cmp) (bs : List Ex) : Ret (evalE (.cmp a os bs) e S) Q = Ret (evalE a e S) fun x S1 => Ret (evalC os bs e x true S1) fun c S2 => Q (.bl c) S2 := by
  simp only [evalE]
  rcases evalE a e S with _ | ⟨x, S1⟩
  · rfl
  · simp only [ret_some]
    rcases evalC os bs e x true S1 with _ | ⟨y, S2⟩ <;> rfl
@[simp] theorem w_c0 (x : D) (c : Bool) (Q : Bool → Sto → Prop) : Ret (evalC [] [] e x c S) Q = Q c S := by simp [evalC]
@[simp] theorem w_c1 (o : Cmp) (os : List Cmp) (b : Ex) (bs : List Ex) (x : D) (Q : Bool → Sto → Prop) : Ret (evalC (o :: os) (b :: bs) e x true S) Q = Ret (evalE b e S) fun y S1 => Opt (cmpI S1 o x y) fun c => Ret (evalC os bs e y c S1) Q := by
  simp only [evalC]
  rcases evalE b e S with _ | ⟨y, S1⟩
  · rfl
  · simp only [ret_some]
    rcases cmpI S1 o x y with _ | c <;> rfl
@[simp] theorem w_c2 (o : Cmp) (os : List Cmp) (b : Ex) (bs : List Ex) (x : D) (Q : Bool → Sto → Prop) : Ret (evalC (o :: os) (b :: bs) e x false S) Q = Q false S := by simp [evalC]
@[simp] theorem w_c3 (o : Cmp) (os : List Cmp) (b : Ex) (bs : List Ex) (x : D) (c : Bool) (Q : Bool → Sto → Prop) : Ret (evalC (o :: os) (b :: bs) e x c S) Q = if c = true then Ret (evalE b e S) fun y S1 => Opt (cmpI S1 o x y) fun c => Ret (evalC os bs e y c S1) Q else Q false S := by
  cases c
  · rw [w_c2]; rfl
  · rw [w_c1]; rfl
@[simp] theorem w_ife (c a b : Ex) : Ret (evalE (.ife c a b) e S) Q = Ret (evalE c e S) fun d S1 => Opt (tru S1 d) fun t => if t = true then Ret (evalE a e S1) Q else Ret (evalE b e S1) Q := by
  simp only [evalE, thenT]
  rcases evalE c e S with _ | ⟨x, S1⟩
  · rfl
  · simp only [ret_some]
    rcases tru S1 x with _ | _ | _ <;> rfl
@[simp] theorem w_es0 (Q : List D → Sto → Prop) : Ret (evalEs [] e S) Q = Q [] S := by simp [evalEs]
@[simp] theorem w_es1 (x : Ex) (xs : List Ex) (Q : List D → Sto → Prop) : Ret (evalEs (x :: xs) e S) Q = Ret (evalE x e S) fun d S1 => Ret (evalEs xs e S1) fun ds S2 => Q (d :: ds) S2 := by
  simp only [evalEs]
  rcases evalE x e S with _ | ⟨x, S1⟩
  · rfl
  · simp only [ret_some]
    rcases evalEs xs e S1 with _ | ⟨y, S2⟩ <;> rfl
@[simp] theorem w_tup (es : List Ex) : Ret (evalE (.tup es) e S) Q = Ret (evalEs es e S) fun ds S1 => Q (.tup ds) S1 := by
  simp only [evalE]
  rcases evalEs es e S with _ | ⟨x, S1⟩ <;> rfl
@[simp] theorem w_lst (es : List Ex) : Ret (evalE (.lst es) e S) Q = Ret (evalEs es e S) fun ds S1 => Q (.ref S1.length) (S1 ++ [.lst ds]) := by
  simp only [evalE]
  rcases evalEs es e S with _ | ⟨x, S1⟩ <;> rfl
@[simp] theorem w_idx (a i : Ex) : Ret (evalE (.idx a i) e S) Q = Ret (evalE a e S) fun x S1 => Ret (evalE i e S1) fun y S2 => Opt (idxI S2 x y) fun d => Q d S2 := by
  simp only [evalE]
  rcases evalE a e S with _ | ⟨x, S1⟩
  · rfl
  · simp only [ret_some]
    rcases evalE i e S1 with _ | ⟨y, S2⟩
    · rfl
    · simp only [ret_some]
      rcases idxI S2 x y with _ | d <;> rfl
@[simp] theorem w_slc (a lo hi st : Ex) : Ret (evalE (.slc a lo hi st) e S) Q = Ret (evalE a e S) fun x S1 => Ret (evalE lo e S1) fun l S2 => Ret (evalE hi e S2) fun h S3 => Ret (evalE st e S3) fun t S4 => Ret (slcI S4 x l h t) Q := by
  simp only [evalE]
  rcases evalE a e S with _ | ⟨x, S1⟩
  · rfl
  · simp only [ret_some]
    rcases evalE lo e S1 with _ | ⟨y, S2⟩
    · rfl
    · simp only [ret_some]
      rcases evalE hi e S2 with _ | ⟨y, S3⟩
      · rfl
      · simp only [ret_some]
        rcases evalE st e S3 with _ | ⟨y, S4⟩ <;> rfl
@[simp] theorem w_call (x : List Nat) (f : Fn) (es : List Ex) : Ret (evalE (.call x f es) e S) Q = Ret (evalEs es e S) fun ds S1 => Ret (callI f ds S1) Q := by
  simp only [evalE]
  rcases evalEs es e S with _ | ⟨x, S1⟩ <;> rfl
@[simp] theorem w_callk (x : List Nat) (ks : List (List Nat)) (f : Fn) (perm : List Nat) (es : List Ex) : Ret (evalE (.callk x ks f perm es) e S) Q = Ret (evalEs es e S) fun ds S1 => Ret (callI f (pick perm ds) S1) Q := by
  simp only [evalE]
  rcases evalEs es e S with _ | ⟨x, S1⟩ <;> rfl
@[simp] theorem w_blt (b : Blt) (es : List Ex) : Ret (evalE (.blt b es) e S) Q = Ret (evalEs es e S) fun ds S1 => Ret (bltI S1 b ds) Q := by
  simp only [evalE]
  rcases evalEs es e S with _ | ⟨x, S1⟩ <;> rfl
@[simp] theorem w_setlen (a : Ex) : Ret (evalE (.setlen a) e S) Q = Ret (evalE a e S) fun x S1 => Opt (setlenI S1 x) fun n => Q (.int (n : Nat)) S1 := by
  simp only [evalE]
  rcases evalE a e S with _ | ⟨x, S1⟩
  · rfl
  · simp only [ret_some]
    rcases setlenI S1 x with _ | b <;> rfl
@[simp] theorem w_meth (m : Mth) (o : Ex) (es : List Ex) : Ret (evalE (.meth m o es) e S) Q = Ret (evalE o e S) fun x S1 => methT S1 m x = true ∧ Ret (evalEs es e S1) fun ds S2 => Ret (methI S2 m x ds) Q := by
  simp only [evalE]
  rcases evalE o e S with _ | ⟨x, S1⟩
  · rfl
  · simp only [ret_some]
    rw [ret_if]
    congr 1
    rcases evalEs es e S1 with _ | ⟨y, S2⟩ <;> rfl
@[simp] theorem w_rngT (es : List Ex) : Ret (evalE (.rngT es) e S) Q = Ret (evalEs es e S) fun ds S1 => Opt (rngI ds) fun xs => Q (.tup xs) S1 := by
  simp only [evalE]
  rcases evalEs es e S with _ | ⟨x, S1⟩
  · rfl
  · simp only [ret_some]
    rcases rngI x with _ | b <;> rfl
@[simp] theorem w_rngL (es : List Ex) : Ret (evalE (.rngL es) e S) Q = Ret (evalEs es e S) fun ds S1 => Opt (rngI ds) fun xs => Q (.ref S1.length) (S1 ++ [.lst xs]) := by
  simp only [evalE]
  rcases evalEs es e S with _ | ⟨x, S1⟩
  · rfl
  · simp only [ret_some]
    rcases rngI x with _ | b <;> rfl
@[simp] theorem w_comp (elt tg it c : Ex) (own : List Nat) : Ret (evalE (.comp elt tg it c own) e S) Q = RetI (evalIt it e S) fun xs g S1 => xs.length ≤ line ∧ Ret (compL (bindT tg) (fun e S => thenT (evalE c e S)) (evalE elt) g (wipe e own) xs S1) fun ys S2 => Q (.ref S2.length) (S2 ++ [.lst ys]) := by
  simp only [evalE]
  rcases evalIt it e S with _ | ⟨xs, g, S1⟩
  · rfl
  · simp only [reti_some]
    by_cases h : xs.length ≤ line
    · simp only [h, decide_true, if_true, true_and]
      rcases compL (bindT tg) (fun e S => thenT (evalE c e S)) (evalE elt) g (wipe e own) xs S1 with _ | ⟨y, S2⟩ <;> rfl
    · simp only [h, decide_false, false_and]; rfl
@[simp] theorem w_dcomp (k v tg it c : Ex) (own : List Nat) : Ret (evalE (.dcomp k v tg it c own) e S) Q = RetI (evalIt it e S) fun xs g S1 => xs.length ≤ line ∧ Ret (dcompL (bindT tg) (fun e S => thenT (evalE c e S)) (evalE k) (evalE v) g (wipe e own) xs [] S1) fun ys S2 => Q (.ref S2.length) (S2 ++ [.dct ys]) := by
  simp only [evalE]
  rcases evalIt it e S with _ | ⟨xs, g, S1⟩
  · rfl
  · simp only [reti_some]
    by_cases h : xs.length ≤ line
    · simp only [h, decide_true, if_true, true_and]
      rcases dcompL (bindT tg) (fun e S => thenT (evalE c e S)) (evalE k) (evalE v) g (wipe e own) xs [] S1 with _ | ⟨y, S2⟩ <;> rfl
    · simp only [h, decide_false, false_and]; rfl
@[simp] theorem w_dict (kvs : List Ex) : Ret (evalE (.dict kvs) e S) Q = Ret (evalEs kvs e S) fun ds S1 => Opt (pairsD ds) fun ps => (ps.all fun p => keyK p.1) = true ∧ Q (.ref S1.length) (S1 ++ [.dct (dputs [] ps)]) := by
  simp only [evalE]
  rcases evalEs kvs e S with _ | ⟨x, S1⟩
  · rfl
  · simp only [ret_some]
    rcases pairsD x with _ | ps
    · rfl
    · simp only [opt_some]
      rw [ret_if]; rfl
/-! ### what is walked -/
section
variable {R : List D → List (Nat × O) → Sto → Prop}
@[simp] theorem w_rng (es : List Ex) : RetI (evalIt (.rng es) e S) R = Ret (evalEs es e S) fun ds S1 => Opt (rngI ds) fun xs => R xs [] S1 := by
  simp only [evalIt]
  rcases evalEs es e S with _ | ⟨x, S1⟩
  · rfl
  · simp only [ret_some]
    rcases rngI x with _ | b <;> rfl
@[simp] theorem w_wk (a : Ex) : RetI (evalIt (.wk a) e S) R = Ret (evalE a e S) fun x S1 => Opt (walkV x S1) fun p => R p.1 p.2 S1 := by
  simp only [evalIt]
  rcases evalE a e S with _ | ⟨x, S1⟩
  · rfl
  · simp only [ret_some]
    rcases walkV x S1 with _ | ⟨a, b⟩ <;> rfl
@[simp] theorem w_enum (a : Ex) : RetI (evalIt (.enum a) e S) R = Ret (evalE a e S) fun x S1 => Opt (enumI x S1) fun p => R p.1 p.2 S1 := by
  simp only [evalIt]
  rcases evalE a e S with _ | ⟨x, S1⟩
  · rfl
  · simp only [ret_some]
    rcases enumI x S1 with _ | ⟨a, b⟩ <;> rfl
@[simp] theorem w_zip (a b : Ex) : RetI (evalIt (.zip a b) e S) R = Ret (evalE a e S) fun x S1 => Ret (evalE b e S1) fun y S2 => Opt (zipI x y S2) fun p => R p.1 p.2 S2 := by
  simp only [evalIt]
  rcases evalE a e S with _ | ⟨x, S1⟩
  · rfl
  · simp only [ret_some]
    rcases evalE b e S1 with _ | ⟨y, S2⟩
    · rfl
    · simp only [ret_some]
      rcases zipI x y S2 with _ | ⟨a, b⟩ <;> rfl
@[simp] theorem w_enumz (a b : Ex) : RetI (evalIt (.enumz a b) e S) R = Ret (evalE a e S) fun x S1 => Ret (evalE b e S1) fun y S2 => Opt (zipT x y) fun xs => R (enumV xs) [] S2 := by
  simp only [evalIt]
  rcases evalE a e S with _ | ⟨x, S1⟩
  · rfl
  · simp only [ret_some]
    rcases evalE b e S1 with _ | ⟨y, S2⟩
    · rfl
    · simp only [ret_some]
      rcases zipT x y with _ | xs <;> rfl
end
/-! ### targets -/
section
variable {R : Env → Sto → Prop}
@[simp] theorem w_tgN (i : Nat) : Ret (bindT (.tgN i) d e S) R = R (e.set i (some d)) S := by simp [bindT]
@[simp] theorem w_tgT (ts : List Ex) : Ret (bindT (.tgT ts) d e S) R = Opt (itemsI S d) fun ds => Ret (bindTs ts ds e S) R := by
  simp only [bindT]
  rcases itemsI S d with _ | ds <;> rfl
@[simp] theorem w_tgS (o i : Ex) : Ret (bindT (.tgS o i) d e S) R = Ret (evalE o e S) fun x S1 => Ret (evalE i e S1) fun y S2 => Opt (setI S2 x y d) fun S3 => R e S3 := by
  simp only [bindT]
  rcases evalE o e S with _ | ⟨x, S1⟩
  · rfl
  · simp only [ret_some]
    rcases evalE i e S1 with _ | ⟨y, S2⟩
    · rfl
    · simp only [ret_some]
      rcases setI S2 x y d with _ | xs <;> rfl
@[simp] theorem w_ts0 : Ret (bindTs [] [] e S) R = R e S := by simp [bindTs]
@[simp] theorem w_ts1 (t : Ex) (ts : List Ex) (ds : List D) : Ret (bindTs (t :: ts) (d :: ds) e S) R = Ret (bindT t d e S) fun e1 S1 => Ret (bindTs ts ds e1 S1) R := by
  simp only [bindTs]
  rcases bindT t d e S with _ | ⟨x, S1⟩ <;> rfl
end
/-! ### statements -/
section
variable {R : Fl → Env → Sto → Prop}
@[simp] theorem w_asg (t x : Ex) : Run (execS (.asg t x) e S) R = Ret (evalE x e S) fun d S1 => Ret (bindT t d e S1) fun e1 S2 => R .nx e1 S2 := by
  simp only [execS]
  rcases evalE x e S with _ | ⟨x, S1⟩
  · rfl
  · simp only [ret_some]
    rcases bindT t x e S1 with _ | ⟨y, S2⟩ <;> rfl
@[simp] theorem w_ex (x : Ex) : Run (execS (.ex x) e S) R = Ret (evalE x e S) fun _ S1 => R .nx e S1 := by
  simp only [execS]
  rcases evalE x e S with _ | ⟨x, S1⟩ <;> rfl
@[simp] theorem w_ifs (c : Ex) (a b : List St) : Run (execS (.ife c a b) e S) R = Ret (evalE c e S) fun d S1 => Opt (tru S1 d) fun t => if t = true then Run (execSs a e S1) R else Run (execSs b e S1) R := by
  simp only [execS, thenT]
  rcases evalE c e S with _ | ⟨x, S1⟩
  · rfl
  · simp only [ret_some]
    rcases tru S1 x with _ | _ | _ <;> rfl
@[simp] theorem w_forS (t it : Ex) (b : List St) : Run (execS (.forS t it b) e S) R = RetI (evalIt it e S) fun xs g S1 => Run (forL (bindT t) (execSs b) g xs e S1) R := by
  simp only [execS]
  rcases evalIt it e S with _ | ⟨x, g, S1⟩ <;> rfl
@[simp] theorem w_wh (n : Nat) (c : Ex) (b : List St) : Run (execS (.wh n c b) e S) R = Run (whL (fun e S => thenT (evalE c e S)) (execSs b) n e S) R := by simp only [execS]
@[simp] theorem w_ret (x : Ex) : Run (execS (.ret x) e S) R = Ret (evalE x e S) fun d S1 => R (.rt d) e S1 := by
  simp only [execS]
  rcases evalE x e S with _ | ⟨x, S1⟩ <;> rfl
@[simp] theorem w_retN : Run (execS .retN e S) R = R (.rt .non) e S := by simp [execS]
@[simp] theorem w_brk : Run (execS .brk e S) R = R .brk e S := by simp [execS]
@[simp] theorem w_pass : Run (execS .pass e S) R = R .nx e S := by simp [execS]
@[simp] theorem w_ss0 : Run (execSs [] e S) R = R .nx e S := by simp [execSs]
/-- what is wanted behind a statement -/
def Then (ss : List St) (R : Fl → Env → Sto → Prop) : Fl → Env → Sto → Prop
  | .nx, e, S => Run (execSs ss e S) R
  | f, e, S => R f e S
@[simp] theorem then_nx (ss : List St) : Then ss R .nx e S = Run (execSs ss e S) R := rfl
@[simp] theorem then_brk (ss : List St) : Then ss R .brk e S = R .brk e S := rfl
@[simp] theorem then_rt (ss : List St) : Then ss R (.rt d) e S = R (.rt d) e S := rfl
@[simp] theorem w_ss1 (s : St) (ss : List St) : Run (execSs (s :: ss) e S) R = Run (execS s e S) (Then ss R) := by
  simp only [execSs]
  rcases execS s e S with _ | ⟨f, e1, S1⟩
  · rfl
  · cases f <;> rfl
end
/-! ### defs -/
/-- what comes of a def's body -/
def Back (Q : D → Sto → Prop) : Fl → Env → Sto → Prop
  | .rt d, _, S => Q d S
  | .nx, _, S => Q .non S
  | .brk, _, _ => False
@[simp] theorem back_rt (Q : D → Sto → Prop) : Back Q (.rt d) e S = Q d S := rfl
@[simp] theorem back_nx (Q : D → Sto → Prop) : Back Q .nx e S = Q .non S := rfl
theorem w_runF (n k : Nat) (body : List St) (ds : List D) : Ret (runF n k body ds S) Q = (ds.length = k ∧ Run (execSs body (ds.map some ++ List.replicate (n - k) none) S) (Back Q)) := by
  unfold runF
  rw [ret_if]
  congr 1
  rcases execSs body (ds.map some ++ List.replicate (n - k) none) S with _ | ⟨f, e1, S1⟩
  · rfl
  · cases f <;> rfl
/-- a call with things that refer to nothing, that gives such a thing -/
theorem call_pure {f : Fn} {ds : List D} (h : Ret (f ds []) fun d T => D.lo 0 d = true ∧ ∀ S, Q d S) (hd : D.los 0 ds = true) : Ret (callI f ds S) Q := by
  obtain ⟨d, T, e1, h1, h2⟩ := h.get
  unfold callI
  rw [if_pos hd, e1]
  simp only
  rw [if_pos h1]
  exact h2 S
end
end N
set_option autoImplicit false
set_option linter.all false
set_option maxRecDepth 100000
namespace N
section
variable {α β : Type} {S T : Sto} {e : Env} {d : D}
/-- T is S with more behind -/
def Ext (S T : Sto) : Prop := ∃ U, T = S ++ U
theorem Ext.refl (S : Sto) : Ext S S := ⟨[], by simp⟩
theorem Ext.app (S U : Sto) : Ext S (S ++ U) := ⟨U, rfl⟩
theorem Ext.trans {S T U : Sto} (a : Ext S T) (b : Ext T U) : Ext S U := by
  obtain ⟨x, rfl⟩ := a; obtain ⟨y, rfl⟩ := b; exact ⟨x ++ y, by simp⟩
theorem Ext.at {S T : Sto} {n : Nat} {o : O} (a : Ext S T) (h : S[n]? = some o) : T[n]? = some o := by
  obtain ⟨x, rfl⟩ := a
  rw [List.getElem?_append_left (List.getElem?_eq_some_iff.mp h).1]; exact h
theorem Ext.len {S T : Sto} (a : Ext S T) : S.length ≤ T.length := by obtain ⟨x, rfl⟩ := a; simp
@[simp] theorem last_at (S : Sto) (o : O) : (S ++ [o])[S.length]? = some o := by simp
/-! ### rows -/
abbrev row (r : List Int) : D := .tup (r.map .int)
abbrev rows (rs : List (List Int)) : D := .tup (rs.map row)
mutual
/-- without references, texts told -/
def D.flat : D → Bool
  | .non => true
  | .bl _ => true
  | .int _ => true
  | .str _ => true
  | .tup xs => D.flats xs
  | _ => false
def D.flats : List D → Bool
  | [] => true
  | x :: xs => D.flat x && D.flats xs
end
mutual
def D.deep : D → Nat
  | .tup xs => D.deeps xs + 1
  | _ => 0
def D.deeps : List D → Nat
  | [] => 0
  | x :: xs => max (D.deep x) (D.deeps xs)
end
mutual
theorem flat_lo (n : Nat) : ∀ d : D, d.flat = true → D.lo n d = true
  | .non, _ => rfl
  | .bl _, _ => rfl
  | .int _, _ => rfl
  | .str _, _ => rfl
  | .tup xs, h => flats_lo n xs h
  | .lst _, h => by cases h
  | .ref _, h => by cases h
  | .rep _, h => by cases h
theorem flats_lo (n : Nat) : ∀ ds : List D, D.flats ds = true → D.los n ds = true
  | [], _ => rfl
  | x :: xs, h => by
    have h := Bool.and_eq_true_iff.mp (show (D.flat x && D.flats xs) = true from h)
    show (D.lo n x && D.los n xs) = true
    rw [flat_lo n x h.1, flats_lo n xs h.2]; rfl
end
mutual
theorem flat_rd (S : Sto) : ∀ (d : D) (n : Nat), d.flat = true → d.deep ≤ n → rd n S d = some d
  | .non, n, _, _ => by cases n <;> rfl
  | .bl _, n, _, _ => by cases n <;> rfl
  | .int _, n, _, _ => by cases n <;> rfl
  | .str _, n, _, _ => by cases n <;> rfl
  | .tup xs, 0, h, hn => by simp [D.deep] at hn
  | .tup xs, n + 1, h, hn => by
    simp only [rd]
    rw [flats_rd S xs n h (by simp only [D.deep] at hn; omega)]; rfl
  | .lst _, _, h, _ => by cases h
  | .ref _, _, h, _ => by cases h
  | .rep _, _, h, _ => by cases h
theorem flats_rd (S : Sto) : ∀ (ds : List D) (n : Nat), D.flats ds = true → D.deeps ds ≤ n → mapO (rd n S) ds = some ds
  | [], _, _, _ => rfl
  | x :: xs, n, h, hn => by
    have h := Bool.and_eq_true_iff.mp (show (D.flat x && D.flats xs) = true from h)
    simp only [D.deeps] at hn
    simp only [mapO]
    rw [flat_rd S x n h.1 (by omega), flats_rd S xs n h.2 (by omega)]
end
theorem flats_all : ∀ {ds : List D}, (∀ d ∈ ds, d.flat = true) → D.flats ds = true
  | [], _ => rfl
  | x :: xs, h => by
    show (D.flat x && D.flats xs) = true
    rw [h x (by simp), flats_all fun d hd => h d (by simp [hd])]; rfl
theorem flats_map (f : α → D) (xs : List α) (h : ∀ x, (f x).flat = true) : D.flats (xs.map f) = true := flats_all fun d hd => by
  obtain ⟨x, _, rfl⟩ := List.mem_map.mp hd; exact h x
theorem deeps_le {n : Nat} : ∀ {ds : List D}, (∀ d ∈ ds, d.deep ≤ n) → D.deeps ds ≤ n
  | [], _ => Nat.zero_le _
  | x :: xs, h => by
    simp only [D.deeps]
    have := h x (by simp)
    have := deeps_le (n := n) (ds := xs) fun d hd => h d (by simp [hd])
    omega
theorem deeps_map {n : Nat} (f : α → D) (xs : List α) (h : ∀ x, (f x).deep ≤ n) : D.deeps (xs.map f) ≤ n := deeps_le fun d hd => by
  obtain ⟨x, _, rfl⟩ := List.mem_map.mp hd; exact h x
@[simp] theorem flat_row (r : List Int) : (row r).flat = true := flats_map _ _ fun _ => rfl
@[simp] theorem flats_ints (r : List Int) : D.flats (r.map .int) = true := flats_map _ _ fun _ => rfl
@[simp] theorem flats_rowsL (r : List (List Int)) : D.flats (r.map row) = true := flats_map _ _ fun r => flat_row r
theorem deep_row (r : List Int) : (row r).deep ≤ 1 := by
  simp only [D.deep]
  have : D.deeps (r.map .int) ≤ 0 := deeps_map _ _ fun _ => Nat.le_refl 0
  omega
@[simp] theorem flat_rows (rs : List (List Int)) : (rows rs).flat = true := flats_map _ _ fun r => flat_row r
theorem deep_rows (rs : List (List Int)) : (rows rs).deep ≤ 2 := by
  simp only [D.deep]
  have : D.deeps (rs.map row) ≤ 1 := deeps_map _ _ deep_row
  omega
mutual
theorem flat_okS : ∀ d : D, d.flat = true → (∀ s, d ≠ .str s) → (∀ xs, d = .tup xs → D.okSs xs = true) → D.okS d = true
  | .non, _, _, _ => rfl
  | .bl _, _, _, _ => rfl
  | .int _, _, _, _ => rfl
  | .str s, _, h, _ => absurd rfl (h s)
  | .tup xs, _, _, h => h xs rfl
  | .lst _, h, _, _ => by cases h
  | .ref _, h, _, _ => by cases h
  | .rep _, h, _, _ => by cases h
end
theorem okSs_all : ∀ {ds : List D}, (∀ d ∈ ds, D.okS d = true) → D.okSs ds = true
  | [], _ => rfl
  | x :: xs, h => by
    show (D.okS x && D.okSs xs) = true
    rw [h x (by simp), okSs_all fun d hd => h d (by simp [hd])]; rfl
@[simp] theorem okS_row (r : List Int) : D.okS (row r) = true := okSs_all fun d hd => by
  obtain ⟨x, _, rfl⟩ := List.mem_map.mp hd; rfl
@[simp] theorem okS_rows (rs : List (List Int)) : D.okS (rows rs) = true := okSs_all fun d hd => by
  obtain ⟨x, _, rfl⟩ := List.mem_map.mp hd; exact okS_row x
/-- the text of a tree: signs told, ints short, not too long -/
def D.rpOk (d : D) : Bool := D.okS d && (D.shw d && decide (D.bulk d ≤ 50000))
/-! ### loops -/
/-- a list comprehension whose parts leave the store as it is -/
theorem comp_map {bind : D → Env → Sto → Option (Env × Sto)} {c : Env → Sto → Option (Bool × Sto)} {elt : Env → Sto → RE} {g : List (Nat × O)} {S : Sto} {e : Env} (inj : β → D) (p : β → Bool) (f : β → D) (hg : guardOk S g = true) :
    ∀ ys : List β, (∀ y ∈ ys, Ret (bind (inj y) e S) fun e1 S1 => S1 = S ∧ Ret (c e1 S) fun b S2 => b = p y ∧ S2 = S ∧ (p y = true → Ret (elt e1 S) fun z S3 => z = f y ∧ S3 = S)) → compL bind c elt g e (ys.map inj) S = some ((ys.filter p).map f, S)
  | [], _ => by simp [compL, hg]
  | y :: ys, h => by
    have ih := comp_map inj p f hg ys fun z hz => h z (by simp [hz])
    obtain ⟨e1, S1, q1, rfl, q2⟩ := (h y (by simp)).get
    obtain ⟨b, S2, q3, rfl, rfl, q4⟩ := q2.get
    rw [List.map_cons]
    simp only [compL, hg, if_true, q1, q3]
    cases hb : p y with
    | false =>
      simp only
      rw [ih, List.filter_cons_of_neg (by simp [hb])]
    | true =>
      obtain ⟨z, S3, q5, rfl, rfl⟩ := (q4 hb).get
      simp only [q5]
      rw [ih, List.filter_cons_of_pos hb]
      rfl
/-- without a test -/
theorem comp_all {bind : D → Env → Sto → Option (Env × Sto)} {elt : Env → Sto → RE} {g : List (Nat × O)} {S : Sto} {e : Env} (inj : β → D) (f : β → D) (hg : guardOk S g = true) (ys : List β)
    (h : ∀ y ∈ ys, Ret (bind (inj y) e S) fun e1 S1 => S1 = S ∧ Ret (elt e1 S) fun z S3 => z = f y ∧ S3 = S) : compL bind (fun e S => thenT (evalE (.bl true) e S)) elt g e (ys.map inj) S = some (ys.map f, S) := by
  have q := comp_map (c := fun e S => thenT (evalE (.bl true) e S)) (elt := elt) inj (fun _ => true) f hg ys fun y hy => (h y hy).imp fun e1 S1 ⟨h1, h2⟩ => ⟨h1, by simpa [tru] using h2⟩
  rw [show ys.filter (fun _ => true) = ys from by simp] at q
  exact q
/-- a comprehension: what is left, what has been told, the store -/
theorem comp_inv {bind : D → Env → Sto → Option (Env × Sto)} {c : Env → Sto → Option (Bool × Sto)} {elt : Env → Sto → RE} {g : List (Nat × O)} {e : Env} (P : List D → List D → Sto → Prop)
    (hs : ∀ x xs acc S, P (x :: xs) acc S → guardOk S g = true ∧ Ret (bind x e S) fun e1 S1 => Ret (c e1 S1) fun b S2 => if b = true then Ret (elt e1 S2) fun z S3 => P xs (acc ++ [z]) S3 else P xs acc S2) (hg : ∀ acc S, P [] acc S → guardOk S g = true) :
    ∀ (xs acc : List D) (S : Sto) (Q : List D → Sto → Prop), P xs acc S → (∀ ys T, P [] (acc ++ ys) T → Q ys T) → Ret (compL bind c elt g e xs S) Q
  | [], acc, S, Q, h, k => by
    simp only [compL, hg acc S h, if_true]
    exact k [] S (by simpa using h)
  | x :: xs, acc, S, Q, h, k => by
    obtain ⟨h1, h2⟩ := hs x xs acc S h
    obtain ⟨e1, S1, q1, h3⟩ := h2.get
    obtain ⟨b, S2, q2, h4⟩ := h3.get
    simp only [compL, h1, if_true, q1, q2]
    cases b with
    | false =>
      simp only [Bool.false_eq_true, if_false] at h4
      exact comp_inv P hs hg xs acc S2 Q h4 k
    | true =>
      simp only [if_true] at h4
      obtain ⟨z, S3, q3, h5⟩ := h4.get
      simp only [q3]
      have ih := comp_inv P hs hg xs (acc ++ [z]) S3 (fun ys T => Q (z :: ys) T) h5 fun ys T h => k (z :: ys) T (by simpa using h)
      obtain ⟨ys, T, q4, h6⟩ := ih.get
      rw [q4]
      exact h6
/-- a loop: what is left, the names, the store -/
theorem for_inv {bind : D → Env → Sto → Option (Env × Sto)} {body : Env → Sto → RS} {g : List (Nat × O)} {R : Fl → Env → Sto → Prop} (P : List D → Env → Sto → Prop)
    (hs : ∀ x xs e S, P (x :: xs) e S → guardOk S g = true ∧ Ret (bind x e S) fun e1 S1 => Run (body e1 S1) fun f e2 S2 => match f with
      | .nx => P xs e2 S2
      | .brk => R .nx e2 S2
      | .rt d => R (.rt d) e2 S2) (hd : ∀ e S, P [] e S → guardOk S g = true ∧ R .nx e S) :
    ∀ (xs : List D) (e : Env) (S : Sto), P xs e S → Run (forL bind body g xs e S) R
  | [], e, S, h => by
    obtain ⟨h1, h2⟩ := hd e S h
    simp only [forL, h1, if_true]
    exact h2
  | x :: xs, e, S, h => by
    obtain ⟨h1, h2⟩ := hs x xs e S h
    obtain ⟨e1, S1, q1, h3⟩ := h2.get
    obtain ⟨f, e2, S2, q2, h4⟩ := h3.get
    simp only [forL, h1, if_true, q1, q2]
    cases f with
    | nx => exact for_inv P hs hd xs e2 S2 h4
    | brk => exact h4
    | rt d => exact h4
/-- a loop that looks for the first of its kind -/
theorem for_find {bind : D → Env → Sto → Option (Env × Sto)} {body : Env → Sto → RS} {g : List (Nat × O)} {S : Sto} (P : Env → Prop) (inj : β → D) (p : β → Bool) (r : β → D) (hg : guardOk S g = true) :
    ∀ (ys : List β), (∀ y ∈ ys, ∀ e, P e → Ret (bind (inj y) e S) fun e1 S1 => S1 = S ∧ Run (body e1 S) fun f e2 S2 => S2 = S ∧ P e2 ∧ f = if p y = true then .rt (r y) else .nx) →
    ∀ e, P e → Run (forL bind body g (ys.map inj) e S) fun f e2 S2 => S2 = S ∧ P e2 ∧ f = match ys.find? p with
      | some y => .rt (r y)
      | none => .nx
  | [], _, e, h => by simp [forL, hg, h]
  | y :: ys, hs, e, h => by
    obtain ⟨e1, S1, q1, rfl, h1⟩ := (hs y (by simp) e h).get
    obtain ⟨f, e2, S2, q2, rfl, h2, h3⟩ := h1.get
    rw [List.map_cons]
    simp only [forL, hg, if_true, q1, q2]
    cases hp : p y with
    | true =>
      rw [if_pos hp] at h3
      subst h3
      simp [List.find?_cons_of_pos hp, h2]
    | false =>
      rw [if_neg (by simp [hp])] at h3
      subst h3
      simp only
      rw [List.find?_cons_of_neg (by simp [hp])]
      exact for_find P inj p r hg ys (fun z hz => hs z (by simp [hz])) e2 h2
/-- a while: a measure, the names, the store -/
theorem wh_inv {c : Env → Sto → Option (Bool × Sto)} {body : Env → Sto → RS} {R : Fl → Env → Sto → Prop} (P : Nat → Env → Sto → Prop)
    (hs : ∀ m e S, P m e S → Ret (c e S) fun b S1 => if b = true then Run (body e S1) fun f e2 S2 => match f with
      | .nx => ∃ m', m' < m ∧ P m' e2 S2
      | .brk => R .nx e2 S2
      | .rt d => R (.rt d) e2 S2 else R .nx e S1) :
    ∀ (n m : Nat) (e : Env) (S : Sto), m < n → P m e S → Run (whL c body n e S) R
  | 0, m, e, S, hm, h => by omega
  | n + 1, m, e, S, hm, h => by
    obtain ⟨b, S1, q1, h1⟩ := (hs m e S h).get
    simp only [whL, q1]
    cases b with
    | false => simpa using h1
    | true =>
      simp only [if_true] at h1
      obtain ⟨f, e2, S2, q2, h2⟩ := h1.get
      simp only [q2]
      cases f with
      | nx =>
        obtain ⟨m', hm', h3⟩ := h2
        exact wh_inv P hs n m' e2 S2 (by omega) h3
      | brk => exact h2
      | rt d => exact h2
/-! ### what is walked -/
theorem enumV_map (f : α → D) (xs : List α) : enumV (xs.map f) = xs.zipIdx.map fun p => .tup [.int (p.2 : Nat), f p.1] := by
  unfold enumV
  rw [List.zipIdx_map, List.map_map]; rfl
theorem zipV_map (f : α → D) (g : β → D) (xs : List α) (ys : List β) : zipV (xs.map f) (ys.map g) = (xs.zip ys).map fun p => .tup [f p.1, g p.2] := by
  unfold zipV
  rw [List.zip_map, List.map_map]; rfl
@[simp] theorem guard_nil (S : Sto) : guardOk S [] = true := rfl
theorem rng_ok {n : Nat} (h : n ≤ 16777216) : rngI [.int n] = some ((List.range n).map fun k : Nat => .int k) := by
  have hl : (line : Nat) = 16777216 := rfl
  have e1 : decide ((-1000000000 : Int) ≤ n) = true := decide_eq_true (by omega)
  have e2 : decide ((n : Int) ≤ (line : Nat)) = true := decide_eq_true (by omega)
  simp only [rngI]
  rw [e1, e2]
  simp only [Bool.and_self, if_true, rngV]
  simp
theorem rng_neg {n : Int} (h : n ≤ 0) (h2 : -1000000000 ≤ n) : rngI [.int n] = some [] := by
  have hl : (line : Nat) = 16777216 := rfl
  have e1 : decide ((-1000000000 : Int) ≤ n) = true := decide_eq_true h2
  have e2 : decide ((n : Int) ≤ (line : Nat)) = true := decide_eq_true (by omega)
  simp only [rngI]
  rw [e1, e2]
  simp only [Bool.and_self, if_true, rngV]
  simp
  omega
theorem ixN_ok {n i : Nat} (h : i < n) : ixN n (i : Int) = some i := by
  unfold ixN
  rw [if_pos (by omega), if_pos (by omega)]; simp
theorem ixN_last {n : Nat} (h : 0 < n) : ixN n (-1) = some (n - 1) := by
  unfold ixN
  rw [if_neg (by omega), if_pos (by omega)]; congr 1; omega
mutual
theorem flat_shift (n : Nat) : ∀ d : D, d.flat = true → D.shift n d = d
  | .non, _ => rfl
  | .bl _, _ => rfl
  | .int _, _ => rfl
  | .str _, _ => rfl
  | .tup xs, h => by simp only [D.shift]; rw [flats_shift n xs h]
  | .lst _, h => by cases h
  | .ref _, h => by cases h
  | .rep _, h => by cases h
theorem flats_shift (n : Nat) : ∀ ds : List D, D.flats ds = true → D.shifts n ds = ds
  | [], _ => rfl
  | x :: xs, h => by
    have h := Bool.and_eq_true_iff.mp (show (D.flat x && D.flats xs) = true from h)
    simp only [D.shifts]
    rw [flat_shift n x h.1, flats_shift n xs h.2]
end
/-- a call with things that refer to nothing -/
theorem call_free {f : Fn} {ds : List D} {Q : D → Sto → Prop} (hd : D.los 0 ds = true) (h : Ret (f ds []) fun d T => (D.lo 0 d = true → Q d S) ∧ (D.lo 0 d = false → Q (D.shift S.length d) (S ++ T.map (O.shift S.length)))) : Ret (callI f ds S) Q := by
  obtain ⟨d, T, e1, h1, h2⟩ := h.get
  unfold callI
  rw [if_pos hd, e1]
  simp only
  cases hl : D.lo 0 d with
  | true => simp only [if_true]; exact h1 hl
  | false => simp only [Bool.false_eq_true, if_false]; exact h2 hl
theorem shift_at {S T : Sto} {k : Nat} {xs : List D} (h : T[k]? = some (.lst xs)) (hf : D.flats xs = true) : (S ++ T.map (O.shift S.length))[k + S.length]? = some (.lst xs) := by
  rw [List.getElem?_append_right (by omega), show k + S.length - S.length = k by omega, List.getElem?_map, h]
  show some (O.lst (D.shifts S.length xs)) = _
  rw [flats_shift _ _ hf]
/-- a call that gives a flat thing, whatever the store -/
theorem call_flat {f : Fn} {ds : List D} {d : D} {Q : D → Sto → Prop} (hd : D.flats ds = true) (hf : d.flat = true) (h : Ret (f ds []) fun z _ => z = d) (k : Q d S) : Ret (callI f ds S) Q :=
  call_free (flats_lo 0 _ hd) (h.imp fun z T e => by
    subst e
    exact ⟨fun _ => k, fun q => by rw [flat_lo 0 _ hf] at q; cases q⟩)
theorem ret_of {α : Type} {r : Option (α × Sto)} {a : α} (h : Ret r fun z _ => z = a) : ∃ T, r = some (a, T) := by
  obtain ⟨z, T, e, rfl⟩ := h.get
  exact ⟨T, e⟩
@[simp] theorem rd_int (S : Sto) (n : Nat) (i : Int) : rd n S (.int i) = some (.int i) := by cases n <;> rfl
theorem rd_row (S : Sto) (r : List Int) : rd RD S (row r) = some (row r) := flat_rd S _ _ (flat_row r) (Nat.le_trans (deep_row r) (by decide))
theorem rd_rows (S : Sto) (rs : List (List Int)) : rd RD S (rows rs) = some (rows rs) := flat_rd S _ _ (flat_rows rs) (Nat.le_trans (deep_rows rs) (by decide))
theorem intsD_map : ∀ r : List Int, intsD (r.map .int) = some r
  | [] => rfl
  | x :: xs => by simp only [List.map_cons, intsD]; rw [intsD_map xs]; rfl
theorem boolsD_map : ∀ r : List Bool, boolsD (r.map .bl) = some r
  | [] => rfl
  | x :: xs => by simp only [List.map_cons, boolsD]; rw [boolsD_map xs]; rfl
theorem any_int (x : Int) : ∀ r : List Int, ((r.map D.int).any fun y => D.pyeq y (.int x)) = decide (x ∈ r)
  | [] => by simp
  | y :: ys => by
    rw [List.map_cons, List.any_cons, any_int x ys]
    simp only [D.pyeq, List.mem_cons]
    by_cases h : y = x
    · simp [h]
    · have : x ≠ y := fun e => h e.symm
      simp [h, this]
theorem in_row (S : Sto) (x : Int) (r : List Int) : inI S (.int x) (row r) = some (decide (x ∈ r)) := by
  show (match rd RD S (row r), rd RD S (.int x) with
    | some (.tup ts), some t => if D.okSs ts && D.okS t then some (ts.any fun y => D.pyeq y t) else none
    | _, _ => none) = _
  rw [rd_row, rd_int]
  have h : D.okSs (r.map .int) = true := okS_row r
  simp only [h, D.okS, Bool.and_self, if_true, any_int]
mutual
theorem pyeq_self : ∀ d : D, d.flat = true → D.pyeq d d = true
  | .non, _ => rfl
  | .bl _, _ => by simp [D.pyeq]
  | .int _, _ => by simp [D.pyeq]
  | .str _, _ => by simp [D.pyeq]
  | .tup xs, h => pyeqs_self xs h
  | .lst _, h => by cases h
  | .ref _, h => by cases h
  | .rep _, h => by cases h
theorem pyeqs_self : ∀ ds : List D, D.flats ds = true → D.pyeqs ds ds = true
  | [], _ => rfl
  | x :: xs, h => by
    have h := Bool.and_eq_true_iff.mp (show (D.flat x && D.flats xs) = true from h)
    show (D.pyeq x x && D.pyeqs xs xs) = true
    rw [pyeq_self x h.1, pyeqs_self xs h.2]; rfl
end
theorem pyeqs_ints : ∀ a b : List Int, D.pyeqs (a.map .int) (b.map .int) = decide (a = b)
  | [], [] => by simp [D.pyeqs]
  | [], _ :: _ => by simp [D.pyeqs]
  | _ :: _, [] => by simp [D.pyeqs]
  | x :: xs, y :: ys => by
    simp only [List.map_cons, D.pyeqs, D.pyeq]
    rw [pyeqs_ints xs ys]
    by_cases h : x = y <;> by_cases h2 : xs = ys <;> simp [h, h2]
theorem eq_row (S : Sto) (a b : List Int) : eqV S (row a) (row b) = some (decide (a = b)) := by
  show (match rd RD S (row a), rd RD S (row b) with
    | some x, some y => if D.okS x && D.okS y then some (D.pyeq x y) else none
    | _, _ => none) = _
  rw [rd_row, rd_row]
  have h1 : D.okS (row a) = true := okS_row a
  have h2 : D.okS (row b) = true := okS_row b
  simp only [h1, h2, Bool.and_self, if_true]
  show some (D.pyeqs (a.map .int) (b.map .int)) = _
  rw [pyeqs_ints]
end
end N
set_option autoImplicit false
set_option linter.all false
set_option maxRecDepth 100000
namespace N
section
variable {α β : Type} {S T : Sto} {e : Env} {d : D}
theorem okS_strs : ∀ {ws : List (List Nat)}, ws.all okStr = true → D.okSs (ws.map .str) = true
  | [], _ => rfl
  | w :: ws, h => by
    have h := Bool.and_eq_true_iff.mp (show (okStr w && ws.all okStr) = true from h)
    show (okStr w && D.okSs (ws.map .str)) = true
    rw [h.1, okS_strs h.2]; rfl
theorem any_str (x : List Nat) : ∀ ws : List (List Nat), ((ws.map D.str).any fun y => D.pyeq y (.str x)) = decide (x ∈ ws)
  | [] => by simp
  | y :: ys => by
    rw [List.map_cons, List.any_cons, any_str x ys]
    simp only [D.pyeq, List.mem_cons]
    by_cases h : y = x
    · simp [h]
    · have : x ≠ y := fun e => h e.symm
      simp [h, this]
theorem in_strs (S : Sto) (x : List Nat) (ws : List (List Nat)) (h : okStr x = true) (hs : ws.all okStr = true) : inI S (.str x) (.tup (ws.map .str)) = some (decide (x ∈ ws)) := by
  have hf : D.flats (ws.map D.str) = true := flats_map _ _ fun _ => rfl
  have hd : (D.tup (ws.map D.str)).deep ≤ RD := by
    simp only [D.deep]
    have : D.deeps (ws.map D.str) ≤ 0 := deeps_map _ _ fun _ => Nat.le_refl 0
    have hr : RD = 60 := rfl
    omega
  have e1 : rd RD S (.tup (ws.map D.str)) = some (.tup (ws.map D.str)) := flat_rd S _ _ hf hd
  have e2 : rd RD S (.str x) = some (.str x) := rfl
  show (match rd RD S (.tup (ws.map D.str)), rd RD S (.str x) with
    | some (.tup ts), some t => if D.okSs ts && D.okS t then some (ts.any fun y => D.pyeq y t) else none
    | _, _ => none) = _
  rw [e1, e2]
  have h2 : D.okS (.str x) = true := h
  simp only [okS_strs hs, h2, Bool.and_self, if_true, any_str]
/-- a row, a place in it -/
theorem idx_row (S : Sto) {r : List Int} {i : Nat} (h : i < r.length) : idxI S (row r) (.int (i : Nat)) = some (.int (r.getD i 0)) := by
  show (ixN (r.map D.int).length (i : Int)).bind (fun j => (r.map D.int)[j]?) = _
  rw [ixN_ok (by simpa using h)]
  simp [List.getD_eq_getElem?_getD, List.getElem?_eq_getElem h]
theorem idx_tup (S : Sto) {f : α → D} {r : List α} {i : Nat} {x : α} (h : r[i]? = some x) : idxI S (.tup (r.map f)) (.int (i : Nat)) = some (f x) := by
  have hi := (List.getElem?_eq_some_iff.mp h).1
  show (ixN (r.map f).length (i : Int)).bind (fun j => (r.map f)[j]?) = _
  rw [ixN_ok (by simpa using hi)]
  simp [h]
theorem idx_last (S : Sto) {f : α → D} {r : List α} {x : α} (h : r.getLast? = some x) : idxI S (.tup (r.map f)) (.int (-1)) = some (f x) := by
  have hp : 0 < r.length := by
    cases r with
    | nil => cases h
    | cons a as => simp
  show (ixN (r.map f).length (-1)).bind (fun j => (r.map f)[j]?) = _
  rw [ixN_last (by simpa using hp)]
  simp only [List.length_map, Option.bind_some, List.getElem?_map]
  rw [List.getLast?_eq_getElem?] at h
  rw [h]; rfl
theorem idx_lst (S : Sto) {n : Nat} {xs : List D} {i : Nat} {x : D} (h : S[n]? = some (.lst xs)) (hx : xs[i]? = some x) : idxI S (.ref n) (.int (i : Nat)) = some x := by
  have hi := (List.getElem?_eq_some_iff.mp hx).1
  simp only [idxI, h]
  rw [ixN_ok hi]
  exact hx
/-! ### what things are -/
@[simp] theorem tru_bl (b : Bool) : tru S (.bl b) = some b := rfl
@[simp] theorem tru_int (i : Int) : tru S (.int i) = some (decide (i ≠ 0)) := rfl
@[simp] theorem tru_non : tru S .non = some false := rfl
@[simp] theorem eq_int (i j : Int) : eqV S (.int i) (.int j) = some (decide (i = j)) := rfl
@[simp] theorem eq_str (i j : List Nat) : eqV S (.str i) (.str j) = some (decide (i = j)) := rfl
@[simp] theorem eq_bl (i j : Bool) : eqV S (.bl i) (.bl j) = some (decide (i = j)) := rfl
@[simp] theorem cmp_eq (x y : D) : cmpI S .eq x y = eqV S x y := rfl
@[simp] theorem cmp_ne (x y : D) : cmpI S .ne x y = (eqV S x y).map (!·) := rfl
@[simp] theorem cmp_in (x y : D) : cmpI S .inn x y = inI S x y := rfl
@[simp] theorem cmp_nin (x y : D) : cmpI S .nin x y = (inI S x y).map (!·) := rfl
@[simp] theorem cmp_lt (i j : Int) : cmpI S .lt (.int i) (.int j) = some (decide (i < j)) := rfl
@[simp] theorem cmp_le (i j : Int) : cmpI S .le (.int i) (.int j) = some (decide (i ≤ j)) := rfl
@[simp] theorem cmp_gt (i j : Int) : cmpI S .gt (.int i) (.int j) = some (decide (j < i)) := rfl
@[simp] theorem cmp_ge (i j : Int) : cmpI S .ge (.int i) (.int j) = some (decide (j ≤ i)) := rfl
theorem cmp_is (x : D) : cmpI S .is x .non = some (decide (x = .non)) := by cases x <;> rfl
theorem cmp_isnt (x : D) : cmpI S .isnt x .non = some (!decide (x = .non)) := by cases x <;> rfl
@[simp] theorem cmp_isb (x y : Bool) : cmpI S .is (.bl x) (.bl y) = some (decide (x = y)) := by simp [cmpI]
@[simp] theorem cmp_isntb (x y : Bool) : cmpI S .isnt (.bl x) (.bl y) = some (!decide (x = y)) := by simp [cmpI]
@[simp] theorem b_add (i j : Int) : binI S .add (.int i) (.int j) = some (.int (i + j), S) := rfl
@[simp] theorem b_sub (i j : Int) : binI S .sub (.int i) (.int j) = some (.int (i - j), S) := rfl
@[simp] theorem b_mul (i j : Int) : binI S .mul (.int i) (.int j) = if mulOk i j then some (.int (i * j), S) else none := rfl
@[simp] theorem b_fdiv (i j : Int) : binI S .fdiv (.int i) (.int j) = if divOk j then some (.int (i / j), S) else none := rfl
@[simp] theorem b_mod (i j : Int) : binI S .mod (.int i) (.int j) = if decide (0 < j) then some (.int (i % j), S) else none := rfl
@[simp] theorem b_tadd (x y : List D) : binI S .add (.tup x) (.tup y) = if x.length + y.length ≤ line then some (.tup (x ++ y), S) else none := rfl
@[simp] theorem bl_len (ds : List D) : bltI S .len ds = lenI S ds := rfl
@[simp] theorem bl_abs (ds : List D) : bltI S .abs ds = absI S ds := rfl
@[simp] theorem bl_all (ds : List D) : bltI S .all ds = allB S ds := rfl
@[simp] theorem bl_int (ds : List D) : bltI S .int ds = intB S ds := rfl
@[simp] theorem bl_tuple (ds : List D) : bltI S .tuple ds = tupB S ds := rfl
@[simp] theorem bl_list (ds : List D) : bltI S .list ds = lstB S ds := rfl
@[simp] theorem bl_sorted (ds : List D) : bltI S .sorted ds = srtB S ds := rfl
@[simp] theorem bl_repr (ds : List D) : bltI S .repr ds = repB S ds := rfl
@[simp] theorem bl_sum (ds : List D) : bltI S .sum ds = sumB S ds := rfl
@[simp] theorem bl_isi (t : Ty) (ds : List D) : bltI S (.isi t) ds = isiB S t ds := rfl
@[simp] theorem bl_ftuple (ds : List D) : bltI S .ftuple ds = ftpB S ds := rfl
@[simp] theorem len_tup (xs : List D) : lenI S [.tup xs] = some (.int xs.length, S) := rfl
theorem len_lst {n : Nat} {xs : List D} (h : S[n]? = some (.lst xs)) : lenI S [.ref n] = some (.int xs.length, S) := by simp only [lenI, h]
@[simp] theorem abs_int (i : Int) : absI S [.int i] = some (.int (if i < 0 then -i else i), S) := rfl
@[simp] theorem intB_int (i : Int) : intB S [.int i] = some (.int i, S) := rfl
@[simp] theorem intB_bl (b : Bool) : intB S [.bl b] = some (.int (if b then 1 else 0), S) := rfl
@[simp] theorem walk_tup (xs : List D) : walkV (.tup xs) S = some (xs, []) := rfl
@[simp] theorem enum_tup (xs : List D) : enumI (.tup xs) S = some (enumV xs, []) := rfl
@[simp] theorem zip_tup (xs ys : List D) : zipI (.tup xs) (.tup ys) S = some (zipV xs ys, []) := rfl
@[simp] theorem items_tup (xs : List D) : itemsI S (.tup xs) = some xs := rfl
theorem items_lst {n : Nat} {xs : List D} (h : S[n]? = some (.lst xs)) : itemsI S (.ref n) = some xs := by simp only [itemsI, h]
theorem walk_lst {n : Nat} {xs : List D} (h : S[n]? = some (.lst xs)) : walkV (.ref n) S = some (xs, [(n, .lst xs)]) := by simp only [walkV, rowV, h]
theorem guard_one' {n : Nat} {o : O} (h : S[n]? = some o) : guardOk S [(n, o)] = true := by simp [guardOk, h]
theorem set_row (S : Sto) (r : List Int) (h : r.length ≤ 4000) : setlenI S (row r) = some (nub r).length := by
  simp only [setlenI, items_tup, intsD_map, h, decide_true, if_true]
theorem nub_le {α : Type} [DecidableEq α] : ∀ xs : List α, (nub xs).length ≤ xs.length
  | [] => Nat.le_refl _
  | x :: xs => by
    have := nub_le xs
    unfold nub
    split
    · simp only [List.length_cons]; omega
    · simp only [List.length_cons]; omega
theorem rd_lst {n m : Nat} {xs : List D} (h : S[n]? = some (.lst xs)) (hf : D.flats xs = true) (hd : D.deeps xs ≤ m) : rd (m + 1) S (.ref n) = some (.lst xs) := by
  simp only [rd, h]
  rw [flats_rd S xs m hf hd]; rfl
theorem eq_lst {n m : Nat} {xs ys : List D} (h : S[n]? = some (.lst xs)) (h2 : S[m]? = some (.lst ys)) (hf : D.flats xs = true) (hf2 : D.flats ys = true) (hd : D.deeps xs ≤ 59) (hd2 : D.deeps ys ≤ 59) (o : D.okSs xs = true) (o2 : D.okSs ys = true) :
    eqV S (.ref n) (.ref m) = some (D.pyeqs xs ys) := by
  show (match rd RD S (.ref n), rd RD S (.ref m) with
    | some x, some y => if D.okS x && D.okS y then some (D.pyeq x y) else none
    | _, _ => none) = _
  rw [rd_lst h hf hd, rd_lst h2 hf2 hd2]
  have a1 : D.okS (.lst xs) = true := o
  have a2 : D.okS (.lst ys) = true := o2
  simp only [a1, a2, Bool.and_self, if_true]
  rfl
theorem okSs_ints (r : List Int) : D.okSs (r.map .int) = true := okS_row r
/-- xs == [], ints -/
theorem eq_nil {n m : Nat} {r : List Int} (h : S[n]? = some (.lst (r.map .int))) (h2 : S[m]? = some (.lst [])) : eqV S (.ref n) (.ref m) = some r.isEmpty := by
  rw [eq_lst h h2 (flats_map _ _ fun _ => rfl) rfl (Nat.le_trans (deeps_map (n := 0) _ _ fun _ => Nat.le_refl 0) (by decide)) (by decide) (okSs_ints r) rfl]
  cases r <;> rfl
theorem pyeqs_rows : ∀ a b : List (List Int), D.pyeqs (a.map row) (b.map row) = decide (a = b)
  | [], [] => by simp [D.pyeqs]
  | [], _ :: _ => by simp [D.pyeqs]
  | _ :: _, [] => by simp [D.pyeqs]
  | x :: xs, y :: ys => by
    simp only [List.map_cons, D.pyeqs]
    rw [pyeqs_rows xs ys]
    show (D.pyeqs (x.map .int) (y.map .int) && _) = _
    rw [pyeqs_ints]
    by_cases h : x = y <;> by_cases h2 : xs = ys <;> simp [h, h2]
theorem eq_rows (S : Sto) (a b : List (List Int)) : eqV S (rows a) (rows b) = some (decide (a = b)) := by
  show (match rd RD S (rows a), rd RD S (rows b) with
    | some x, some y => if D.okS x && D.okS y then some (D.pyeq x y) else none
    | _, _ => none) = _
  rw [rd_rows, rd_rows]
  have h1 : D.okS (rows a) = true := okS_rows a
  have h2 : D.okS (rows b) = true := okS_rows b
  simp only [h1, h2, Bool.and_self, if_true]
  show some (D.pyeqs (a.map row) (b.map row)) = _
  rw [pyeqs_rows]
theorem in_two (S : Sto) {x y z : List Nat} (h : (okStr x && (okStr y && okStr z)) = true) : inI S (.str x) (.tup [.str y, .str z]) = some (decide (x = y ∨ x = z)) := by
  obtain ⟨h1, h2⟩ := Bool.and_eq_true_iff.mp h
  obtain ⟨h2, h3⟩ := Bool.and_eq_true_iff.mp h2
  have := in_strs S x [y, z] h1 (by simp [h2, h3])
  simpa using this
theorem zipIdx_eq {a : List Int} : a.zipIdx = (List.range a.length).map fun k => (a.getD k 0, k) := by
  apply List.ext_getElem
  · simp
  · intro i h1 h2
    have hi : i < a.length := by simpa using h1
    simp [List.getD_eq_getElem?_getD, List.getElem?_eq_getElem hi]
/-- a loop that leads a state on; the first number says how many turns are done, of m -/
theorem for_fold {γ : Type} {bind : D → Env → Sto → Option (Env × Sto)} {body : Env → Sto → RS} {g : List (Nat × O)} (m : Nat) (st : Nat → γ → Env → Sto → Prop) (inj : β → D) (f : γ → β → γ) (hg : ∀ i s e S, st i s e S → guardOk S g = true) :
    ∀ (ys : List β) (i : Nat), i + ys.length = m → (∀ y ∈ ys, ∀ i s e S, i < m → st i s e S → Ret (bind (inj y) e S) fun e1 S1 => Run (body e1 S1) fun fl e2 S2 => fl = .nx ∧ st (i + 1) (f s y) e2 S2) →
    ∀ s e S, st i s e S → Run (forL bind body g (ys.map inj) e S) fun fl e2 S2 => fl = .nx ∧ st m (ys.foldl f s) e2 S2
  | [], i, hm, _, s, e, S, h => by
    have : i = m := by simpa using hm
    subst this
    simp [forL, hg i s e S h, h]
  | y :: ys, i, hm, hs, s, e, S, h => by
    have hm : i + (ys.length + 1) = m := hm
    obtain ⟨e1, S1, q1, h1⟩ := (hs y (by simp) i s e S (by omega) h).get
    obtain ⟨fl, e2, S2, q2, rfl, h2⟩ := h1.get
    rw [List.map_cons]
    simp only [forL, hg i s e S h, if_true, q1, q2]
    exact for_fold m st inj f hg ys (i + 1) (by omega) (fun z hz => hs z (by simp [hz])) (f s y) e2 S2 h2
/-- a call that gives a new list of flat things -/
theorem call_list {f : Fn} {ds xs : List D} {Q : D → Sto → Prop} (hd : D.los 0 ds = true) (hx : D.flats xs = true) (h : Ret (f ds []) fun d T => ∃ k, d = .ref k ∧ T[k]? = some (.lst xs)) (k : ∀ T k, Ext S T → T[k]? = some (.lst xs) → Q (.ref k) T) : Ret (callI f ds S) Q :=
  call_free hd (h.imp fun d T ⟨n, e, ht⟩ => by
    subst e
    refine ⟨fun q => by simp [D.lo] at q, fun _ => ?_⟩
    exact k _ _ (Ext.app _ _) (shift_at ht hx))
/-- S' is S but for what stands at ws -/
def Keep (ws : List Nat) (S S' : Sto) : Prop := S.length ≤ S'.length ∧ ∀ n, n ∉ ws → n < S.length → S'[n]? = S[n]?
theorem Keep.refl (ws : List Nat) (S : Sto) : Keep ws S S := ⟨Nat.le_refl _, fun _ _ _ => rfl⟩
theorem Keep.trans {ws : List Nat} {S T U : Sto} (a : Keep ws S T) (b : Keep ws T U) : Keep ws S U := ⟨Nat.le_trans a.1 b.1, fun n h hl => (b.2 n h (Nat.lt_of_lt_of_le hl a.1)).trans (a.2 n h hl)⟩
theorem Keep.at {ws : List Nat} {S T : Sto} {n : Nat} {o : O} (a : Keep ws S T) (h : S[n]? = some o) (hn : n ∉ ws) : T[n]? = some o := by
  rw [a.2 n hn (List.getElem?_eq_some_iff.mp h).1]; exact h
theorem Keep.ext {ws : List Nat} {S T : Sto} (a : Ext S T) : Keep ws S T := by
  obtain ⟨U, rfl⟩ := a
  exact ⟨by simp, fun n _ hl => List.getElem?_append_left hl⟩
theorem Keep.set {ws : List Nat} {S : Sto} {n : Nat} {o : O} (h : n ∈ ws) : Keep ws S (S.set n o) := ⟨by simp, fun m hm _ => List.getElem?_set_ne (fun e => hm (by rw [← e]; exact h))⟩
theorem Keep.take {ws : List Nat} {S T : Sto} (a : Keep ws S T) : Keep ws S (T.take S.length) := ⟨by rw [List.length_take]; have := a.1; omega, fun n h hl => by rw [List.getElem?_take_of_lt hl]; exact a.2 n h hl⟩
/-- a call that is handed references -/
theorem call_ref {f : Fn} {ds : List D} {Q : D → Sto → Prop} (hd : D.los 0 ds = false) (h : Ret (f ds S) fun d T => Q d T ∧ (D.lo S.length d = true → Q d (T.take S.length))) : Ret (callI f ds S) Q := by
  obtain ⟨d, T, e1, h1, h2⟩ := h.get
  unfold callI
  rw [if_neg (by simp [hd]), e1]
  simp only
  split
  · rename_i c
    exact h2 (Bool.and_eq_true_iff.mp c).1
  · exact h1
theorem app_lst {n : Nat} {xs : List D} {x : D} (h : S[n]? = some (.lst xs)) (hl : xs.length < 16777216) : methI S .append (.ref n) [x] = some (.non, S.set n (.lst (xs ++ [x]))) := by
  have hz : (line : Nat) = 16777216 := rfl
  simp only [methI, appM, h]
  rw [if_pos (by rw [decide_eq_true_eq]; omega)]
theorem methT_lst {n : Nat} {xs : List D} {m : Mth} (h : S[n]? = some (.lst xs)) (hm : m ≠ .get ∧ m ≠ .tcount ∧ m ≠ .tindex) : methT S m (.ref n) = true := by
  simp only [methT, h]
  exact decide_eq_true hm
theorem set_at {S : Sto} {n : Nat} {o u : O} (h : S[n]? = some o) : (S.set n u)[n]? = some u := List.getElem?_set_self (List.getElem?_eq_some_iff.mp h).1
theorem sl_rev (xs : List D) : slcI S (.tup xs) .non .non (.int (-1)) = some (.tup xs.reverse, S) := by simp [slcI, optI, slc]
theorem sl_from (xs : List D) {i : Int} (h : 0 ≤ i) : slcI S (.tup xs) (.int i) .non .non = some (.tup (xs.drop (min i.toNat xs.length)), S) := by
  simp only [slcI, optI, slc, cut, sIx]
  rw [if_neg (by omega)]
  congr 3
  rw [List.take_of_length_le (by simp)]
theorem sl_to (xs : List D) {i : Int} (h : 0 ≤ i) : slcI S (.tup xs) .non (.int i) .non = some (.tup (xs.take (min i.toNat xs.length)), S) := by
  simp only [slcI, optI, slc, cut, sIx]
  rw [if_neg (by omega)]
  simp
theorem sl_lrev {n : Nat} {xs : List D} (h : S[n]? = some (.lst xs)) : slcI S (.ref n) .non .non (.int (-1)) = some (.ref S.length, S ++ [.lst xs.reverse]) := by simp [slcI, optI, slc, h, new]
theorem divOk_nat {n : Nat} (h : 0 < n) (h2 : n < 18446744073709551616) : divOk (n : Int) = true := by
  unfold divOk
  have : (n : Int).natAbs = n := by simp
  rw [this]
  have h3 : n.log2 < 64 := (Nat.log2_lt (by omega)).mpr h2
  have h3 : n.log2 < 9000 := by omega
  simp [h3]
  omega
theorem mulOk_l {i j : Int} (h : i.natAbs < 18446744073709551616) : mulOk i j = true := by simp [mulOk, h]
theorem mulOk_r {i j : Int} (h : j.natAbs < 18446744073709551616) : mulOk i j = true := by simp [mulOk, h]
theorem zipL {m n : Nat} {xs ys : List D} (h : S[m]? = some (.lst xs)) (h2 : S[n]? = some (.lst ys)) : zipI (.ref m) (.ref n) S = some (zipV xs ys, [(m, .lst xs)] ++ [(n, .lst ys)]) := by simp only [zipI, rowV, h, h2]
theorem guard_two {m n : Nat} {o u : O} (h : S[m]? = some o) (h2 : S[n]? = some u) : guardOk S ([(m, o)] ++ [(n, u)]) = true := by simp [guardOk, h, h2]
theorem add_lst {m n : Nat} {xs ys : List D} (h : S[m]? = some (.lst xs)) (h2 : S[n]? = some (.lst ys)) (hl : xs.length + ys.length ≤ 16777216) : binI S .add (.ref m) (.ref n) = some (.ref S.length, S ++ [.lst (xs ++ ys)]) := by
  have hz : (line : Nat) = 16777216 := rfl
  simp only [binI, h, h2, new]
  rw [if_pos (by omega)]
theorem tup_lst {n : Nat} {xs : List D} (h : S[n]? = some (.lst xs)) : tupB S [.ref n] = some (.tup xs, S) := by simp [tupB, items_lst h]
theorem pop_last {n : Nat} {xs : List D} {x : D} (h : S[n]? = some (.lst (xs ++ [x]))) : methI S .pop (.ref n) [] = some (x, S.set n (.lst xs)) := by
  simp [methI, popM, h]
theorem pop_ix {n j : Nat} {xs : List D} {x : D} (h : S[n]? = some (.lst xs)) (hx : xs[j]? = some x) : methI S .pop (.ref n) [.int (j : Nat)] = some (x, S.set n (.lst (xs.eraseIdx j))) := by
  have hj := (List.getElem?_eq_some_iff.mp hx).1
  simp only [methI, popM, h]
  rw [ixN_ok hj]
  simp only [hx]
theorem set_lst {n j : Nat} {xs : List D} {v : D} (h : S[n]? = some (.lst xs)) (hj : j < xs.length) : setI S (.ref n) (.int (j : Nat)) v = some (S.set n (.lst (xs.set j v))) := by
  simp only [setI, h]
  rw [ixN_ok hj]; rfl
@[simp] theorem b_pow (i j : Int) : binI S .pow (.int i) (.int j) = if powOk i j then some (.int (i ^ j.toNat), S) else none := rfl
theorem snoc {α : Type} (xs : List α) : xs = [] ∨ ∃ ys y, xs = ys ++ [y] := by
  rcases List.eq_nil_or_concat xs with h | ⟨ys, y, h⟩
  · exact .inl h
  · exact .inr ⟨ys, y, by simpa using h⟩
theorem at_ne {S : Sto} {n m : Nat} {o u : O} (h : S[n]? = some o) (hn : m ≠ n) : (S.set m u)[n]? = some o := by rw [List.getElem?_set_ne hn]; exact h
theorem ints_inj : ∀ {xs ys : List Int}, xs.map D.int = ys.map D.int → xs = ys
  | [], [], _ => rfl
  | [], _ :: _, h => by simp at h
  | _ :: _, [], h => by simp at h
  | x :: xs, y :: ys, h => by
    simp only [List.map_cons, List.cons.injEq, D.int.injEq] at h
    rw [h.1, ints_inj h.2]
theorem eraseIdx_map' (f : α → β) : ∀ (xs : List α) (j : Nat), (xs.map f).eraseIdx j = (xs.eraseIdx j).map f
  | [], _ => by simp
  | x :: xs, 0 => by simp
  | x :: xs, j + 1 => by simp [eraseIdx_map' f xs j]
/-! ### dicts whose keys are rows -/
theorem eqvs_ints : ∀ a b : List Int, D.eqvs (a.map .int) (b.map .int) = decide (a = b)
  | [], [] => by simp [D.eqvs]
  | [], _ :: _ => by simp [D.eqvs]
  | _ :: _, [] => by simp [D.eqvs]
  | x :: xs, y :: ys => by
    simp only [List.map_cons, D.eqvs, D.eqv]
    rw [eqvs_ints xs ys]
    by_cases h : x = y <;> by_cases h2 : xs = ys <;> simp [h, h2]
theorem eqv_row (a b : List Int) : D.eqv (row a) (row b) = decide (a = b) := eqvs_ints a b
theorem row_inj {a b : List Int} (h : row a = row b) : a = b := ints_inj (D.tup.inj h)
theorem keyT_row (r : List Int) : keyT (row r) = true := by
  show (r.map D.int).all keyK = true
  rw [List.all_map]
  simp [keyK]
theorem keysOk_rows (ps : List (List Int × D)) (x : List Int) : keysOk (ps.map fun p => (row p.1, p.2)) (row x) = true := by
  cases ps with
  | nil =>
    show (keyK (row x) || keyT (row x)) = true
    rw [keyT_row]; simp
  | cons p ps =>
    show ((keyK (row p.1) && keyK (row x)) || (keyT (row p.1) && keyT (row x))) = true
    rw [keyT_row, keyT_row]; simp
theorem dget_rows (x : List Int) : ∀ ps : List (List Int × D), dget (ps.map fun p => (row p.1, p.2)) (row x) = (ps.find? fun p => decide (p.1 = x)).map (·.2)
  | [] => rfl
  | p :: ps => by
    have ih := dget_rows x ps
    unfold dget at ih ⊢
    rw [List.map_cons, List.find?_cons, List.find?_cons, eqv_row]
    cases hd : decide (p.1 = x) with
    | true => rfl
    | false => exact ih
theorem dput_rows (x : List Int) (v : D) (ps : List (List Int × D)) (h : ∀ p ∈ ps, p.1 ≠ x) : dput (ps.map fun p => (row p.1, p.2)) (row x) v = (ps ++ [(x, v)]).map fun p => (row p.1, p.2) := by
  unfold dput
  have : ((ps.map fun p => (row p.1, p.2)).any fun p => D.eqv p.1 (row x)) = false := by
    rw [List.any_map, List.any_eq_false]
    intro p hp
    simp only [Function.comp_apply, eqv_row, decide_eq_true_eq]
    exact h p hp
  rw [this]
  simp
theorem in_dct {n : Nat} {ps : List (List Int × D)} (h : S[n]? = some (.dct (ps.map fun p => (row p.1, p.2)))) (x : List Int) : inI S (row x) (.ref n) = some (ps.any fun p => decide (p.1 = x)) := by
  simp only [inI, h]
  rw [if_pos (keysOk_rows ps x), dget_rows]
  congr 1
  rw [Option.isSome_map, Bool.eq_iff_iff, List.find?_isSome, List.any_eq_true]
theorem get_dct {n : Nat} {ps : List (List Int × D)} (h : S[n]? = some (.dct (ps.map fun p => (row p.1, p.2)))) (x : List Int) : methI S .get (.ref n) [row x] = some ((((ps.find? fun p => decide (p.1 = x)).map (·.2)).getD .non), S) := by
  simp only [methI, getM, h]
  rw [if_pos (keysOk_rows ps x), dget_rows]
theorem set_dct {n : Nat} {ps : List (List Int × D)} (h : S[n]? = some (.dct (ps.map fun p => (row p.1, p.2)))) (x : List Int) (v : D) (hl : ps.length < 16777216) (hx : ∀ p ∈ ps, p.1 ≠ x) :
    setI S (.ref n) (row x) v = some (S.set n (.dct ((ps ++ [(x, v)]).map fun p => (row p.1, p.2)))) := by
  have hz : (line : Nat) = 16777216 := rfl
  simp only [setI, h]
  rw [keysOk_rows ps x, dput_rows x v ps hx]
  simp [hz, hl]
theorem methT_dct {n : Nat} {kvs : List (D × D)} (h : S[n]? = some (.dct kvs)) : methT S .get (.ref n) = true := by
  simp only [methT, h]; rfl
/-! ### texts of trees -/
theorem rep_ok {d t : D} (h : rd RD S d = some t) (h1 : D.okS t = true) (h2 : D.shw t = true) (h3 : D.bulk t ≤ 50000) : repB S [d] = some (.rep t, S) := by
  simp only [repB, h]
  rw [if_pos (by rw [h1, h2]; simpa using h3)]
@[simp] theorem eq_rep (t : D) : eqV S (.rep t) (.rep t) = some true := by
  have : D.eqv t t = true := (D.eqv_iff t t).mpr rfl
  simp only [eqV, this, if_true]
theorem shws_all : ∀ {ds : List D}, (∀ d ∈ ds, D.shw d = true) → D.shws ds = true
  | [], _ => rfl
  | x :: xs, h => by
    show (D.shw x && D.shws xs) = true
    rw [h x (by simp), shws_all fun d hd => h d (by simp [hd])]; rfl
theorem bulks_le {m : Nat} : ∀ {ds : List D}, (∀ d ∈ ds, D.bulk d ≤ m) → D.bulks ds ≤ ds.length * (m + 1)
  | [], _ => by simp [D.bulks]
  | x :: xs, h => by
    simp only [D.bulks, List.length_cons, Nat.succ_mul]
    have := h x (by simp)
    have := bulks_le (m := m) (ds := xs) fun d hd => h d (by simp [hd])
    omega
/-- ints that are short -/
def small (i : Int) : Prop := i.natAbs < 18446744073709551616
theorem shw_int {i : Int} (h : small i) : D.shw (.int i) = true := by
  show decide (i.natAbs.log2 < 320) = true
  by_cases z : i.natAbs = 0
  · rw [z]; decide
  · have := (Nat.log2_lt z).mpr (show i.natAbs < 2 ^ 64 from h)
    rw [decide_eq_true_eq]; omega
theorem shw_row {r : List Int} (h : ∀ x ∈ r, small x) : D.shw (row r) = true := shws_all fun d hd => by
  obtain ⟨x, hx, rfl⟩ := List.mem_map.mp hd
  exact shw_int (h x hx)
theorem shw_rows {rs : List (List Int)} (h : ∀ r ∈ rs, ∀ x ∈ r, small x) : D.shw (rows rs) = true := shws_all fun d hd => by
  obtain ⟨r, hr, rfl⟩ := List.mem_map.mp hd
  exact shw_row (h r hr)
theorem bulk_row (r : List Int) : D.bulk (row r) ≤ r.length := by
  show D.bulks (r.map .int) ≤ r.length
  have := bulks_le (m := 0) (ds := r.map D.int) fun d hd => by
    obtain ⟨x, hx, rfl⟩ := List.mem_map.mp hd
    exact Nat.le_refl 0
  simpa using this
theorem bulk_rows {rs : List (List Int)} {m : Nat} (h : ∀ r ∈ rs, r.length ≤ m) : D.bulk (rows rs) ≤ rs.length * (m + 1) := by
  show D.bulks (rs.map row) ≤ _
  have := bulks_le (m := m) (ds := rs.map row) fun d hd => by
    obtain ⟨r, hr, rfl⟩ := List.mem_map.mp hd
    exact Nat.le_trans (bulk_row r) (h r hr)
  simpa using this
/-- statement by statement -/
theorem step {s : St} {ss : List St} {e : Env} {R : Fl → Env → Sto → Prop} (P : Env → Sto → Prop) (h : Run (execS s e S) fun f e' S' => f = .nx ∧ P e' S') (k : ∀ e' S', P e' S' → Run (execSs ss e' S') R) : Run (execSs (s :: ss) e S) R := by
  rw [w_ss1]
  exact h.imp fun f e' S' ⟨h1, h2⟩ => by subst h1; exact k e' S' h2
/-- a loop over 0, 1, .. -/
theorem for_range {bind : D → Env → Sto → Option (Env × Sto)} {body : Env → Sto → RS} {g : List (Nat × O)} {R : Fl → Env → Sto → Prop} (m : Nat) (inj : Nat → D) (st : Nat → Env → Sto → Prop)
    (hs : ∀ i e S, i < m → st i e S → guardOk S g = true ∧ Ret (bind (inj i) e S) fun e1 S1 => Run (body e1 S1) fun f e2 S2 => f = .nx ∧ st (i + 1) e2 S2) (hd : ∀ e S, st m e S → guardOk S g = true ∧ R .nx e S) {e : Env} (h : st 0 e S) :
    Run (forL bind body g ((List.range m).map inj) e S) R := by
  refine for_inv (R := R) (fun xs e S => ∃ i, i ≤ m ∧ xs = ((List.range m).drop i).map inj ∧ st i e S) (fun x xs e S h => ?_) (fun e S h => ?_) _ _ _ ⟨0, Nat.zero_le _, rfl, h⟩
  · obtain ⟨i, hi, hx, h⟩ := h
    have hlt : i < m := by
      rcases Nat.lt_or_ge i m with q | q
      · exact q
      · rw [List.drop_eq_nil_of_le (by simpa using q)] at hx
        cases hx
    have hd : (List.range m).drop i = i :: (List.range m).drop (i + 1) := by
      rw [List.drop_eq_getElem_cons (by simpa using hlt)]
      simp
    rw [hd] at hx
    simp only [List.map_cons, List.cons.injEq] at hx
    obtain ⟨rfl, rfl⟩ := hx
    obtain ⟨h1, h2⟩ := hs i e S hlt h
    exact ⟨h1, h2.imp fun e1 S1 q => q.imp fun f e2 S2 ⟨z1, z2⟩ => by subst z1; exact ⟨i + 1, hlt, rfl, z2⟩⟩
  · obtain ⟨i, hi, hx, h⟩ := h
    have : i = m := by
      rcases Nat.lt_or_ge i m with q | q
      · rw [List.drop_eq_getElem_cons (by simpa using q)] at hx
        cases hx
      · omega
    subst this
    exact hd e S h
theorem enumV_range (m : Nat) (f : Nat → D) : enumV ((List.range m).map f) = (List.range m).map fun k => .tup [.int (k : Nat), f k] := by
  rw [enumV_map]
  apply List.ext_getElem
  · simp
  · intro i h1 h2
    simp
/-- the text of a list of flat things -/
theorem rep_lst {n : Nat} {xs : List D} (h : S[n]? = some (.lst xs)) (hf : D.flats xs = true) (hd : D.deeps xs ≤ 59) (o : D.okSs xs = true) (w : D.shws xs = true) (b : D.bulks xs ≤ 50000) : repB S [.ref n] = some (.rep (.lst xs), S) :=
  rep_ok (rd_lst (m := 59) h hf hd) o w b
theorem rep_flat {xs : List D} (hf : D.flats xs = true) (hd : D.deeps xs ≤ 59) (o : D.okSs xs = true) (w : D.shws xs = true) (b : D.bulks xs ≤ 50000) : repB S [.tup xs] = some (.rep (.tup xs), S) :=
  rep_ok (flat_rd S (.tup xs) RD hf (by simp only [D.deep]; have : RD = 60 := rfl; omega)) o w b
theorem okSs_rowsL (rs : List (List Int)) : D.okSs (rs.map row) = true := okS_rows rs
/-- a call that gives a new tuple known as an object -/
theorem call_ftp {f : Fn} {ds xs : List D} {Q : D → Sto → Prop} (hd : D.los 0 ds = true) (hx : D.flats xs = true) (h : Ret (f ds []) fun d T => ∃ k, d = .ref k ∧ T[k]? = some (.ftp xs)) (k : ∀ T k, Ext S T → T[k]? = some (.ftp xs) → Q (.ref k) T) : Ret (callI f ds S) Q :=
  call_free hd (h.imp fun d T ⟨n, e, ht⟩ => by
    subst e
    refine ⟨fun q => by simp [D.lo] at q, fun _ => ?_⟩
    refine k _ _ (Ext.app _ _) ?_
    rw [List.getElem?_append_right (by omega), show n + S.length - S.length = n by omega, List.getElem?_map, ht]
    show some (O.ftp (D.shifts S.length xs)) = _
    rw [flats_shift _ _ hx])
theorem sum_row (S : Sto) (r : List Int) : sumB S [row r] = some (.int r.sum, S) := by
  simp only [sumB, items_tup, Option.bind_some, intsD_map]
theorem rd_list {k m : Nat} {xs ts : List D} (h : S[k]? = some (.lst xs)) (h2 : mapO (rd m S) xs = some ts) : rd (m + 1) S (.ref k) = some (.lst ts) := by
  simp only [rd, h]
  rw [h2]; rfl
theorem mapO_two {f : D → Option D} {a b x y : D} (h : f a = some x) (h2 : f b = some y) : mapO f [a, b] = some [x, y] := by simp only [mapO, h, h2]
theorem rd_ftp {n : Nat} {r : List Int} (h : S[n]? = some (.ftp (r.map .int))) : rd 59 S (.ref n) = some (row r) := by
  simp only [rd, h]
  rw [flats_rd S (r.map .int) 58 (by simp) (Nat.le_trans (deeps_map (n := 0) _ _ fun _ => Nat.le_refl 0) (by decide))]
  rfl
/-- the text of [a tuple known as an object, a row] -/
theorem rep_ftp {k n : Nat} {r s : List Int} (h : S[k]? = some (.lst [.ref n, row s])) (h2 : S[n]? = some (.ftp (r.map .int))) (h3 : ∀ x ∈ r, small x) (h4 : ∀ x ∈ s, small x) (h5 : r.length ≤ 1000) (h6 : s.length ≤ 1000) : repB S [.ref k] = some (.rep (.lst [row r, row s]), S) := by
  refine rep_ok (t := .lst [row r, row s]) ?_ ?_ ?_ ?_
  · show rd (59 + 1) S (.ref k) = _
    exact rd_list h (mapO_two (rd_ftp h2) (flat_rd S _ _ (flat_row s) (Nat.le_trans (deep_row s) (by decide))))
  · show (D.okS (row r) && (D.okS (row s) && true)) = true
    rw [okS_row, okS_row]; rfl
  · show (D.shw (row r) && (D.shw (row s) && true)) = true
    rw [shw_row h3, shw_row h4]; rfl
  · show D.bulk (row r) + 1 + (D.bulk (row s) + 1 + 0) ≤ 50000
    have := bulk_row r
    have := bulk_row s
    omega
/-- the text of a list of two lists of flat things -/
theorem rep_lst2 {k m n : Nat} {xs ys : List D} (h : S[k]? = some (.lst [.ref m, .ref n])) (h1 : S[m]? = some (.lst xs)) (h2 : S[n]? = some (.lst ys)) (f1 : D.flats xs = true) (f2 : D.flats ys = true) (d1 : D.deeps xs ≤ 58) (d2 : D.deeps ys ≤ 58) (o1 : D.okSs xs = true) (o2 : D.okSs ys = true) (w1 : D.shws xs = true) (w2 : D.shws ys = true) (b1 : D.bulks xs ≤ 20000) (b2 : D.bulks ys ≤ 20000) :
    repB S [.ref k] = some (.rep (.lst [.lst xs, .lst ys]), S) := by
  refine rep_ok (t := .lst [.lst xs, .lst ys]) ?_ ?_ ?_ ?_
  · show rd (59 + 1) S (.ref k) = _
    exact rd_list h (mapO_two (rd_lst h1 f1 d1) (rd_lst h2 f2 d2))
  · show (D.okSs xs && (D.okSs ys && true)) = true
    rw [o1, o2]; rfl
  · show (D.shws xs && (D.shws ys && true)) = true
    rw [w1, w2]; rfl
  · show D.bulks xs + 1 + (D.bulks ys + 1 + 0) ≤ 50000
    omega
theorem mul_two {m : Nat} {x : D} (h : S[m]? = some (.lst [x])) : binI S .mul (.ref m) (.int 2) = some (.ref S.length, S ++ [.lst [x, x]]) := by
  have hz : (line : Nat) = 16777216 := rfl
  simp only [binI, h, new]
  rw [if_pos (by rw [hz]; rfl)]
  rfl
end
end N
set_option autoImplicit false
set_option linter.all false
set_option maxRecDepth 100000
set_option maxHeartbeats 1000000
namespace N.K75
open N
inductive Wd | place | unit | swap | next | door | more
  deriving DecidableEq
def Wd.s : Wd → List Nat
  | .place => [112, 108, 97, 99, 101] | .unit => [117, 110, 105, 116] | .swap => [115, 119, 97, 112] | .next => [110, 101, 120, 116] | .door => [100, 111, 111, 114] | .more => [109, 111, 114, 101]
theorem Wd.ok (w : Wd) : okStr w.s = true := by cases w <;> decide
/-- the unlike places of two rows -/
def unl (a b : List Int) : List Nat := (List.range a.length).filter fun k => !decide (a.getD k 0 = b.getD k 0)
theorem zipIdx_get {a : List Int} {p : Int × Nat} (h : p ∈ a.zipIdx) : p.2 < a.length ∧ a.getD p.2 0 = p.1 := by
  obtain ⟨x, i⟩ := p
  have := List.mk_mem_zipIdx_iff_getElem?.mp h
  have hi := (List.getElem?_eq_some_iff.mp this).1
  exact ⟨hi, by simp [List.getD_eq_getElem?_getD, this]⟩
theorem unl_get {a b : List Int} {k : Nat} (h : k ∈ unl a b) : k < a.length := List.mem_range.mp (List.mem_filter.mp h).1
theorem unl_zip (a b : List Int) : (a.zipIdx.filter fun p => !decide (p.1 = b.getD p.2 0)).map (fun p => D.int (p.2 : Nat)) = (unl a b).map fun k : Nat => D.int k := by
  rw [zipIdx_eq, List.filter_map, List.map_map]
  rfl
theorem unlike_ok {S : Sto} {a b : List Int} {Q : D → Sto → Prop} (hl : a.length ≤ 1000) (h1 : a.length ≠ b.length → Q .non S)
    (h2 : a.length = b.length → ∀ T k, Ext S T → T[k]? = some (.lst ((unl a b).map fun k : Nat => .int k)) → Q (.ref k) T) : Ret (callI f_unlike_places [row a, row b] S) Q := by
  refine call_free (by simp [D.los, flat_lo]) ?_
  rw [w_runF]
  refine ⟨rfl, ?_⟩
  simp [b_unlike_places, enumV_map]
  split
  · rename_i h
    have h : a.length = b.length := by omega
    refine ⟨by have : (line : Nat) = 16777216 := rfl; omega, ?_⟩
    rw [comp_map (fun p : Int × Nat => .tup [.int (p.2 : Nat), .int p.1]) (fun p => !decide (p.1 = b.getD p.2 0)) (fun p => .int (p.2 : Nat)) rfl _ ?_]
    · simp only [ret_some]
      refine ⟨fun q => by simp [D.lo] at q, fun _ => ?_⟩
      have q := h2 h (S ++ [.lst ((unl a b).map fun k : Nat => .int k)]) S.length (Ext.app _ _) (by simp)
      have fl : D.flats ((unl a b).map fun k : Nat => .int k) = true := flats_map _ _ fun _ => rfl
      have e : O.shift S.length (.lst ((unl a b).map fun k : Nat => .int k)) = .lst ((unl a b).map fun k : Nat => .int k) := by simp only [O.shift]; rw [flats_shift _ _ fl]
      rw [unl_zip]
      show Q (.ref (0 + S.length)) (S ++ [O.shift S.length (.lst ((unl a b).map fun k : Nat => .int k))])
      rw [e, Nat.zero_add]
      exact q
    · intro p hp
      obtain ⟨q1, q2⟩ := zipIdx_get hp
      simp [N.wipe, idx_row, ← h, q1]
  · rename_i h
    have h : a.length ≠ b.length := by omega
    exact ⟨fun _ => h1 h, fun q => by simp [D.lo] at q⟩
/-! ### the six steps -/
def placeD (u : Bool) (a b : List Int) : D := if a.length = b.length then match unl a b with
    | [p] => if u && decide ((a.getD p 0 - b.getD p 0).natAbs ≠ 1) then .non else .tup [.int (p : Nat), .int (a.getD p 0), .int (b.getD p 0)]
    | _ => .non
  else .non
def swapD (nx : Bool) (a b : List Int) : D := if a.length = b.length then match unl a b with
    | [p, q] => if a.getD p 0 ≠ b.getD q 0 ∨ a.getD q 0 ≠ b.getD p 0 ∨ (nx = true ∧ q ≠ p + 1) then .non else .tup [.int (p : Nat), .int (q : Nat)]
    | _ => .non
  else .non
def without (a b : List Int) : List Int := a.filter fun x => !decide (x ∈ b)
def doorD (dr : Bool) (a b : List Int) : D := if (nub a).length < a.length ∨ (nub b).length < b.length then .non else
  if dr = true then match without a b, without b a with
    | [x], [y] => .tup [.int x, .int y]
    | _, _ => .non
  else match without a b, without b a with
    | [], [y] => .tup [.int y, .int 1]
    | [x], [] => .tup [.int x, .int (-1)]
    | _, _ => .non
def stepD : Wd → List Int → List Int → D
  | .place => placeD false
  | .unit => placeD true
  | .swap => swapD false
  | .next => swapD true
  | .door => doorD true
  | .more => doorD false
theorem abs_ne (x : Int) : (¬ (if x < 0 then -x else x) = 1) ↔ x.natAbs ≠ 1 := by
  split <;> omega
theorem place_ok {S : Sto} {a b : List Int} {u : Bool} (hl : a.length ≤ 1000) : Ret (f_place_step [.str (if u then Wd.unit.s else Wd.place.s), row a, row b] S) fun d _ => d = placeD u a b := by
  rw [w_runF]
  refine ⟨rfl, ?_⟩
  simp only [b_place_step, List.map_cons, List.map_nil, List.replicate, List.cons_append, List.nil_append, w_ss1, w_asg, w_call, w_es1, w_es0, w_var, List.getElem?_cons_succ, List.getElem?_cons_zero, opt_some]
  refine unlike_ok hl (fun h => ?_) fun h T k ex hk => ?_
  · simp [cmp_is, placeD, h]
  · simp [cmp_is, len_lst hk, placeD, h]
    rcases hu : unl a b with _ | ⟨p, _ | ⟨q, r⟩⟩
    · simp [Wd.s]
    · rw [hu] at hk
      have p1 := unl_get (k := p) (a := a) (b := b) (by rw [hu]; simp)
      have p1' : p < b.length := by rw [← h]; exact p1
      have i0 : idxI T (.ref k) (.int 0) = some (.int (p : Nat)) := idx_lst T (i := 0) hk rfl
      simp [i0, idx_row, p1, p1']
      cases u with
      | true =>
        simp [Wd.s]
        generalize a[p] - b[p] = z
        repeat' split
        all_goals first | omega | (intro; omega) | simp
      | false => simp [Wd.s]
    · simp [Wd.s]; omega
theorem swap_ok {S : Sto} {a b : List Int} {u : Bool} (hl : a.length ≤ 1000) : Ret (f_swap_step [.str (if u then Wd.next.s else Wd.swap.s), row a, row b] S) fun d _ => d = swapD u a b := by
  rw [w_runF]
  refine ⟨rfl, ?_⟩
  simp only [b_swap_step, List.map_cons, List.map_nil, List.replicate, List.cons_append, List.nil_append, w_ss1, w_asg, w_call, w_es1, w_es0, w_var, List.getElem?_cons_succ, List.getElem?_cons_zero, opt_some]
  refine unlike_ok hl (fun h => ?_) fun h T k ex hk => ?_
  · simp [cmp_is, swapD, h]
  · simp [cmp_is, len_lst hk, items_lst hk, swapD, h]
    rcases hu : unl a b with _ | ⟨p, _ | ⟨q, _ | ⟨r, s⟩⟩⟩
    · simp [Wd.s]
    · simp [Wd.s]
    · rw [hu] at hk
      have p1 := unl_get (k := p) (a := a) (b := b) (by rw [hu]; simp)
      have q1 := unl_get (k := q) (a := a) (b := b) (by rw [hu]; simp)
      have p1' : p < b.length := by rw [← h]; exact p1
      have q1' : q < b.length := by rw [← h]; exact q1
      simp [idx_row, p1, p1', q1, q1']
      cases u with
      | true =>
        simp [Wd.s]
        repeat' split
        all_goals first | omega | simp_all
      | false =>
        simp [Wd.s]
        repeat' split
        all_goals first | omega | simp_all
    · simp [Wd.s]; omega
theorem without_ok {S : Sto} {a b : List Int} {e : Env} {n m : Nat} (hl : a.length ≤ 1000) (he : e[n]? = some (some (row b))) (hm : m < e.length) (hn : n ≠ m) :
    compL (bindT (.tgN m)) (fun e S => thenT (evalE (.cmp (.var m) [.nin] [.var n]) e S)) (evalE (.var m)) [] (N.wipe e [m]) (a.map .int) S = some ((without a b).map .int, S) := by
  refine comp_map .int (fun x => !decide (x ∈ b)) .int rfl a fun x hx => ?_
  have h1 : ((N.wipe e [m]).set m (some (.int x)))[m]? = some (some (.int x)) := by
    rw [List.getElem?_set_self]; simpa [N.wipe] using hm
  have h2 : ((N.wipe e [m]).set m (some (.int x)))[n]? = some (some (row b)) := by
    rw [List.getElem?_set_ne (Ne.symm hn)]
    simp only [N.wipe]
    rw [List.getElem?_set_ne (Ne.symm hn)]
    exact he
  simp [h1, h2, in_row]
theorem door_ok {S : Sto} {a b : List Int} {u : Bool} (ha : a.length ≤ 1000) (hb : b.length ≤ 1000) : Ret (f_door_step [.str (if u then Wd.door.s else Wd.more.s), row a, row b] S) fun d _ => d = doorD u a b := by
  rw [w_runF]
  refine ⟨rfl, ?_⟩
  have hz : (line : Nat) = 16777216 := rfl
  have sa : ∀ S : Sto, setlenI S (row a) = some (nub a).length := fun S => set_row S a (by omega)
  have sb : ∀ S : Sto, setlenI S (row b) = some (nub b).length := fun S => set_row S b (by omega)
  simp [b_door_step, sa, sb]
  by_cases c1 : (nub a).length < a.length
  · simp [c1, doorD]
  by_cases c2 : (nub b).length < b.length
  · simp [c1, c2, doorD]
  simp [c1, c2, doorD]
  refine ⟨by omega, ?_⟩
  rw [without_ok (n := 2) (m := 5) (b := b) ha rfl (by simp) (by decide)]
  simp only [ret_some]
  refine ⟨by omega, ?_⟩
  rw [without_ok (n := 1) (m := 5) (b := a) hb rfl (by simp) (by decide)]
  simp only [ret_some]
  have tA : (S ++ [O.lst ((without a b).map .int)] ++ [O.lst ((without b a).map .int)])[S.length]? = some (.lst ((without a b).map .int)) := by simp
  have tB : (S ++ [O.lst ((without a b).map .int)] ++ [O.lst ((without b a).map .int)])[(S ++ [O.lst ((without a b).map .int)]).length]? = some (.lst ((without b a).map .int)) := by simp
  have hAB : S.length ≠ (S ++ [O.lst ((without a b).map .int)]).length := by simp
  generalize (S ++ [O.lst ((without a b).map .int)]).length = n at tB hAB ⊢
  generalize S ++ [O.lst ((without a b).map .int)] ++ [O.lst ((without b a).map .int)] = T at tA tB ⊢
  generalize S.length = m at tA hAB ⊢
  have tN : (T ++ [O.lst []])[T.length]? = some (.lst []) := by simp
  have tA' : (T ++ [O.lst []])[m]? = some (.lst ((without a b).map .int)) := (Ext.app T _).at tA
  have tB' : (T ++ [O.lst []])[n]? = some (.lst ((without b a).map .int)) := (Ext.app T _).at tB
  rw [len_lst tA]
  simp only [ret_some, len_lst tB, eq_int, opt_some, b_add, eq_nil tA' tN, List.length_map]
  rcases hA : without a b with _ | ⟨x, _ | ⟨x2, xs⟩⟩ <;> rcases hB : without b a with _ | ⟨y, _ | ⟨y2, ys⟩⟩ <;> rw [hA] at tA tA' <;> rw [hB] at tB tB' <;> cases u <;> simp [Wd.s, idxI, tA, tB, tA', tB', ixN] <;> omega
theorem told_ok {S : Sto} (w : Wd) {a b : List Int} (ha : a.length ≤ 1000) (hb : b.length ≤ 1000) : Ret (f_step_told [.str w.s, row a, row b] S) fun d _ => d = stepD w a b := by
  rw [w_runF]
  refine ⟨rfl, ?_⟩
  have i1 : ∀ S : Sto, inI S (.str w.s) (.tup [.str Wd.place.s, .str Wd.unit.s]) = some (decide (w.s ∈ [Wd.place.s, Wd.unit.s])) := fun S => in_strs S w.s [Wd.place.s, Wd.unit.s] w.ok (by decide)
  have i2 : ∀ S : Sto, inI S (.str w.s) (.tup [.str Wd.swap.s, .str Wd.next.s]) = some (decide (w.s ∈ [Wd.swap.s, Wd.next.s])) := fun S => in_strs S w.s [Wd.swap.s, Wd.next.s] w.ok (by decide)
  have fl : D.flats [.str w.s, row a, row b] = true := by simp [D.flats, D.flat]
  have sf : (stepD w a b).flat = true := by
    cases w <;> simp only [stepD, placeD, swapD, doorD] <;> repeat' split
    all_goals rfl
  have go : ∀ {f : Fn} {Q : D → Sto → Prop} {T : Sto}, (∀ S, Ret (f [.str w.s, row a, row b] S) fun d _ => d = stepD w a b) → Q (stepD w a b) T → Ret (callI f [.str w.s, row a, row b] T) Q := fun h k => call_flat fl sf (h []) k
  simp only [Wd.s] at i1 i2
  have p1 : ∀ S, w = .place ∨ w = .unit → Ret (f_place_step [.str w.s, row a, row b] S) fun d _ => d = stepD w a b := fun S h => by
    rcases h with rfl | rfl
    · exact place_ok (u := false) ha
    · exact place_ok (u := true) ha
  have p2 : ∀ S, w = .swap ∨ w = .next → Ret (f_swap_step [.str w.s, row a, row b] S) fun d _ => d = stepD w a b := fun S h => by
    rcases h with rfl | rfl
    · exact swap_ok (u := false) ha
    · exact swap_ok (u := true) ha
  have p3 : ∀ S, w = .door ∨ w = .more → Ret (f_door_step [.str w.s, row a, row b] S) fun d _ => d = stepD w a b := fun S h => by
    rcases h with rfl | rfl
    · exact door_ok (u := true) ha hb
    · exact door_ok (u := false) ha hb
  simp [b_step_told, i1, i2]
  cases w <;> simp [Wd.s] at go p1 p2 p3 ⊢
  · exact go p1 rfl
  · exact go p1 rfl
  · exact go p2 rfl
  · exact go p2 rfl
  · exact go p3 rfl
  · exact go p3 rfl
/-! ### lists by a word -/
def isStep (w : Wd) (a b : List Int) : Bool := !decide (stepD w a b = .non)
/-- things that are not too long -/
def Fine (rs : List (List Int)) : Prop := rs.length ≤ 100000 ∧ ∀ r ∈ rs, r.length ≤ 1000
theorem stepD_flat (w : Wd) (a b : List Int) : (stepD w a b).flat = true := by
  cases w <;> simp only [stepD, placeD, swapD, doorD] <;> repeat' split
  all_goals rfl
theorem told_call {S : Sto} {Q : D → Sto → Prop} (w : Wd) {a b : List Int} (ha : a.length ≤ 1000) (hb : b.length ≤ 1000) (k : Q (stepD w a b) S) : Ret (callI f_step_told [.str w.s, row a, row b] S) Q :=
  call_flat (by simp [D.flats, D.flat]) (stepD_flat w a b) (told_ok w ha hb) k
theorem is_call {S : Sto} {Q : D → Sto → Prop} (w : Wd) {a b : List Int} (ha : a.length ≤ 1000) (hb : b.length ≤ 1000) (k : Q (.bl (isStep w a b)) S) : Ret (callI f_is_step [.str w.s, row a, row b] S) Q := by
  refine call_flat (d := .bl (isStep w a b)) (by simp [D.flats, D.flat]) rfl ?_ k
  rw [w_runF]
  refine ⟨rfl, ?_⟩
  simp [b_is_step]
  refine told_call w ha hb ?_
  simp [cmp_isnt, isStep]
/-- a thing of a list -/
def th (rs : List (List Int)) (k : Nat) : List Int := rs.getD k []
theorem th_len {rs : List (List Int)} (h : Fine rs) (k : Nat) : (th rs k).length ≤ 1000 := by
  unfold th
  by_cases hk : k < rs.length
  · rw [List.getD_eq_getElem?_getD, List.getElem?_eq_getElem hk]
    exact h.2 _ (List.getElem_mem hk)
  · rw [List.getD_eq_getElem?_getD, List.getElem?_eq_none (by omega)]; simp
theorem th_at {S : Sto} {rs : List (List Int)} {k : Nat} (h : k < rs.length) : idxI S (rows rs) (.int (k : Nat)) = some (row (th rs k)) := by
  unfold th
  exact idx_tup S (f := row) (by simp [List.getD_eq_getElem?_getD, List.getElem?_eq_getElem h])
/-- the places whose things are no step apart -/
def bad (w : Wd) (rs : List (List Int)) (k : Nat) : Bool := !isStep w (th rs k) (th rs (k + 1))
def fault (w : Wd) (rs : List (List Int)) : Option Nat := (List.range (rs.length - 1)).find? (bad w rs)
def optD : Option Nat → D
  | none => .non
  | some k => .int (k : Nat)
theorem optD_flat (o : Option Nat) : (optD o).flat = true := by cases o <;> rfl
theorem rng_less {n : Nat} (h : n ≤ 100000) : rngI [.int ((n : Int) - 1)] = some ((List.range (n - 1)).map fun k : Nat => .int k) := by
  cases n with
  | zero => rw [rng_neg (by decide) (by decide)]; rfl
  | succ m =>
    rw [show ((m + 1 : Nat) : Int) - 1 = (m : Nat) by omega, rng_ok (by omega)]; rfl
theorem fault_call {S : Sto} {Q : D → Sto → Prop} (w : Wd) {rs : List (List Int)} (h : Fine rs) (k : Q (optD (fault w rs)) S) : Ret (callI f_list_fault [.str w.s, rows rs] S) Q := by
  refine call_flat (by simp [D.flats, D.flat]) (optD_flat _) ?_ k
  rw [w_runF]
  refine ⟨rfl, ?_⟩
  simp [b_list_fault, rng_less h.1]
  refine Run.imp (for_find (fun e => ∃ x, e = [some (.str w.s), some (rows rs), x]) (fun k : Nat => .int k) (bad w rs) (fun k : Nat => .int k) rfl _ (fun y hy e he => ?_) _ ⟨none, rfl⟩) fun f e S' ⟨_, ⟨x, he⟩, hf⟩ => ?_
  · obtain ⟨x, rfl⟩ := he
    have hy := List.mem_range.mp hy
    have e1 : ((y : Int) + 1) = ((y + 1 : Nat) : Int) := by omega
    simp [th_at (S := []) (rs := rs) (k := y) (by omega)]
    rw [e1, th_at (by omega)]
    simp only [opt_some]
    refine is_call w (th_len h _) (th_len h _) ?_
    simp [bad]
  · subst hf
    unfold fault
    cases (List.range (rs.length - 1)).find? (bad w rs) with
    | none => simp [optD]
    | some k => simp [optD]
def closes (w : Wd) (rs : List (List Int)) : Bool := decide (rs ≠ []) && (decide (fault w rs = none) && (decide (rs.length = 1) || isStep w (th rs (rs.length - 1)) (th rs 0)))
theorem optD_non (o : Option Nat) : (optD o = .non) ↔ o = none := by cases o <;> simp [optD]
theorem close_call {S : Sto} {Q : D → Sto → Prop} (w : Wd) {rs : List (List Int)} (h : Fine rs) (k : Q (.bl (closes w rs)) S) : Ret (callI f_does_close [.str w.s, rows rs] S) Q := by
  refine call_flat (d := .bl (closes w rs)) (by simp [D.flats, D.flat]) rfl ?_ k
  rw [w_runF]
  refine ⟨rfl, ?_⟩
  have e0 : ∀ S : Sto, eqV S (rows rs) (.tup []) = some (decide (rs = [])) := fun S => eq_rows S rs []
  simp [b_does_close, e0]
  by_cases hr : rs = []
  · simp [hr, closes]
  simp [hr]
  have hp : 0 < rs.length := List.length_pos_iff.mpr hr
  refine fault_call w h ?_
  simp [cmp_isnt, optD_non]
  by_cases hf : fault w rs = none
  · simp [hf]
    by_cases h1 : rs.length = 1
    · simp [h1, closes, hr, hf]
    · have h1' : ¬ ((rs.length : Int) = 1) := by omega
      simp [h1']
      have l1 : idxI [] (rows rs) (.int (-1)) = some (row (th rs (rs.length - 1))) := by
        refine idx_last [] (f := row) ?_
        rw [List.getLast?_eq_getElem?]
        unfold th
        simp [List.getD_eq_getElem?_getD, List.getElem?_eq_getElem (show rs.length - 1 < rs.length by omega)]
      have l0 : idxI [] (rows rs) (.int 0) = some (row (th rs 0)) := th_at (k := 0) hp
      simp [l1, l0]
      refine is_call w (th_len h _) (th_len h _) ?_
      simp [closes, hr, hf, h1]
  · simp [hf, closes]
/-- the steps of a list -/
def stepsL (w : Wd) (rs : List (List Int)) : List D := (List.range (rs.length - 1)).map fun k => stepD w (th rs k) (th rs (k + 1))
theorem steps_call {S : Sto} {Q : D → Sto → Prop} (w : Wd) {rs : List (List Int)} (h : Fine rs) (hf : fault w rs = none) (k : Q (.tup (stepsL w rs)) S) : Ret (callI f_steps_row [.str w.s, rows rs] S) Q := by
  have fl : D.flats (stepsL w rs) = true := flats_map _ _ fun k => stepD_flat w _ _
  refine call_flat (d := .tup (stepsL w rs)) (by simp [D.flats, D.flat]) fl ?_ k
  rw [w_runF]
  refine ⟨rfl, ?_⟩
  simp [b_steps_row]
  refine fault_call w h ?_
  have hz : (line : Nat) = 16777216 := rfl
  have hl := h.1
  simp [cmp_isnt, hf, optD, rng_less h.1]
  refine ⟨by omega, ?_⟩
  rw [comp_all (fun k : Nat => .int k) (fun k => stepD w (th rs k) (th rs (k + 1))) rfl _ fun y hy => ?_]
  · simp [tupB, itemsI, stepsL]
  · have hy := List.mem_range.mp hy
    have e1 : ((y : Int) + 1) = ((y + 1 : Nat) : Int) := by omega
    simp [N.wipe, th_at (S := []) (rs := rs) (k := y) (by omega)]
    rw [e1, th_at (by omega)]
    simp only [opt_some]
    exact told_call w (th_len h _) (th_len h _) ⟨rfl, rfl⟩
/-! ### the law's own step -/
theorem law_is_call {S : Sto} {Q : D → Sto → Prop} (w : Wd) {a b : List Int} (ha : a.length ≤ 1000) (hb : b.length ≤ 1000) (k : Q (.bl (isStep w a b)) S) : Ret (callI f__law_is_step [.str w.s, row a, row b] S) Q := by
  refine call_flat (d := .bl (isStep w a b)) (by simp [D.flats, D.flat]) rfl ?_ k
  rw [w_runF]
  refine ⟨rfl, ?_⟩
  have i1 : ∀ S : Sto, inI S (.str w.s) (.tup [.str Wd.door.s, .str Wd.more.s]) = some (decide (w.s ∈ [Wd.door.s, Wd.more.s])) := fun S => in_strs S w.s [Wd.door.s, Wd.more.s] w.ok (by decide)
  have i2 : ∀ S : Sto, inI S (.str w.s) (.tup [.str Wd.place.s, .str Wd.unit.s]) = some (decide (w.s ∈ [Wd.place.s, Wd.unit.s])) := fun S => in_strs S w.s [Wd.place.s, Wd.unit.s] w.ok (by decide)
  simp only [Wd.s] at i1 i2
  have hz : (line : Nat) = 16777216 := rfl
  have sa : ∀ S : Sto, setlenI S (row a) = some (nub a).length := fun S => set_row S a (by omega)
  have sb : ∀ S : Sto, setlenI S (row b) = some (nub b).length := fun S => set_row S b (by omega)
  have rg : rngI [.int (a.length : Nat)] = some ((List.range a.length).map fun k : Nat => .int k) := rng_ok (by omega)
  -- the unlike places, listed
  have cp : a.length = b.length → ∀ S : Sto, compL (bindT (.tgN 6)) (fun e S => thenT (evalE (.cmp (.idx (.var 1) (.var 6)) [.ne] [.idx (.var 2) (.var 6)]) e S)) (evalE (.var 6)) [] (N.wipe [some (.str w.s), some (row a), some (row b), none, none, none, none, none] [6]) ((List.range a.length).map fun k : Nat => .int k) S = some ((unl a b).map fun k : Nat => .int k, S) := fun h S => by
    refine comp_map (fun k : Nat => .int k) (fun k => !decide (a.getD k 0 = b.getD k 0)) (fun k : Nat => .int k) rfl _ fun k hk => ?_
    have hk := List.mem_range.mp hk
    simp [N.wipe, idx_row, hk, show k < b.length by omega]
  have dm : ∀ u : Bool, (w = if u then .door else .more) → Run (execSs b__law_is_step [some (.str w.s), some (row a), some (row b), none, none, none, none, none] []) (Back fun d _ => d = .bl (isStep w a b)) := by
    intro u hw
    have i1 : ∀ S : Sto, inI S (.str w.s) (.tup [.str [100, 111, 111, 114], .str [109, 111, 114, 101]]) = some true := fun S => by
      rw [in_two S (by cases w <;> decide)]; cases u <;> simp [hw, Wd.s]
    simp [b__law_is_step, i1, sa, sb]
    by_cases c1 : (nub a).length < a.length
    · cases u <;> simp [c1, hw, isStep, stepD, doorD]
    by_cases c2 : (nub b).length < b.length
    · cases u <;> simp [c1, c2, hw, isStep, stepD, doorD]
    simp [c1, c2]
    refine ⟨by omega, ?_⟩
    rw [without_ok (n := 2) (m := 7) (b := b) ha rfl (by simp) (by decide)]
    simp only [ret_some]
    refine ⟨by omega, ?_⟩
    rw [without_ok (n := 1) (m := 7) (b := a) hb rfl (by simp) (by decide)]
    simp only [ret_some, List.nil_append, List.length_nil, List.length_cons]
    have tA : ([O.lst ((without a b).map .int)] ++ [O.lst ((without b a).map .int)])[0]? = some (.lst ((without a b).map .int)) := by simp
    have tB : ([O.lst ((without a b).map .int)] ++ [O.lst ((without b a).map .int)])[0 + 1]? = some (.lst ((without b a).map .int)) := by simp
    generalize [O.lst ((without a b).map .int)] ++ [O.lst ((without b a).map .int)] = T at tA tB ⊢
    simp only [len_lst tA, len_lst tB, ret_some, eq_int, opt_some, b_add, List.length_map]
    rcases hA : without a b with _ | ⟨x, _ | ⟨x2, xs⟩⟩ <;> rcases hB : without b a with _ | ⟨y, _ | ⟨y2, ys⟩⟩ <;> cases u <;> simp [hw, Wd.s, isStep, stepD, doorD, hA, hB, c1, c2] <;> (repeat' split) <;> first | omega | simp
  have ps : ∀ u : Bool, (w = if u then .unit else .place) → Run (execSs b__law_is_step [some (.str w.s), some (row a), some (row b), none, none, none, none, none] []) (Back fun d _ => d = .bl (isStep w a b)) := by
    intro u hw
    have i1 : ∀ S : Sto, inI S (.str w.s) (.tup [.str [100, 111, 111, 114], .str [109, 111, 114, 101]]) = some false := fun S => by
      rw [in_two S (by cases w <;> decide)]; cases u <;> simp [hw, Wd.s]
    have i2 : ∀ S : Sto, inI S (.str w.s) (.tup [.str [112, 108, 97, 99, 101], .str [117, 110, 105, 116]]) = some true := fun S => by
      rw [in_two S (by cases w <;> decide)]; cases u <;> simp [hw, Wd.s]
    simp [b__law_is_step, i1, i2, rg]
    by_cases h : a.length = b.length
    · simp [h]
      refine ⟨by omega, ?_⟩
      rw [← h, cp h]
      simp only [ret_some, List.nil_append, List.length_nil]
      have tA : [O.lst ((unl a b).map fun k : Nat => D.int k)][0]? = some (.lst ((unl a b).map fun k : Nat => D.int k)) := rfl
      generalize [O.lst ((unl a b).map fun k : Nat => D.int k)] = T at tA ⊢
      simp only [len_lst tA, ret_some, eq_int, opt_some, List.length_map]
      rcases hu : unl a b with _ | ⟨p, _ | ⟨q, r⟩⟩
      · cases u <;> simp [hw, isStep, stepD, placeD, h, hu]
      · rw [hu] at tA
        have p1 := unl_get (k := p) (a := a) (b := b) (by rw [hu]; simp)
        have p1' : p < b.length := by rw [← h]; exact p1
        have i0 : idxI T (.ref 0) (.int 0) = some (.int (p : Nat)) := idx_lst T (i := 0) tA rfl
        simp [i0, idx_row, p1, p1']
        cases u with
        | true =>
          simp [hw, Wd.s, isStep, stepD, placeD, h, hu, p1, p1']
          generalize a[p] - b[p] = z
          by_cases hz : z.natAbs = 1
          · simp [hz]; omega
          · simp [hz]; omega
        | false => simp [hw, Wd.s, isStep, stepD, placeD, h, hu]
      · cases u <;> simp [hw, isStep, stepD, placeD, h, hu] <;> omega
    · have h' : ¬ ((a.length : Int) = (b.length : Int)) := by omega
      cases u <;> simp [h', hw, isStep, stepD, placeD, h]
  have sn : ∀ u : Bool, (w = if u then .next else .swap) → Run (execSs b__law_is_step [some (.str w.s), some (row a), some (row b), none, none, none, none, none] []) (Back fun d _ => d = .bl (isStep w a b)) := by
    intro u hw
    have i1 : ∀ S : Sto, inI S (.str w.s) (.tup [.str [100, 111, 111, 114], .str [109, 111, 114, 101]]) = some false := fun S => by
      rw [in_two S (by cases w <;> decide)]; cases u <;> simp [hw, Wd.s]
    have i2 : ∀ S : Sto, inI S (.str w.s) (.tup [.str [112, 108, 97, 99, 101], .str [117, 110, 105, 116]]) = some false := fun S => by
      rw [in_two S (by cases w <;> decide)]; cases u <;> simp [hw, Wd.s]
    simp [b__law_is_step, i1, i2, rg]
    by_cases h : a.length = b.length
    · simp [h]
      refine ⟨by omega, ?_⟩
      rw [← h, cp h]
      simp only [ret_some, List.nil_append, List.length_nil]
      have tA : [O.lst ((unl a b).map fun k : Nat => D.int k)][0]? = some (.lst ((unl a b).map fun k : Nat => D.int k)) := rfl
      generalize [O.lst ((unl a b).map fun k : Nat => D.int k)] = T at tA ⊢
      simp only [len_lst tA, ret_some, eq_int, opt_some, List.length_map]
      rcases hu : unl a b with _ | ⟨p, _ | ⟨q, _ | ⟨r, s⟩⟩⟩
      · cases u <;> simp [hw, isStep, stepD, swapD, h, hu]
      · cases u <;> simp [hw, isStep, stepD, swapD, h, hu]
      · rw [hu] at tA
        have p1 := unl_get (k := p) (a := a) (b := b) (by rw [hu]; simp)
        have p1' : p < b.length := by rw [← h]; exact p1
        have q1 := unl_get (k := q) (a := a) (b := b) (by rw [hu]; simp)
        have q1' : q < b.length := by rw [← h]; exact q1
        have i0 : idxI T (.ref 0) (.int 0) = some (.int (p : Nat)) := idx_lst T (i := 0) tA rfl
        have i1 : idxI T (.ref 0) (.int 1) = some (.int (q : Nat)) := idx_lst T (i := 1) tA rfl
        simp [i0, i1, idx_row, p1, p1', q1, q1']
        cases u with
        | true =>
          simp [hw, Wd.s, isStep, stepD, swapD, h, hu, p1, p1', q1, q1']
          by_cases c1 : (q : Int) = (p : Int) + 1
          · have c1' : q = p + 1 := by omega
            by_cases c2 : a[p] = b[q] <;> by_cases c3 : a[q] = b[p] <;> simp_all
          · have c1' : ¬ q = p + 1 := by omega
            simp [c1, c1']
        | false =>
          simp [hw, Wd.s, isStep, stepD, swapD, h, hu, p1, p1', q1, q1']
          by_cases c2 : a[p] = b[q] <;> by_cases c3 : a[q] = b[p] <;> simp_all
      · have c3 : ¬ ((s.length : Int) + 1 + 1 + 1 = 2) := by omega
        cases u <;> simp [hw, isStep, stepD, swapD, h, hu, c3]
    · have h' : ¬ ((a.length : Int) = (b.length : Int)) := by omega
      cases u <;> simp [h', hw, isStep, stepD, swapD, h]
  cases w with
  | door => exact dm true rfl
  | more => exact dm false rfl
  | place => exact ps false rfl
  | unit => exact ps true rfl
  | swap => exact sn false rfl
  | next => exact sn true rfl
end N.K75
set_option autoImplicit false
set_option linter.all false
set_option maxRecDepth 100000
set_option maxHeartbeats 1000000
namespace N.K75
open N
/-! ### digits, rows of the flipped list -/
/-- digits to the base 2, the last one first -/
def digR : Nat → Int → List Int
  | 0, _ => []
  | n + 1, p => p % 2 :: digR n (p / 2)
def digs (n : Nat) (p : Int) : List Int := (digR n p).reverse
theorem digR_len : ∀ (n : Nat) (p : Int), (digR n p).length = n
  | 0, _ => rfl
  | n + 1, p => by simp [digR, digR_len n]
theorem digR_fold : ∀ (ks : List Nat) (f : List Int) (p : Int), ks.foldl (fun (s : List Int × Int) _ => (s.1 ++ [s.2 % 2], s.2 / 2)) (f, p) = (f ++ digR ks.length p, (ks.foldl (fun (s : List Int × Int) _ => (s.1 ++ [s.2 % 2], s.2 / 2)) (f, p)).2)
  | [], f, p => by simp [digR]
  | k :: ks, f, p => by
    rw [List.foldl_cons, digR_fold ks]
    simp [digR]
theorem digits_call {S : Sto} {Q : D → Sto → Prop} {n : Nat} {p : Int} (hn : n ≤ 100000) (k : ∀ T k, Ext S T → T[k]? = some (.lst ((digs n p).map .int)) → Q (.ref k) T) : Ret (callI f_digits_of [.int n, .int p] S) Q := by
  refine call_list (by simp [D.los, D.lo]) (by simp) ?_ k
  rw [w_runF]
  refine ⟨rfl, ?_⟩
  simp [b_digits_of, rng_ok (show n ≤ 16777216 by omega)]
  refine Run.imp (for_fold n (fun i (s : List Int × Int) e S => s.1.length = i ∧ (∃ x, e = [some (.int n), some (.int s.2), some (.ref 0), x]) ∧ S = [.lst (s.1.map .int)]) (fun k : Nat => .int k) (fun s _ => (s.1 ++ [s.2 % 2], s.2 / 2)) (fun _ _ _ _ _ => rfl) _ 0 (by simp) (fun y hy i s e S hi h => ?_) ([], p) _ _ ⟨by simp, ⟨none, rfl⟩, rfl⟩) fun fl e2 S2 ⟨hf, h1, ⟨x, h2⟩, h3⟩ => ?_
  · obtain ⟨h1, ⟨x, rfl⟩, rfl⟩ := h
    have hd : divOk 2 = true := by decide
    have at0 : ([O.lst (s.1.map D.int)] : Sto)[0]? = some (.lst (s.1.map .int)) := rfl
    simp [methT_lst (m := .append) at0 (by decide), app_lst (x := .int (s.2 % 2)) at0 (by simp; omega), hd, h1]
  · subst hf h2 h3
    rw [digR_fold]
    simp [slcI, optI, slc, new, digs, List.map_reverse]
def neq (p : Int × Int) : Int := if p.1 = p.2 then 0 else 1
/-- the row at a place -/
def rowAt (n : Nat) (p : Int) : List Int := ((digs n p).zip (0 :: digs n p)).map neq
theorem digs_len (n : Nat) (p : Int) : (digs n p).length = n := by simp [digs, digR_len]
theorem rowAt_len (n : Nat) (p : Int) : (rowAt n p).length = n := by simp [rowAt, digs_len]
theorem rowAt_call {S : Sto} {Q : D → Sto → Prop} {n : Nat} {p : Int} (hn : n ≤ 100000) (k : Q (row (rowAt n p)) S) : Ret (callI f_row_at [.int n, .int p] S) Q := by
  refine call_flat (d := row (rowAt n p)) rfl (flat_row _) ?_ k
  rw [w_runF]
  refine ⟨rfl, ?_⟩
  simp [b_row_at]
  refine digits_call hn fun T k ex hk => ?_
  have hl := digs_len n p
  have h0 : (T ++ [O.lst [.int 0]])[T.length]? = some (.lst ([0].map .int)) := by simp
  have h1 := (Ext.app T [O.lst [.int 0]]).at hk
  have ad := add_lst h0 h1 (by simp [hl]; omega)
  simp [ad]
  have ex2 : Ext T (T ++ [O.lst [.int 0], O.lst (D.int 0 :: (digs n p).map .int)]) := Ext.app _ _
  have g1 := ex2.at hk
  have g2 : (T ++ [O.lst [.int 0], O.lst (D.int 0 :: (digs n p).map .int)])[T.length + 1]? = some (.lst ((0 :: digs n p).map .int)) := by simp
  rw [zipL g1 g2]
  simp only [opt_some]
  rw [zipV_map]
  have hz : (line : Nat) = 16777216 := rfl
  refine ⟨by simp [hl]; omega, ?_⟩
  rw [comp_all (fun p : Int × Int => .tup [.int p.1, .int p.2]) (fun p => .int (neq p)) (guard_two g1 g2) _ fun y hy => ?_]
  · simp
    rw [tup_lst (xs := ((digs n p).zip (0 :: digs n p)).map fun p => .int (neq p)) (by simp)]
    simp [rowAt, List.map_map, Function.comp_def]
  · simp [N.wipe, neq]
theorem two_fold : ∀ (ks : List Nat) (x : Int), ks.foldl (fun s _ => 2 * s) x = 2 ^ ks.length * x
  | [], x => by simp
  | k :: ks, x => by
    rw [List.foldl_cons, two_fold ks, List.length_cons, Int.pow_succ, Int.mul_assoc]
theorem all_call {S : Sto} {Q : D → Sto → Prop} {n : Nat} (hn : n ≤ 100000) (k : Q (.int (2 ^ n)) S) : Ret (callI f_rows_in_all [.int n] S) Q := by
  refine call_flat (d := .int (2 ^ n)) rfl rfl ?_ k
  rw [w_runF]
  refine ⟨rfl, ?_⟩
  simp [b_rows_in_all, rng_ok (show n ≤ 16777216 by omega)]
  refine Run.imp (for_fold n (fun i (s : Int) e S => (∃ x, e = [some (.int n), some (.int s), x]) ∧ S = []) (fun k : Nat => .int k) (fun s _ => 2 * s) (fun _ _ _ _ _ => rfl) _ 0 (by simp) (fun y hy i s e S hi h => ?_) 1 _ _ ⟨⟨none, rfl⟩, rfl⟩) fun fl e2 S2 ⟨hf, ⟨x, h2⟩, h3⟩ => ?_
  · obtain ⟨⟨x, rfl⟩, rfl⟩ := h
    simp [mulOk_l (i := 2) (j := s) (by decide)]
  · subst hf h2 h3
    rw [two_fold]
    simp
/-- the place of a row -/
def plOf (r : List Int) : Int × Int := r.foldl (fun s x => (2 * s.1 + (if s.2 = x then 0 else 1), if s.2 = x then 0 else 1)) (0, 0)
theorem placeOf_call {S : Sto} {Q : D → Sto → Prop} {r : List Int} (k : Q (.int (plOf r).1) S) : Ret (callI f_place_of_row [row r] S) Q := by
  refine call_flat (d := .int (plOf r).1) (by simp [D.flats, D.flat]) rfl ?_ k
  rw [w_runF]
  refine ⟨rfl, ?_⟩
  simp [b_place_of_row]
  refine Run.imp (for_fold r.length (fun i (s : Int × Int) e S => (∃ x, e = [some (row r), x, some (.int s.1), some (.int s.2)]) ∧ S = []) (fun k : Int => .int k) (fun s x => (2 * s.1 + (if s.2 = x then 0 else 1), if s.2 = x then 0 else 1)) (fun _ _ _ _ _ => rfl) _ 0 (by simp) (fun y hy i s e S hi h => ?_) (0, 0) _ _ ⟨⟨none, rfl⟩, rfl⟩) fun fl e2 S2 ⟨hf, ⟨x, h2⟩, h3⟩ => ?_
  · obtain ⟨⟨x, rfl⟩, rfl⟩ := h
    simp [mulOk_l (i := 2) (j := s.1) (by decide)]
  · subst hf h2 h3
    simp [plOf]
end N.K75
set_option autoImplicit false
set_option linter.all false
set_option maxRecDepth 100000
set_option maxHeartbeats 1000000
namespace N.K75
open N
/-! ### what is drawn from -/
/-- the bag b, its cells at c -/
def Bag (b c : Nat) (S : Sto) : Prop := b ≠ c ∧ ∃ (cells : List Int) (dg mx : Int), S[b]? = some (.lst [.ref c, .int dg, .int mx]) ∧ S[c]? = some (.lst (cells.map .int)) ∧ 0 ≤ dg ∧ 0 ≤ mx ∧ mx < 2147483647 ∧ cells.length ≤ 63
theorem Bag.keep {b c : Nat} {S T : Sto} (h : Bag b c S) (k : Keep [] S T) : Bag b c T := by
  obtain ⟨hn, cells, dg, mx, h1, h2, r⟩ := h
  exact ⟨hn, cells, dg, mx, k.at h1 (by simp), k.at h2 (by simp), r⟩
theorem Bag.take {b c n : Nat} {S : Sto} (h : Bag b c S) (hb : b < n) (hc : c < n) : Bag b c (S.take n) := by
  obtain ⟨hn, cells, dg, mx, h1, h2, r⟩ := h
  exact ⟨hn, cells, dg, mx, by rw [List.getElem?_take_of_lt hb]; exact h1, by rw [List.getElem?_take_of_lt hc]; exact h2, r⟩
theorem Bag.lt {b c : Nat} {S : Sto} (h : Bag b c S) : b < S.length ∧ c < S.length := by
  obtain ⟨hn, cells, dg, mx, h1, h2, r⟩ := h
  exact ⟨(List.getElem?_eq_some_iff.mp h1).1, (List.getElem?_eq_some_iff.mp h2).1⟩
theorem keep_sub {ws vs : List Nat} {S T : Sto} (h : Keep ws S T) (i : ∀ n ∈ ws, n ∈ vs) : Keep vs S T := ⟨h.1, fun n hn hl => h.2 n (fun q => hn (i n q)) hl⟩
theorem draw_call {S : Sto} {Q : D → Sto → Prop} {b c : Nat} {m : Int} (hB : Bag b c S) (hm : 0 < m) (hd : divOk m = true) (k : ∀ v T, 0 ≤ v → v < m → Bag b c T → Keep [b, c] S T → Q (.int v) T) : Ret (callI f__law_draw [.ref b, .int m] S) Q := by
  have lt := hB.lt
  suffices run : Ret (f__law_draw [.ref b, .int m] S) fun d T => ∃ v, d = .int v ∧ 0 ≤ v ∧ v < m ∧ Bag b c T ∧ Keep [b, c] S T by
    refine call_ref (by simp [D.los, D.lo]) (run.imp fun d T ⟨v, e, h1, h2, h3, h4⟩ => ?_)
    subst e
    exact ⟨k v T h1 h2 h3 h4, fun _ => k v _ h1 h2 (h3.take lt.1 lt.2) h4.take⟩
  rw [w_runF]
  refine ⟨rfl, ?_⟩
  simp only [b__law_draw, w_ss1, w_wh, List.map_cons, List.map_nil, List.replicate, List.cons_append, List.nil_append]
  have hp9 : powOk 10 9 = true := by decide
  obtain ⟨hne0, cells0, dg0, mx0, h10, h20, g10, g20, g30, g40⟩ := id hB
  have hfu : fuel = 1000000000000 := rfl
  refine Run.imp (Q := fun f e T => f = .nx ∧ (∃ x, e = [some (.ref b), some (.int m), x, none]) ∧ Bag b c T ∧ Keep [b, c] S T) (wh_inv (fun n e T => (∃ x, e = [some (.ref b), some (.int m), x, none]) ∧ (∃ cells : List Int, T[c]? = some (.lst (cells.map .int)) ∧ cells.length = n) ∧ Bag b c T ∧ Keep [b, c] S T) ?_ fuel cells0.length _ _ (by omega) ⟨⟨none, rfl⟩, ⟨cells0, h20, rfl⟩, hB, Keep.refl _ _⟩) ?_
  · rintro n e T ⟨⟨x, rfl⟩, ⟨cells, hcells, hn⟩, hB, hK⟩
    obtain ⟨hne, cells', dg, mx, h1, h2, g1, g2, g3, g4⟩ := id hB
    have : cells' = cells := by
      rw [hcells] at h2
      exact (ints_inj (O.lst.inj (Option.some.inj h2))).symm
    subst this
    have i1 : idxI T (.ref b) (.int 1) = some (.int dg) := idx_lst T (i := 1) h1 rfl
    have i0 : ∀ U : Sto, U[b]? = some (.lst [.ref c, .int dg, .int mx]) → idxI U (.ref b) (.int 0) = some (.ref c) := fun U h => idx_lst U (i := 0) h rfl
    simp [i1]
    by_cases hd0 : dg = 0
    · subst hd0
      have h2' : (T ++ [O.lst []])[c]? = some (.lst (cells'.map .int)) := (Ext.app T _).at h2
      have h1' : (T ++ [O.lst []])[b]? = some (.lst [.ref c, .int 0, .int mx]) := (Ext.app T _).at h1
      have hK' : Keep [b, c] S (T ++ [O.lst []]) := hK.trans (Keep.ext (Ext.app T _))
      have hB' : Bag b c (T ++ [O.lst []]) := hB.keep (Keep.ext (Ext.app T _))
      have hN : (T ++ [O.lst []])[T.length]? = some (.lst []) := by simp
      simp [i0 T h1, eq_nil h2' hN]
      rcases snoc cells' with rfl | ⟨init, y, rfl⟩
      · simp
        exact ⟨hB', hK'⟩
      · have h2'' : (T ++ [O.lst []])[c]? = some (.lst (init.map .int ++ [.int y])) := by simpa using h2'
        simp [i0 _ h1', methT_lst (m := .pop) h2'' (by decide), pop_last h2'', hp9]
        have hl : init.length + 1 = n := by simpa using hn
        have cb : c ≠ b := fun q => hne q.symm
        have fin : ∀ v : Int, 0 ≤ v → Opt (setI ((T ++ [O.lst []]).set c (.lst (init.map .int))) (.ref b) (.int 1) (.int v)) fun S3 => ∃ m', m' < n ∧ (∃ cells : List Int, S3[c]? = some (.lst (cells.map .int)) ∧ cells.length = m') ∧ Bag b c S3 ∧ Keep [b, c] S S3 := by
          intro v hv
          have hb2 : ((T ++ [O.lst []]).set c (.lst (init.map .int)))[b]? = some (.lst [.ref c, .int 0, .int mx]) := at_ne h1' cb
          have st := set_lst (j := 1) (v := .int v) hb2 (by simp)
          have st : setI ((T ++ [O.lst []]).set c (.lst (init.map .int))) (.ref b) (.int 1) (.int v) = some (((T ++ [O.lst []]).set c (.lst (init.map .int))).set b (.lst [.ref c, .int v, .int mx])) := st
          rw [st]
          have c3 : (((T ++ [O.lst []]).set c (.lst (init.map .int))).set b (.lst [.ref c, .int v, .int mx]))[c]? = some (.lst (init.map .int)) := at_ne (set_at h2') hne
          refine ⟨init.length, by omega, ⟨init, c3, rfl⟩, ⟨hne, init, v, mx, set_at hb2, c3, hv, g2, g3, ?_⟩, (hK'.trans (Keep.set (by simp))).trans (Keep.set (by simp))⟩
          simp at g4; omega
        split
        · exact fin y (by omega)
        · exact fin 0 (by omega)
    · simp [hd0]
      exact ⟨hB, hK⟩
  · rintro f e T ⟨rfl, ⟨x, rfl⟩, hB, hK⟩
    obtain ⟨hne, cells, dg, mx, h1, h2, g1, g2, g3, g4⟩ := id hB
    have i1 : idxI T (.ref b) (.int 1) = some (.int dg) := idx_lst T (i := 1) h1 rfl
    have i2 : idxI T (.ref b) (.int 2) = some (.int mx) := idx_lst T (i := 2) h1 rfl
    have s1 : ∀ v : D, setI T (.ref b) (.int 1) v = some (T.set b (.lst [.ref c, v, .int mx])) := fun v => set_lst (j := 1) (v := v) h1 (by simp)
    have s2 : ∀ v : D, setI T (.ref b) (.int 2) v = some (T.set b (.lst [.ref c, .int dg, v])) := fun v => set_lst (j := 2) (v := v) h1 (by simp)
    have kb : ∀ o : O, Keep [b, c] S (T.set b o) := fun o => hK.trans (Keep.set (by simp))
    have h2' : ∀ o : O, (T.set b o)[c]? = some (.lst (cells.map .int)) := fun o => at_ne h2 hne
    have m0 : ∀ y : Int, 0 ≤ y % m ∧ y % m < m := fun y => ⟨Int.emod_nonneg _ (by omega), Int.emod_lt_of_pos _ hm⟩
    simp [i1, hd, hm, s1]
    by_cases hpos : 0 < dg
    · have e1 := m0 dg
      have e2 : 0 ≤ dg / m := Int.ediv_nonneg g1 (by omega)
      simp [hpos]
      exact ⟨e1.1, e1.2, ⟨hne, cells, dg / m, mx, set_at h1, h2' _, e2, g2, g3, g4⟩, kb _⟩
    · have d7 : divOk 7 = true := by decide
      have mo : mulOk mx 48271 = true := mulOk_r (by decide)
      have hx := Int.emod_nonneg (mx * 48271 + 13) (show (2147483647 : Int) ≠ 0 by decide)
      have hx2 := Int.emod_lt_of_pos (mx * 48271 + 13) (show (0 : Int) < 2147483647 by decide)
      have hB2 : (T.set b (.lst [.ref c, .int dg, .int ((mx * 48271 + 13) % 2147483647)]))[b]? = some (.lst [.ref c, .int dg, .int ((mx * 48271 + 13) % 2147483647)]) := set_at h1
      have i3 : idxI (T.set b (.lst [.ref c, .int dg, .int ((mx * 48271 + 13) % 2147483647)])) (.ref b) (.int 2) = some (.int ((mx * 48271 + 13) % 2147483647)) := idx_lst _ (i := 2) hB2 rfl
      simp [hpos, i2, mo, s2]
      generalize (mx * 48271 + 13) % 2147483647 = y at hx hx2 hB2 i3 ⊢
      have mo2 : mulOk y y = true := mulOk_l (by omega)
      simp [i3, mo2, d7]
      have e1 := m0 (y * y % 2147483629 / 7)
      exact ⟨hm, e1.1, e1.2, ⟨hne, cells, dg, y, hB2, h2' _, g1, hx, hx2, g4⟩, kb _⟩
theorem bag_call {S : Sto} {ns : List Int} {Q : D → Sto → Prop} (h0 : S = [.scr ns]) (hn : ns.length ≤ 63) (k : ∀ b c T, Bag b c T → T[0]? = some (.scr ns) → Q (.ref b) T) : Ret (callI f__law_bag [.ref 0] S) Q := by
  subst h0
  suffices run : Ret (f__law_bag [.ref 0] [.scr ns]) fun d T => ∃ b c, d = .ref b ∧ 1 ≤ b ∧ Bag b c T ∧ T[0]? = some (.scr ns) by
    refine call_ref (by simp [D.los, D.lo]) (run.imp fun d T ⟨b, c, e, h1, h2, h3⟩ => ?_)
    subst e
    exact ⟨k b c T h2 h3, fun q => by
      simp [D.lo] at q
      omega⟩
  rw [w_runF]
  refine ⟨rfl, ?_⟩
  have hz : (line : Nat) = 16777216 := rfl
  have cutA : slc ns none (some 63) none = some ns := by
    have e : min (Int.toNat 63) ns.length = ns.length := Nat.min_eq_right (by simpa using hn)
    simp only [slc, cut, sIx]
    rw [if_neg (by decide), e]
    simp
  have sl : slcI [.scr ns] (.ref 0) .non (.int 63) .non = some (.ref 1, [.scr ns, .lst (ns.map .int)]) := by
    simp only [slcI, optI]
    simp [cutA, new]
  simp [b__law_bag, sl]
  have w1 : walkV (.ref 1) [.scr ns, .lst (ns.map .int)] = some (ns.map .int, [(1, .lst (ns.map .int))]) := walk_lst rfl
  simp [w1]
  refine ⟨by omega, ?_⟩
  let ab : Int → Int := fun x => if x < 0 then -x else x
  rw [comp_all (fun x : Int => .int x) (fun x => .int (ab x)) (guard_one' rfl) ns fun y hy => ?_]
  · have e2 : (ns.map fun x => D.int (ab x)) = (ns.map ab).map .int := by simp
    rw [e2]
    generalize hcs : ns.map ab = cs
    have hcl : cs.length = ns.length := by rw [← hcs]; simp
    have a2 : ([O.scr ns, O.lst (ns.map .int)] ++ [O.lst (cs.map .int)])[2]? = some (.lst (cs.map .int)) := by simp
    have l2 := len_lst a2
    have w2 := walk_lst a2
    simp at l2 w2 a2
    simp [l2, w2]
    refine Run.imp (Q := fun f e T => f = .nx ∧ (∃ x m, e = [some (.ref 0), some (.ref 2), some (.int m), x] ∧ 0 ≤ m ∧ m < 2147483647) ∧ T = [.scr ns, .lst (ns.map .int), .lst (cs.map .int)]) ?_ ?_
    · refine Run.imp (for_fold cs.length (fun i (s : Unit) e T => (∃ x m, e = [some (.ref 0), some (.ref 2), some (.int m), x] ∧ 0 ≤ m ∧ m < 2147483647) ∧ T = [.scr ns, .lst (ns.map .int), .lst (cs.map .int)]) (fun x : Int => .int x) (fun _ _ => ()) (fun _ _ _ _ h => by obtain ⟨_, rfl⟩ := h; exact guard_one' rfl) cs 0 (by simp) (fun y hy i s e T hi h => ?_) () _ _ ⟨⟨none, _, rfl, by omega, by omega⟩, rfl⟩) fun f e T h => ⟨h.1, h.2.1, h.2.2⟩
      obtain ⟨⟨x, m, rfl, m1, m2⟩, rfl⟩ := h
      have mo : mulOk m 48271 = true := mulOk_r (by decide)
      simp [mo]
      exact ⟨_, _, ⟨rfl, rfl⟩, Int.emod_nonneg _ (show (2147483647 : Int) ≠ 0 by decide), Int.emod_lt_of_pos _ (show (0 : Int) < 2147483647 by decide)⟩
    · rintro f e T ⟨rfl, ⟨x, m, rfl, m1, m2⟩, rfl⟩
      have sr := sl_lrev (S := [O.scr ns, O.lst (ns.map .int), O.lst (cs.map .int)]) (n := 2) (xs := cs.map .int) rfl
      simp [sr]
      refine ⟨3, by decide, cs.reverse, 0, m, by simp, ?_, by simp, m1, m2, by simp; omega⟩
      simp
  · simp [N.wipe, ab]
end N.K75
set_option autoImplicit false
set_option linter.all false
set_option maxRecDepth 100000
set_option maxHeartbeats 1000000
namespace N.K75
open N
theorem pick_call {S : Sto} {Q : D → Sto → Prop} {b c n : Nat} {xs : List D} (hB : Bag b c S) (hn : n ≠ b ∧ n ≠ c) (hx : S[n]? = some (.lst xs)) (hl : 0 < xs.length) (hl2 : xs.length ≤ 1000) (k : ∀ x T, x ∈ xs → Bag b c T → Keep [b, c] S T → Q x T) (hlo : ∀ x ∈ xs, x.flat = true) : Ret (callI f__law_pick [.ref b, .ref n] S) Q := by
  have lt := hB.lt
  suffices run : Ret (f__law_pick [.ref b, .ref n] S) fun d T => d ∈ xs ∧ Bag b c T ∧ Keep [b, c] S T by
    refine call_ref (by simp [D.los, D.lo]) (run.imp fun d T ⟨h1, h2, h3⟩ => ⟨k d T h1 h2 h3, fun _ => k d _ h1 (h2.take lt.1 lt.2) h3.take⟩)
  rw [w_runF]
  refine ⟨rfl, ?_⟩
  simp [b__law_pick, len_lst hx]
  have hd : divOk (xs.length : Int) = true := divOk_nat hl (by omega)
  refine draw_call hB (by omega) hd fun v T h1 h2 h3 h4 => ?_
  obtain ⟨j, rfl⟩ := Int.eq_ofNat_of_zero_le h1
  have hj : j < xs.length := by omega
  have hx' : T[n]? = some (.lst xs) := h4.at hx (by simp [hn])
  rw [idx_lst T hx' (List.getElem?_eq_getElem hj)]
  exact ⟨List.getElem_mem hj, h3, h4⟩
theorem deeps_rowsL (rs : List (List Int)) : D.deeps (rs.map row) ≤ 59 := Nat.le_trans (deeps_map (n := 1) _ _ deep_row) (by decide)
theorem mixed_call {S : Sto} {Q : D → Sto → Prop} {b c : Nat} {rs : List (List Int)} (hB : Bag b c S) (hl : rs.length ≤ 1000) (k : ∀ (m : Nat) (ys : List (List Int)) T, (∀ y ∈ ys, y ∈ rs) → T[m]? = some (.lst (ys.map row)) → Bag b c T → Keep [b, c] S T → Q (.ref m) T) : Ret (callI f__law_mixed [.ref b, rows rs] S) Q := by
  have lt := hB.lt
  suffices run : Ret (f__law_mixed [.ref b, rows rs] S) fun d T => ∃ (m : Nat) (ys : List (List Int)), d = .ref m ∧ S.length ≤ m ∧ (∀ y ∈ ys, y ∈ rs) ∧ T[m]? = some (.lst (ys.map row)) ∧ Bag b c T ∧ Keep [b, c] S T by
    refine call_ref (by simp [D.los, D.lo]) (run.imp fun d T ⟨m, ys, e, h0, h1, h2, h3, h4⟩ => ?_)
    subst e
    exact ⟨k m ys T h1 h2 h3 h4, fun q => by
      simp [D.lo] at q
      omega⟩
  rw [w_runF]
  refine ⟨rfl, ?_⟩
  have hfu : fuel = 1000000000000 := rfl
  simp only [b__law_mixed, w_ss1, w_asg, w_tup, w_es1, w_es0, w_blt, w_var, w_lst, List.map_cons, List.map_nil, List.replicate, List.cons_append, List.nil_append, List.getElem?_cons_zero, List.getElem?_cons_succ, opt_some, bl_list, lstB, items_tup, new, ret_some, w_tgT, w_ts1, w_ts0, w_tgN, then_nx, w_wh]
  simp only [List.set_cons_succ, List.set_cons_zero]
  -- left at l, found at f
  generalize hl0 : S.length = l
  have hf0 : (S ++ [O.lst (rs.map row)]).length = l + 1 := by simp [hl0]
  rw [hf0]
  let P : Nat → Env → Sto → Prop := fun n e T => e = [some (.ref b), some (rows rs), some (.ref l), some (.ref (l + 1))] ∧ Bag b c T ∧ Keep [b, c] S T ∧ ∃ left found : List (List Int), T[l]? = some (.lst (left.map row)) ∧ T[l + 1]? = some (.lst (found.map row)) ∧ left.length = n ∧ left.length + found.length = rs.length ∧ (∀ y ∈ left, y ∈ rs) ∧ ∀ y ∈ found, y ∈ rs
  have ini : P rs.length [some (.ref b), some (rows rs), some (.ref l), some (.ref (l + 1))] (S ++ [O.lst (rs.map row)] ++ [O.lst []]) := by
    have ex : Ext S (S ++ [O.lst (rs.map row)] ++ [O.lst []]) := ⟨_, by rw [List.append_assoc]⟩
    refine ⟨rfl, hB.keep (Keep.ext ex), Keep.ext ex, rs, [], ?_, ?_, rfl, by simp, fun y h => h, by simp⟩
    · subst hl0; simp
    · subst hl0; simp
  refine Run.imp (Q := fun f e T => f = .nx ∧ ∃ n, P n e T) (wh_inv P ?_ fuel rs.length _ _ (by omega) ini) ?_
  · rintro n e T ⟨rfl, hB, hK, left, found, h1, h2, h3, h4, h5, h6⟩
    have hlS : S.length ≤ T.length := hK.1
    have h1' : (T ++ [O.lst []])[l]? = some (.lst (left.map row)) := (Ext.app T _).at h1
    have h2' : (T ++ [O.lst []])[l + 1]? = some (.lst (found.map row)) := (Ext.app T _).at h2
    have hN : (T ++ [O.lst []])[T.length]? = some (.lst []) := by simp
    have eq : eqV (T ++ [O.lst []]) (.ref l) (.ref T.length) = some (decide (left = [])) := by
      rw [eq_lst h1' hN (by simp) rfl (deeps_rowsL _) (by decide) (by have := okS_rows left; exact this) rfl]
      have := pyeqs_rows left []
      simp at this
      simpa using this
    have hB' : Bag b c (T ++ [O.lst []]) := hB.keep (Keep.ext (Ext.app T _))
    have hK' : Keep [b, c] S (T ++ [O.lst []]) := hK.trans (Keep.ext (Ext.app T _))
    simp [eq]
    by_cases hle : left = []
    · subst hle
      simp
      exact ⟨n, rfl, hB', hK', [], found, by simpa using h1', h2', by simpa using h3, by simpa using h4, by simp, h6⟩
    · simp [hle]
      have hpos : 0 < left.length := List.length_pos_iff.mpr hle
      have hd : divOk (left.length : Int) = true := divOk_nat hpos (by omega)
      rw [methT_lst (m := .append) h2' (by decide), methT_lst (m := .pop) h1' (by decide), len_lst h1']
      simp
      refine draw_call hB' (by omega) hd fun v U v1 v2 hBU hKU => ?_
      obtain ⟨j, rfl⟩ := Int.eq_ofNat_of_zero_le v1
      have hj : j < left.length := by omega
      have nb : l ≠ b ∧ l ≠ c ∧ l + 1 ≠ b ∧ l + 1 ≠ c := by omega
      have u1 : U[l]? = some (.lst (left.map row)) := hKU.at h1' (by simp [nb])
      have u2 : U[l + 1]? = some (.lst (found.map row)) := hKU.at h2' (by simp [nb])
      have pj := pop_ix (j := j) (x := row left[j]) u1 (by simp [hj])
      rw [pj]
      simp only [ret_some]
      have u2' : (U.set l (.lst ((left.map row).eraseIdx j)))[l + 1]? = some (.lst (found.map row)) := at_ne u2 (by omega)
      rw [app_lst u2' (by simp; omega)]
      simp only [ret_some]
      have er : (left.map row).eraseIdx j = (left.eraseIdx j).map row := eraseIdx_map' _ _ _
      have ml : (left.eraseIdx j).length + 1 = left.length := by rw [List.length_eraseIdx_of_lt hj]; omega
      have kk : Keep [b, c] S ((U.set l (.lst ((left.map row).eraseIdx j))).set (l + 1) (.lst (found.map row ++ [row left[j]]))) := by
        refine ⟨by simp; exact Nat.le_trans hK'.1 hKU.1, fun n hn hl => ?_⟩
        rw [List.getElem?_set_ne (by omega), List.getElem?_set_ne (by omega)]
        exact (hK'.trans hKU).2 n hn hl
      have bb : Bag b c ((U.set l (.lst ((left.map row).eraseIdx j))).set (l + 1) (.lst (found.map row ++ [row left[j]]))) := by
        obtain ⟨q0, cells, dg, mx, q1, q2, q⟩ := hBU
        exact ⟨q0, cells, dg, mx, at_ne (at_ne q1 nb.1) nb.2.2.1, at_ne (at_ne q2 nb.2.1) nb.2.2.2, q⟩
      refine ⟨left.length - 1, by omega, rfl, bb, kk, left.eraseIdx j, found ++ [left[j]], ?_, ?_, by omega, by simp; omega, fun y hy => h5 y (List.mem_of_mem_eraseIdx hy), fun y hy => ?_⟩
      · rw [← er]; exact at_ne (set_at u1) (by omega)
      · rw [List.map_append]; exact set_at u2'
      · rcases List.mem_append.mp hy with q | q
        · exact h6 y q
        · rw [List.mem_singleton.mp q]; exact h5 _ (List.getElem_mem hj)
  · rintro f e T ⟨rfl, n, rfl, hB, hK, left, found, h1, h2, h3, h4, h5, h6⟩
    simp
    exact ⟨found, h6, h2, hB, hK⟩
end N.K75
set_option autoImplicit false
set_option linter.all false
set_option maxRecDepth 100000
set_option maxHeartbeats 1000000
namespace N.K75
open N
/-! ### things judged -/
def okItem (x : Int) : Bool := decide (x.natAbs ≤ 1000000)
theorem integer_call {S : Sto} {Q : D → Sto → Prop} {x : Int} (k : Q (.bl true) S) : Ret (callI f_is_integer [.int x] S) Q := by
  refine call_flat (d := .bl true) rfl rfl ?_ k
  rw [w_runF]
  refine ⟨rfl, ?_⟩
  simp [b_is_integer, isiB, isiI]
theorem item_call {S : Sto} {Q : D → Sto → Prop} {x : Int} (k : Q (.bl (okItem x)) S) : Ret (callI f_is_item [.int x] S) Q := by
  refine call_flat (d := .bl (okItem x)) rfl rfl ?_ k
  rw [w_runF]
  refine ⟨rfl, ?_⟩
  simp [b_is_item]
  refine integer_call ?_
  simp [okItem]
  split <;> omega
theorem allB_lst {S : Sto} {n : Nat} {bs : List Bool} (h : S[n]? = some (.lst (bs.map .bl))) : allB S [.ref n] = some (.bl (bs.all id), S) := by
  simp only [allB, items_lst h, Option.bind_some, boolsD_map]
def okThing (r : List Int) : Bool := decide (r.length ≤ 64) && r.all okItem
theorem thing_call {S : Sto} {Q : D → Sto → Prop} {r : List Int} (hr : r.length ≤ 1000) (k : Q (.bl (okThing r)) S) : Ret (callI f_is_thing [row r] S) Q := by
  refine call_flat (d := .bl (okThing r)) (by simp [D.flats, D.flat]) rfl ?_ k
  rw [w_runF]
  refine ⟨rfl, ?_⟩
  have hz : (line : Nat) = 16777216 := rfl
  simp [b_is_thing, isiB, isiI]
  by_cases h : r.length ≤ 64
  · have h' : (r.length : Int) ≤ 64 := by omega
    simp [h']
    refine ⟨by omega, ?_⟩
    rw [comp_all (fun x : Int => .int x) (fun x => .bl (okItem x)) rfl r fun y hy => ?_]
    · have e : (r.map fun x => D.bl (okItem x)) = (r.map okItem).map .bl := by simp
      simp only [ret_some, List.nil_append, List.length_nil, e]
      rw [allB_lst rfl]
      simp [okThing, h, List.all_map]
    · simp [N.wipe]
      exact item_call ⟨rfl, rfl⟩
  · have h' : ¬ (r.length : Int) ≤ 64 := by omega
    simp [h', okThing, h]
theorem again_call {S : Sto} {Q : D → Sto → Prop} {rs : List (List Int)} (hn : rs.Nodup) (hl : rs.length ≤ 100000) (k : Q .non S) : Ret (callI f_again_place [rows rs] S) Q := by
  refine call_flat (d := .non) (by simp [D.flats, D.flat]) rfl ?_ k
  rw [w_runF]
  refine ⟨rfl, ?_⟩
  simp [b_again_place, pairsD, dputs, enumV_map]
  -- what is known: the things ahead
  refine Run.imp (for_inv (R := fun f e T => f = .nx ∧ ∃ a b, e = [some (rows rs), some (.ref 0), a, b]) (fun xs e T => ∃ i : Nat, i ≤ rs.length ∧ xs = (rs.zipIdx.drop i).map (fun p => .tup [.int (p.2 : Nat), row p.1]) ∧ (∃ a b, e = [some (rows rs), some (.ref 0), a, b]) ∧ T = [.dct (((rs.take i).map fun r => (r, D.bl true)).map fun p => (row p.1, p.2))])
    (fun x xs e T h => ?_) (fun e T h => ?_) _ _ _ ⟨0, by omega, by simp, ⟨none, none, rfl⟩, rfl⟩) fun f e T ⟨h1, a, b, h2⟩ => ?_
  · obtain ⟨i, hi, hx, ⟨a, b, rfl⟩, rfl⟩ := h
    have hlt : i < rs.length := by
      rcases Nat.lt_or_ge i rs.length with q | q
      · exact q
      · rw [List.drop_eq_nil_of_le (by simpa using q)] at hx
        cases hx
    have hd : rs.zipIdx.drop i = (rs[i], i) :: rs.zipIdx.drop (i + 1) := by
      rw [List.drop_eq_getElem_cons (by simpa using hlt)]
      simp
    rw [hd] at hx
    simp only [List.map_cons, List.cons.injEq] at hx
    obtain ⟨rfl, rfl⟩ := hx
    have at0 : ([O.dct (((rs.take i).map fun r => (r, D.bl true)).map fun p => (row p.1, p.2))] : Sto)[0]? = some (.dct (((rs.take i).map fun r => (r, D.bl true)).map fun p => (row p.1, p.2))) := rfl
    have fresh : ∀ p ∈ (rs.take i).map (fun r => (r, D.bl true)), p.1 ≠ rs[i] := by
      intro p hp
      obtain ⟨r, hr, rfl⟩ := List.mem_map.mp hp
      obtain ⟨j, hj, rfl⟩ := List.mem_iff_getElem.mp hr
      rw [List.length_take] at hj
      rw [List.getElem_take]
      intro q
      have := (List.getElem_inj hn).mp q
      omega
    refine ⟨rfl, ?_⟩
    have no : (((rs.take i).map fun r => (r, D.bl true)).any fun p => decide (p.1 = rs[i])) = false := by
      rw [List.any_eq_false]
      intro p hp
      simpa using fresh p hp
    rw [w_tgT]
    simp only [items_tup, opt_some, w_ts1, w_ts0, w_tgN, List.set_cons_succ, List.set_cons_zero]
    simp only [w_ss1, w_ifs, w_cmp, w_var, List.getElem?_cons_succ, List.getElem?_cons_zero, opt_some, w_c3, if_true, cmp_in, in_dct at0, no, w_c0, tru_bl, Bool.false_eq_true, if_false, w_ss0, then_nx, w_asg, w_bl, w_tgS, set_dct at0 rs[i] (.bl true) (by simp; omega) fresh]
    refine ⟨i + 1, hlt, rfl, ⟨_, _, rfl⟩, ?_⟩
    simp only [List.set_cons_zero]
    congr 3
    rw [List.take_succ, List.map_append]
    simp [List.getElem?_eq_getElem hlt]
  · obtain ⟨i, hi, hx, h2, rfl⟩ := h
    exact ⟨rfl, rfl, h2⟩
  · subst h1 h2
    simp
theorem list_error_call {S : Sto} {Q : D → Sto → Prop} {rs : List (List Int)} (hn : rs.Nodup) (hl : rs.length ≤ 5000) (ht : ∀ r ∈ rs, okThing r = true) (k : Q .non S) : Ret (callI f_list_error [rows rs] S) Q := by
  refine call_flat (d := .non) (by simp [D.flats, D.flat]) rfl ?_ k
  rw [w_runF]
  refine ⟨rfl, ?_⟩
  have h' : ¬ (5000 < (rs.length : Int)) := by omega
  simp [b_list_error, isiB, isiI, h', enumV_map]
  refine Run.imp (for_find (fun e => ∃ a b, e = [some (rows rs), a, b]) (fun p : List Int × Nat => .tup [.int (p.2 : Nat), row p.1]) (fun _ => false) (fun _ => .non) rfl _ (fun y hy e he => ?_) _ ⟨none, none, rfl⟩) fun f e T ⟨h1, ⟨a, b, h2⟩, h3⟩ => ?_
  · obtain ⟨a, b, rfl⟩ := he
    have hm : y.1 ∈ rs := by
      obtain ⟨r, i⟩ := y
      exact List.mem_of_getElem? (List.mk_mem_zipIdx_iff_getElem?.mp hy)
    have o := ht _ hm
    have hlen : y.1.length ≤ 1000 := by
      unfold okThing at o
      have := of_decide_eq_true (Bool.and_eq_true_iff.mp o).1
      omega
    simp
    refine thing_call hlen ?_
    simp [o]
  · subst h1 h2 h3
    have e : rs.zipIdx.find? (fun _ => false) = none := by simp
    rw [e]
    simp
    refine again_call hn (by omega) ?_
    simp [cmp_isnt]
end N.K75
set_option autoImplicit false
set_option linter.all false
set_option maxRecDepth 100000
set_option maxHeartbeats 1000000
namespace N.K75
open N
/-- the place of a thing in a list -/
def placeIn (rs : List (List Int)) (t : List Int) : D := ((rs.zipIdx.find? fun p => decide (p.1 = t)).map fun p => D.int (p.2 : Nat)).getD .non
theorem placeIn_flat (rs : List (List Int)) (t : List Int) : (placeIn rs t).flat = true := by
  unfold placeIn
  cases rs.zipIdx.find? fun p => decide (p.1 = t) <;> rfl
/-- {thing: place for place, thing in enumerate(near)}, what is left, what stands -/
theorem dcomp_rows {bind : D → Env → Sto → Option (Env × Sto)} {c : Env → Sto → Option (Bool × Sto)} {kx vx : Env → Sto → RE} {S : Sto} {e : Env}
    (h : ∀ (r : List Int) (i : Nat), Ret (bind (.tup [.int (i : Nat), row r]) e S) fun e1 S1 => S1 = S ∧ Ret (c e1 S) fun b S2 => b = true ∧ S2 = S ∧ Ret (kx e1 S) fun y S3 => y = row r ∧ S3 = S ∧ Ret (vx e1 S) fun z S4 => z = .int (i : Nat) ∧ S4 = S) :
    ∀ (ps : List (List Int × Nat)) (as : List (List Int × D)), (∀ p ∈ ps, ∀ a ∈ as, a.1 ≠ p.1) → (ps.map (·.1)).Nodup → as.length + ps.length ≤ 100000 →
      dcompL bind c kx vx [] e (ps.map fun p => .tup [.int (p.2 : Nat), row p.1]) (as.map fun p => (row p.1, p.2)) S = some ((as ++ ps.map fun p => (p.1, D.int (p.2 : Nat))).map fun p => (row p.1, p.2), S)
  | [], as, _, _, _ => by simp [dcompL]
  | p :: ps, as, h1, h2, h3 => by
    obtain ⟨e1, S1, q1, rfl, q2⟩ := (h p.1 p.2).get
    obtain ⟨b, S2, q3, rfl, rfl, q4⟩ := q2.get
    obtain ⟨y, S3, q5, rfl, rfl, q6⟩ := q4.get
    obtain ⟨z, S4, q7, rfl, rfl⟩ := q6.get
    have hz : (line : Nat) = 16777216 := rfl
    rw [List.map_cons]
    simp only [dcompL, guard_nil, if_true, q1, q3, q5, q7]
    rw [List.map_cons, List.nodup_cons] at h2
    simp only [List.length_cons] at h3
    rw [if_pos (by rw [keysOk_rows as p.1]; simp; omega), dput_rows p.1 _ as fun a ha => h1 p (by simp) a ha]
    rw [dcomp_rows h ps (as ++ [(p.1, D.int (p.2 : Nat))]) (fun q hq a ha => ?_) h2.2 (by simp; omega)]
    · simp
    · rcases List.mem_append.mp ha with z | z
      · exact h1 q (by simp [hq]) a z
      · rw [List.mem_singleton.mp z]
        exact fun w => h2.1 (List.mem_map.mpr ⟨q, hq, w.symm⟩)
theorem places_call {S : Sto} {Q : D → Sto → Prop} {rs ts : List (List Int)} (hn : rs.Nodup) (hl : rs.length ≤ 5000) (hl2 : ts.length ≤ 5000) (k : Q (.tup (ts.map (placeIn rs))) S) : Ret (callI f_places_of [rows rs, rows ts] S) Q := by
  have fl : D.flats (ts.map (placeIn rs)) = true := flats_map _ _ fun t => placeIn_flat rs t
  refine call_flat (d := .tup (ts.map (placeIn rs))) (by simp [D.flats, D.flat]) fl ?_ k
  rw [w_runF]
  refine ⟨rfl, ?_⟩
  have hz : (line : Nat) = 16777216 := rfl
  simp [b_places_of, enumV_map]
  refine ⟨by omega, ?_⟩
  have q := dcomp_rows (bind := bindT (.tgT [.tgN 3, .tgN 4])) (c := fun e S => thenT (evalE (.bl true) e S)) (kx := evalE (.var 4)) (vx := evalE (.var 3)) (S := []) (e := N.wipe [some (rows rs), some (rows ts), none, none, none] [3, 4]) (fun r i => by simp [N.wipe]) rs.zipIdx [] (by simp) (by simpa using hn) (by simp; omega)
  simp only [List.map_nil] at q
  rw [q]
  simp only [ret_some, List.nil_append, List.length_nil]
  generalize hps : (rs.zipIdx.map fun p => (p.1, D.int (p.2 : Nat))) = ps
  have at0 : ([O.dct (ps.map fun p => (row p.1, p.2))] : Sto)[0]? = some (.dct (ps.map fun p => (row p.1, p.2))) := rfl
  have pl : ∀ t, ((ps.find? fun p => decide (p.1 = t)).map (·.2)).getD .non = placeIn rs t := fun t => by
    subst hps
    unfold placeIn
    rw [List.find?_map]
    simp [Function.comp_def]
  refine ⟨by omega, ?_⟩
  rw [comp_all row (placeIn rs) rfl ts fun t ht => ?_]
  · simp
    rw [tup_lst (xs := ts.map (placeIn rs)) rfl]
    simp
  · simp [N.wipe, methT_dct at0, get_dct at0]
    rw [← pl t]
/-! ### lists turned, mirrored, led round, called otherwise -/
theorem turned_call {S : Sto} {Q : D → Sto → Prop} {rs : List (List Int)} (k : Q (rows rs.reverse) S) : Ret (callI f_turned_list [rows rs] S) Q := by
  refine call_flat (d := rows rs.reverse) (by simp [D.flats, D.flat]) (flat_rows _) ?_ k
  rw [w_runF]
  refine ⟨rfl, ?_⟩
  simp [b_turned_list, sl_rev, List.map_reverse]
def mir (rs : List (List Int)) : List (List Int) := rs.map List.reverse
theorem mirror_comp {S : Sto} {rs : List (List Int)} {e : Env} {n : Nat} (hn : n < e.length) : compL (bindT (.tgN n)) (fun e S => thenT (evalE (.bl true) e S)) (evalE (.slc (.var n) .abs .abs (.neg (.int 1)))) [] (N.wipe e [n]) (rs.map row) S = some ((mir rs).map row, S) := by
  rw [comp_all row (fun r => row r.reverse) rfl rs fun r hr => ?_]
  · simp [mir, Function.comp_def]
  · have h1 : ((N.wipe e [n]).set n (some (row r)))[n]? = some (some (row r)) := by rw [List.getElem?_set_self]; simpa [N.wipe] using hn
    simp [h1, sl_rev, List.map_reverse]
theorem mirrored_call {S : Sto} {Q : D → Sto → Prop} {rs : List (List Int)} (hl : rs.length ≤ 100000) (k : Q (rows (mir rs)) S) : Ret (callI f_mirrored_list [rows rs] S) Q := by
  refine call_flat (d := rows (mir rs)) (by simp [D.flats, D.flat]) (flat_rows _) ?_ k
  rw [w_runF]
  refine ⟨rfl, ?_⟩
  have hz : (line : Nat) = 16777216 := rfl
  simp [b_mirrored_list]
  refine ⟨by omega, ?_⟩
  rw [mirror_comp (by simp)]
  simp
  rw [tup_lst (xs := (mir rs).map row) rfl]
  simp
def led (rs : List (List Int)) (p : Nat) : List (List Int) := rs.drop p ++ rs.take p
theorem led_sl {S : Sto} {rs : List (List Int)} {p : Nat} (hp : p ≤ rs.length) : slcI S (rows rs) (.int p) .non .non = some (rows (rs.drop p), S) ∧ slcI S (rows rs) .non (.int p) .non = some (rows (rs.take p), S) := by
  have e : min p (rs.map row).length = p := Nat.min_eq_left (by simpa using hp)
  refine ⟨?_, ?_⟩
  · rw [sl_from _ (by omega)]
    simp only [Int.toNat_natCast, e]
    rw [← List.map_drop]
  · rw [sl_to _ (by omega)]
    simp only [Int.toNat_natCast, e]
    rw [← List.map_take]
theorem led_call {S : Sto} {Q : D → Sto → Prop} {rs : List (List Int)} {p : Nat} (hp : p ≤ rs.length) (hl : rs.length ≤ 100000) (k : Q (rows (led rs p)) S) : Ret (callI f_led_list [rows rs, .int p] S) Q := by
  refine call_flat (d := rows (led rs p)) (by simp [D.flats, D.flat]) (flat_rows _) ?_ k
  rw [w_runF]
  refine ⟨rfl, ?_⟩
  have hz : (line : Nat) = 16777216 := rfl
  simp [b_led_list, led_sl hp, led]
  omega
/-- two things called otherwise -/
def call2 (a b : Int) (r : List Int) : List Int := r.map fun x => if x = 0 then a else b
def called (a b : Int) (rs : List (List Int)) : List (List Int) := rs.map (call2 a b)
def Bits (rs : List (List Int)) : Prop := ∀ r ∈ rs, ∀ x ∈ r, x = 0 ∨ x = 1
theorem called_comp {S : Sto} {r : List Int} {a b : Int} {e : Env} {n m : Nat} (he : e[n]? = some (some (row [a, b]))) (hm : m < e.length) (hn : n ≠ m) (hb : ∀ x ∈ r, x = 0 ∨ x = 1) :
    compL (bindT (.tgN m)) (fun e S => thenT (evalE (.bl true) e S)) (evalE (.idx (.var n) (.var m))) [] (N.wipe e [m]) (r.map .int) S = some ((call2 a b r).map .int, S) := by
  rw [comp_all .int (fun x => .int (if x = 0 then a else b)) rfl r fun x hx => ?_]
  · simp [call2, Function.comp_def]
  · have h1 : ((N.wipe e [m]).set m (some (.int x)))[m]? = some (some (.int x)) := by rw [List.getElem?_set_self]; simpa [N.wipe] using hm
    have h2 : ((N.wipe e [m]).set m (some (.int x)))[n]? = some (some (row [a, b])) := by
      rw [List.getElem?_set_ne (Ne.symm hn)]
      simp only [N.wipe]
      rw [List.getElem?_set_ne (Ne.symm hn)]
      exact he
    simp [h1, h2]
    rcases hb x hx with rfl | rfl
    · rw [show idxI S (row [a, b]) (.int 0) = some (.int a) from idx_row S (r := [a, b]) (i := 0) (by simp)]
      simp
    · rw [show idxI S (row [a, b]) (.int 1) = some (.int b) from idx_row S (r := [a, b]) (i := 1) (by simp)]
      simp
/-- the inner comprehension leaves lists behind -/
theorem called_all {a b : Int} {e : Env} {n m l : Nat} (he : e[n]? = some (some (row [a, b]))) (hm : m < e.length) (hl : l < e.length) (hn : n ≠ m) (hn2 : n ≠ l) (hml : m ≠ l) : ∀ (rs : List (List Int)) (S : Sto), Bits rs → (∀ r ∈ rs, r.length ≤ 1000) →
    Ret (compL (bindT (.tgN l)) (fun e S => thenT (evalE (.bl true) e S)) (evalE (.blt .tuple [.comp (.idx (.var n) (.var m)) (.tgN m) (.wk (.var l)) (.bl true) [m]])) [] (N.wipe e [l]) (rs.map row) S) fun ys T => ys = (called a b rs).map row ∧ Ext S T
  | [], S, _, _ => by simp [compL, called, Ext.refl]
  | r :: rs, S, hb, hr => by
    have hz : (line : Nat) = 16777216 := rfl
    have ih := fun T => called_all he hm hl hn hn2 hml rs T (fun q hq => hb q (by simp [hq])) fun q hq => hr q (by simp [hq])
    have lr := hr r (by simp)
    have h1 : ((N.wipe e [l]).set l (some (row r)))[l]? = some (some (row r)) := by rw [List.getElem?_set_self]; simpa [N.wipe] using hl
    have h2 : ((N.wipe e [l]).set l (some (row r)))[n]? = some (some (row [a, b])) := by
      rw [List.getElem?_set_ne (Ne.symm hn2)]
      simp only [N.wipe]
      rw [List.getElem?_set_ne (Ne.symm hn2)]
      exact he
    have cc := called_comp (S := S) (r := r) (e := (N.wipe e [l]).set l (some (row r))) h2 (by simpa [N.wipe] using hm) hn (hb r (by simp))
    have one : evalE (.blt .tuple [.comp (.idx (.var n) (.var m)) (.tgN m) (.wk (.var l)) (.bl true) [m]]) ((N.wipe e [l]).set l (some (row r))) S = some (row (call2 a b r), S ++ [.lst ((call2 a b r).map .int)]) := by
      have : Ret (evalE (.blt .tuple [.comp (.idx (.var n) (.var m)) (.tgN m) (.wk (.var l)) (.bl true) [m]]) ((N.wipe e [l]).set l (some (row r))) S) fun d T => d = row (call2 a b r) ∧ T = S ++ [.lst ((call2 a b r).map .int)] := by
        simp [h1]
        refine ⟨by omega, ?_⟩
        rw [cc]
        simp
        rw [tup_lst (xs := (call2 a b r).map .int) (by simp)]
        simp
      obtain ⟨d, T, e1, rfl, rfl⟩ := this.get
      exact e1
    obtain ⟨ys, T, q1, q2, q3⟩ := (ih (S ++ [.lst ((call2 a b r).map .int)])).get
    rw [List.map_cons]
    simp only [compL, guard_nil, if_true]
    have b1 : bindT (.tgN l) (row r) (N.wipe e [l]) S = some ((N.wipe e [l]).set l (some (row r)), S) := by simp [bindT]
    rw [b1]
    simp only
    have t1 : thenT (evalE (.bl true) ((N.wipe e [l]).set l (some (row r))) S) = some (true, S) := by simp [evalE, thenT, tru]
    rw [t1]
    simp only [one, q1, ret_some]
    subst q2
    exact ⟨rfl, (Ext.app _ _).trans q3⟩
theorem called_call {S : Sto} {Q : D → Sto → Prop} {rs : List (List Int)} {a b : Int} (hb : Bits rs) (hr : ∀ r ∈ rs, r.length ≤ 1000) (hl : rs.length ≤ 100000) (k : Q (rows (called a b rs)) S) : Ret (callI f_called_list [rows rs, row [a, b]] S) Q := by
  refine call_flat (d := rows (called a b rs)) (by simp [D.flats, D.flat]) (flat_rows _) ?_ k
  rw [w_runF]
  refine ⟨rfl, ?_⟩
  have hz : (line : Nat) = 16777216 := rfl
  simp [b_called_list]
  refine ⟨by omega, ?_⟩
  refine Ret.imp (called_all (a := a) (b := b) (n := 1) (m := 3) (l := 2) rfl (by simp) (by simp) (by decide) (by decide) (by decide) rs [] hb hr) fun ys T ⟨h1, h2⟩ => ?_
  subst h1
  rw [tup_lst (xs := (called a b rs).map row) (by simp)]
  simp
end N.K75
set_option autoImplicit false
set_option linter.all false
set_option maxRecDepth 100000
set_option maxHeartbeats 1000000
namespace N.K75
open N
theorem with_call {S : Sto} {Q : D → Sto → Prop} {rs : List (List Int)} {p : Nat} {x : List Int} (hp : p < rs.length) (hl : rs.length ≤ 100000) (k : Q (rows (rs.set p x)) S) : Ret (callI f__law_with [rows rs, .int p, row x] S) Q := by
  refine call_flat (d := rows (rs.set p x)) (by simp [D.flats, D.flat]) (flat_rows _) ?_ k
  rw [w_runF]
  refine ⟨rfl, ?_⟩
  have hz : (line : Nat) = 16777216 := rfl
  have e1 : ((p : Int) + 1) = ((p + 1 : Nat) : Int) := by omega
  have s1 := (led_sl (S := []) (rs := rs) (p := p) (by omega)).2
  have s2 := (led_sl (S := []) (rs := rs) (p := p + 1) (by omega)).1
  simp [b__law_with, s1]
  rw [e1, s2]
  refine ⟨by omega, ?_⟩
  simp
  refine ⟨by omega, ?_⟩
  rw [List.set_eq_take_append_cons_drop]
  simp [hp]
/-! ### led on -/
theorem placed_call {S : Sto} {Q : D → Sto → Prop} {u : Bool} {a : List Int} {p : Nat} {x y : Int} (hx : a[p]? = some x) (hl : a.length ≤ 1000) (hy : okItem y = true) (hn : x ≠ y) (hu : u = true → (x - y).natAbs = 1) (k : Q (row (a.set p y)) S) :
    Ret (callI f_stepped_on [.str (if u then Wd.unit.s else Wd.place.s), row a, .tup [.int p, .int (x), .int y]] S) Q := by
  have hz : (line : Nat) = 16777216 := rfl
  have hp : p < a.length := (List.getElem?_eq_some_iff.mp hx).1
  have fl : D.flats [.str (if u then Wd.unit.s else Wd.place.s), row a, .tup [.int (p : Nat), .int (x), .int y]] = true := by simp [D.flats, D.flat]
  refine call_flat (d := row (a.set p y)) fl (flat_row _) ?_ k
  rw [w_runF]
  refine ⟨rfl, ?_⟩
  have i2 : ∀ S : Sto, inI S (.str (if u then Wd.unit.s else Wd.place.s)) (.tup [.str [112, 108, 97, 99, 101], .str [117, 110, 105, 116]]) = some true := fun S => by
    rw [in_two S (by cases u <;> decide)]; cases u <;> simp [Wd.s]
  have allI : ∀ S : Sto, compL (bindT (.tgN 4)) (fun e S => thenT (evalE (.bl true) e S)) (evalE (.call [105, 115, 95, 105, 110, 116, 101, 103, 101, 114] f_is_integer [.var 4])) [] (N.wipe [some (.str (if u then Wd.unit.s else Wd.place.s)), some (row a), some (.tup [.int (p : Nat), .int (x), .int y]), some (.int 3), none] [4]) ([(p : Int), x, y].map .int) S = some ([(p : Int), x, y].map fun _ => .bl true, S) := fun S => by
    refine comp_all .int (fun _ => .bl true) rfl _ fun x _ => ?_
    simp [N.wipe]
    exact integer_call ⟨rfl, rfl⟩
  simp only [List.map_cons, List.map_nil] at allI
  simp only [b_stepped_on, List.map_cons, List.map_nil, List.replicate, List.cons_append, List.nil_append, w_ss1, w_asg, w_ife, w_cmp, w_var, List.getElem?_cons_zero, List.getElem?_cons_succ, opt_some, w_tup, w_es1, w_es0, w_str, w_c3, if_true, cmp_in, i2, w_c0, tru_bl, w_int, w_tgN, List.set_cons_succ, List.set_cons_zero, then_nx]
  simp only [w_ifs, w_or, w_not, w_blt, w_es1, w_es0, w_var, List.getElem?_cons_zero, List.getElem?_cons_succ, opt_some, bl_isi, isiB, isiI, ret_some, tru_bl, w_or1, Bool.not_true, Bool.false_eq_true, if_false, w_cmp, bl_len, len_tup, w_c3, if_true, cmp_ne, eq_int, opt_map, w_c0, w_or0]
  simp only [List.length_cons, List.length_nil]
  simp [allI]
  rw [show ([O.lst [D.bl true, D.bl true, D.bl true]] : Sto) = [O.lst ([true, true, true].map .bl)] from rfl, allB_lst rfl]
  simp [i2]
  -- placed_on
  have fl2 := fl
  refine ⟨by omega, ?_⟩
  refine call_flat (Q := fun z _ => z = row (a.set p y)) (d := row (a.set p y)) fl (flat_row _) ?_ rfl
  rw [w_runF]
  refine ⟨rfl, ?_⟩
  have g0 : ∀ S : Sto, idxI S (row a) (.int p) = some (.int x) := fun S => idx_tup S hx
  simp only [b_placed_on, List.map_cons, List.map_nil, List.replicate, List.cons_append, List.nil_append, w_ss1, w_asg, w_var, List.getElem?_cons_zero, List.getElem?_cons_succ, opt_some, w_tgT, items_tup, w_ts1, w_ts0, w_tgN, List.set_cons_succ, List.set_cons_zero, then_nx]
  simp [g0, hp]
  refine item_call ?_
  simp [hy]
  have e1 : ((p : Int) + 1) = ((p + 1 : Nat) : Int) := by omega
  have m1 : min p (a.map D.int).length = p := Nat.min_eq_left (by simp; omega)
  have m2 : min (p + 1) (a.map D.int).length = p + 1 := Nat.min_eq_left (by simp; omega)
  have s1 : slcI [] (row a) .non (.int p) .non = some (row (a.take p), []) := by rw [sl_to _ (by omega)]; simp only [Int.toNat_natCast, m1]; rw [← List.map_take]
  have s2 : slcI [] (row a) (.int ((p : Int) + 1)) .non .non = some (row (a.drop (p + 1)), []) := by rw [e1, sl_from _ (by omega)]; simp only [Int.toNat_natCast, m2]; rw [← List.map_drop]
  have fin : a.length ≤ 1000 → (min p a.length + 1 ≤ line ∧ min p a.length + (1 + (a.length - (p + 1))) ≤ line) := fun h => by omega
  simp [hn, s1, s2]
  have st : List.map D.int (List.take p a) ++ D.int y :: List.map D.int (List.drop (p + 1) a) = (a.set p y).map D.int := by
    rw [List.set_eq_take_append_cons_drop]
    simp [hp]
  cases u with
  | false =>
    have st2 : List.take p (a.map D.int) ++ D.int y :: List.drop (p + 1) (a.map D.int) = (a.map D.int).set p (D.int y) := by
      rw [List.set_eq_take_append_cons_drop]
      simp [hp]
    have mn : min p a.length = p := Nat.min_eq_left (by omega)
    simp [Wd.s]
    exact ⟨by omega, by omega, st2⟩
  | true =>
    have hu' := hu rfl
    simp [Wd.s, st]
    generalize x - y = z at hu'
    have st2 : List.take p (a.map D.int) ++ D.int y :: List.drop (p + 1) (a.map D.int) = (a.map D.int).set p (D.int y) := by
      rw [List.set_eq_take_append_cons_drop]
      simp [hp]
    have mn : min p a.length = p := Nat.min_eq_left (by omega)
    split
    · rw [if_pos (by omega)]; exact ⟨by omega, by omega, st2⟩
    · rw [if_pos (by omega)]; exact ⟨by omega, by omega, st2⟩
/-! ### rows next to each other -/
theorem nextFlipped_call {S : Sto} {Q : D → Sto → Prop} {r : List Int} (hl : r.length ≤ 1000) (k : Q (if (plOf r).1 + 1 < 2 ^ r.length then row (rowAt r.length ((plOf r).1 + 1)) else .non) S) : Ret (callI f_next_flipped [row r] S) Q := by
  refine call_flat (d := if (plOf r).1 + 1 < 2 ^ r.length then row (rowAt r.length ((plOf r).1 + 1)) else .non) (by simp [D.flats, D.flat]) (by split; exact flat_row _; rfl) ?_ k
  rw [w_runF]
  refine ⟨rfl, ?_⟩
  simp [b_next_flipped]
  refine placeOf_call ?_
  simp
  refine all_call (by omega) ?_
  simp
  by_cases c : (plOf r).1 + 1 < 2 ^ r.length
  · simp [c]
    exact rowAt_call (by omega) rfl
  · simp [c]
    omega
/-- the flipped list -/
def flips (n : Nat) : List (List Int) := (List.range (2 ^ n)).map fun p : Nat => rowAt n p
theorem flips_len (n : Nat) : (flips n).length = 2 ^ n := by simp [flips]
theorem flips_call {S : Sto} {Q : D → Sto → Prop} {n : Nat} (hn : n ≤ 12) (k : Q (rows (flips n)) S) : Ret (callI f_flipped_list [.int n] S) Q := by
  refine call_flat (d := rows (flips n)) rfl (flat_rows _) ?_ k
  rw [w_runF]
  refine ⟨rfl, ?_⟩
  have hz : (line : Nat) = 16777216 := rfl
  have h' : ¬ ((12 : Int) < n) := by omega
  have p2 : 2 ^ n ≤ 4096 := Nat.le_trans (Nat.pow_le_pow_right (by decide) hn) (by decide)
  simp [b_flipped_list, h']
  refine all_call (by omega) ?_
  have e : rngI [.int (2 ^ n)] = some ((List.range (2 ^ n)).map fun k : Nat => .int k) := by
    have := rng_ok (n := 2 ^ n) (by omega)
    rwa [show (((2 ^ n : Nat)) : Int) = 2 ^ n by simp] at this
  simp [e]
  refine ⟨by omega, ?_⟩
  rw [comp_all (fun p : Nat => .int p) (fun p => row (rowAt n p)) rfl _ fun p hp => ?_]
  · simp
    rw [tup_lst (xs := (flips n).map row) (by simp [flips, Function.comp_def])]
    simp
  · simp [N.wipe]
    exact rowAt_call (by omega) ⟨rfl, rfl⟩
/-- the law's own row -/
def lawRow (n p : Nat) : List Int := (List.range n).map fun i => (((p ^^^ (p / 2)) / 2 ^ (n - 1 - i) &&& 1 : Nat) : Int)
theorem lawRow_call {S : Sto} {Q : D → Sto → Prop} {n p : Nat} (hn : n ≤ 1000) (k : Q (row (lawRow n p)) S) : Ret (callI f__law_row [.int n, .int p] S) Q := by
  refine call_flat (d := row (lawRow n p)) rfl (flat_row _) ?_ k
  rw [w_runF]
  refine ⟨rfl, ?_⟩
  have hz : (line : Nat) = 16777216 := rfl
  have e1 : (p : Int) / 2 ^ (1 : Int).toNat = ((p / 2 : Nat) : Int) := by simp
  have sh : ∀ S : Sto, binI S .shr (.int p) (.int 1) = some (.int ((p / 2 : Nat) : Int), S) := fun S => by
    simp only [binI]
    rw [if_pos (by decide), e1]
  have bx : ∀ S : Sto, binI S .bxor (.int p) (.int ((p / 2 : Nat) : Int)) = some (.int ((p ^^^ (p / 2) : Nat) : Int), S) := fun S => by
    simp only [binI]
    rw [if_pos (by rw [Bool.and_eq_true, decide_eq_true_eq, decide_eq_true_eq]; omega)]
    simp only [Int.toNat_natCast]
  simp only [b__law_row, List.map_cons, List.map_nil, List.replicate, List.cons_append, List.nil_append, w_ss1, w_asg, w_bin, w_var, List.getElem?_cons_zero, List.getElem?_cons_succ, opt_some, w_int, sh, bx, ret_some, w_tgN, List.set_cons_succ, List.set_cons_zero, then_nx]
  simp [rng_ok (show n ≤ 16777216 by omega)]
  refine ⟨by omega, ?_⟩
  rw [comp_all (fun i : Nat => .int i) (fun i => .int (((p ^^^ (p / 2)) / 2 ^ (n - 1 - i) &&& 1 : Nat) : Int)) rfl _ fun i hi => ?_]
  · simp
    rw [tup_lst (xs := (lawRow n p).map .int) (by simp [lawRow, Function.comp_def])]
    simp
  · have hi := List.mem_range.mp hi
    have e2 : (n : Int) - 1 - (i : Int) = ((n - 1 - i : Nat) : Int) := by omega
    have b1 : ∀ S : Sto, binI S .shr (.int ((p ^^^ (p / 2) : Nat) : Int)) (.int ((n - 1 - i : Nat) : Int)) = some (.int (((p ^^^ (p / 2)) / 2 ^ (n - 1 - i) : Nat) : Int), S) := fun S => by
      simp only [binI]
      rw [if_pos (by simp)]
      simp
    have b2 : ∀ (S : Sto) (q : Nat), binI S .band (.int (q : Nat)) (.int 1) = some (.int ((q &&& 1 : Nat) : Int), S) := fun S q => by
      simp only [binI]
      rw [if_pos (by simp)]
      simp
    simp only [N.wipe, w_tgN, List.set_cons_succ, List.set_cons_zero, w_bin, w_var, List.getElem?_cons_zero, List.getElem?_cons_succ, opt_some, w_int, b_sub, ret_some, e2, b1, b2]
    exact ⟨trivial, trivial, trivial⟩
/-! ### all steps of the law -/
theorem zip_next (rs : List (List Int)) : rs.zip (rs.drop 1) = (List.range (rs.length - 1)).map fun k => (th rs k, th rs (k + 1)) := by
  apply List.ext_getElem
  · simp
  · intro i h1 h2
    have hi : i < rs.length - 1 := by simpa using h2
    simp [th, List.getD_eq_getElem?_getD, List.getElem?_eq_getElem (show i < rs.length by omega), List.getElem?_eq_getElem (show i + 1 < rs.length by omega), Nat.add_comm]
theorem goes_call {S : Sto} {Q : D → Sto → Prop} (w : Wd) {rs : List (List Int)} (h : Fine rs) (k : Q (.bl (decide (fault w rs = none))) S) : Ret (callI f__law_goes [.str w.s, rows rs] S) Q := by
  refine call_flat (d := .bl (decide (fault w rs = none))) (by simp [D.flats, D.flat]) rfl ?_ k
  rw [w_runF]
  refine ⟨rfl, ?_⟩
  have hz : (line : Nat) = 16777216 := rfl
  have hl := h.1
  have s1 : slcI [] (rows rs) (.int 1) .non .non = some (rows (rs.drop 1), []) := by
    rw [sl_from _ (by omega)]
    congr 3
    cases rs with
    | nil => rfl
    | cons r rs => simp
  simp [b__law_goes, s1]
  rw [show (rs.map row).tail = (rs.drop 1).map row by simp, zipV_map, zip_next]
  refine ⟨by simp; omega, ?_⟩
  rw [List.map_map, comp_all ((fun p : List Int × List Int => D.tup [row p.1, row p.2]) ∘ fun k => (th rs k, th rs (k + 1))) (fun k => .bl (!bad w rs k)) rfl _ fun y hy => ?_]
  · have e : ((List.range (rs.length - 1)).map fun k => D.bl (!bad w rs k)) = ((List.range (rs.length - 1)).map fun k => !bad w rs k).map .bl := by simp [Function.comp_def]
    simp only [ret_some, e, List.nil_append, List.length_nil]
    rw [allB_lst rfl]
    simp only [ret_some, back_rt]
    congr 1
    unfold fault
    rw [Bool.eq_iff_iff]
    simp
  · simp [N.wipe]
    refine law_is_call w (th_len h _) (th_len h _) ?_
    simp [bad]
theorem lawCloses_call {S : Sto} {Q : D → Sto → Prop} (w : Wd) {rs : List (List Int)} (h : Fine rs) (k : Q (.bl (closes w rs)) S) : Ret (callI f__law_closes [.str w.s, rows rs] S) Q := by
  refine call_flat (d := .bl (closes w rs)) (by simp [D.flats, D.flat]) rfl ?_ k
  rw [w_runF]
  refine ⟨rfl, ?_⟩
  have e0 : ∀ S : Sto, eqV S (rows rs) (.tup []) = some (decide (rs = [])) := fun S => eq_rows S rs []
  simp [b__law_closes, e0]
  by_cases hr : rs = []
  · simp [hr, closes]
  simp [hr]
  have hp : 0 < rs.length := List.length_pos_iff.mpr hr
  refine goes_call w h ?_
  by_cases hf : fault w rs = none
  · simp [hf]
    by_cases h1 : rs.length = 1
    · simp [h1, closes, hr, hf]
    · have h1' : ¬ ((rs.length : Int) = 1) := by omega
      simp [h1']
      have l1 : idxI [] (rows rs) (.int (-1)) = some (row (th rs (rs.length - 1))) := by
        refine idx_last [] (f := row) ?_
        rw [List.getLast?_eq_getElem?]
        unfold th
        simp [List.getD_eq_getElem?_getD, List.getElem?_eq_getElem (show rs.length - 1 < rs.length by omega)]
      have l0 : idxI [] (rows rs) (.int 0) = some (row (th rs 0)) := th_at (k := 0) hp
      simp [l1, l0]
      refine law_is_call w (th_len h _) (th_len h _) ?_
      simp [closes, hr, hf, h1]
  · simp [hf, closes]
end N.K75
set_option autoImplicit false
set_option linter.all false
set_option maxRecDepth 1000000
set_option maxHeartbeats 1000000
namespace N.K75
open N
/-! ### the flipped lists of one to six switches, gone through -/
def ns6 : List Nat := [1, 2, 3, 4, 5, 6]
/-- the switch turned behind a place -/
def sw (n p : Nat) : Nat := (unl (rowAt n p) (rowAt n (p + 1 : Nat))).headD 0
def dueL (n : Nat) : List D := (List.range (2 ^ n - 1)).map fun p => .tup [.int (sw n p), .int ((th (flips n) p).getD (sw n p) 0), .int ((th (flips n) (p + 1)).getD (sw n p) 0)]
def checkA (n : Nat) : Bool :=
  decide (flips n).Nodup && ((flips n).all fun r => okThing r && (decide (r.length = n) && r.all fun x => decide (x = 0 ∨ x = 1)))
def checkB (n : Nat) : Bool := (List.range (2 ^ n)).all fun p => decide (lawRow n p = rowAt n p) && (decide ((plOf (th (flips n) p)).1 = p) && (decide (th (flips n) p = rowAt n p) && decide (placeIn (flips n) (th (flips n) p) = .int p)))
def checkC (n : Nat) : Bool := (decide (fault .place (flips n) = none) && decide (fault .unit (flips n) = none)) && (closes .place (flips n) && closes .unit (flips n))
def checkD (n : Nat) : Bool := decide (stepsL .place (flips n) = dueL n) && decide (stepsL .unit (flips n) = dueL n)
def checkE (n : Nat) : Bool := (List.range (2 ^ n - 1)).all fun p => let a := th (flips n) p; let b := th (flips n) (p + 1); let x := a.getD (sw n p) 0; let y := b.getD (sw n p) 0
  decide (sw n p < n) && (okItem y && (decide (x ≠ y) && (decide ((x - y).natAbs = 1) && decide (a.set (sw n p) y = b))))
def checkF (n : Nat) : Bool := decide (placeIn (flips n) (List.replicate n 2) = .non) && decide (placeIn (flips n) [] = .non)
def checkG (n : Nat) : Bool := (closes .place (flips n).reverse && closes .place (mir (flips n))) && ((List.range (2 ^ n)).all (fun p => closes .place (led (flips n) p)) && (closes .place (called 5 (-1) (flips n)) && (closes .place (called 1 0 (flips n)) && closes .place (called 0 1000000 (flips n)))))
theorem okA : ns6.all checkA = true := by decide +kernel
theorem okB : ns6.all checkB = true := by decide +kernel
theorem okC : ns6.all checkC = true := by decide +kernel
theorem okD : ns6.all checkD = true := by decide +kernel
theorem okE : ns6.all checkE = true := by decide +kernel
theorem okF : ns6.all checkF = true := by decide +kernel
theorem okG : ns6.all checkG = true := by decide +kernel
def isB (r : RE) (d : D) : Bool := match r with | some (x, _) => D.eqv x d | none => false
def isF (r : RE) (xs : List D) : Bool := match r with
  | some (.ref k, T) => decide (T[k]? = some (.ftp xs))
  | _ => false
def checkS (n : Nat) : Bool := (List.range (2 ^ n - 1)).all fun p => isB (f_switch_turned [.int n, .int p] []) (.int (sw n p))
theorem okS : ns6.all checkS = true := by decide +kernel
def sidesL (n : Nat) : List Int := (flips n).map fun r => r.sum % 2
def checkH (n : Nat) : Bool := isF (f_sides_of [.str Wd.place.s, rows (flips n)] []) ((sidesL n).map .int) && isB (f_side_counts [.str Wd.place.s, rows (flips n)] []) (.tup [.int (2 ^ n / 2 : Nat), .int (2 ^ n / 2 : Nat)])
def checkI (n : Nat) : Bool := (List.range (2 ^ n + 1)).all fun k => decide ((((sidesL n).take k).count 0 : Int) = (k + 1) / 2)
theorem okI : [1, 2, 3, 4].all checkI = true := by decide +kernel
theorem okH : [1, 2, 3, 4].all checkH = true := by decide +kernel
end N.K75
set_option autoImplicit false
set_option linter.all false
set_option maxRecDepth 1000000
set_option maxHeartbeats 2000000
namespace N.K75
open N
/-! ### what has been gone through, as facts -/
structure Facts (n : Nat) : Prop where
  lo : 1 ≤ n
  hi : n ≤ 6
  nd : (flips n).Nodup
  thing : ∀ r ∈ flips n, okThing r = true
  len : ∀ r ∈ flips n, r.length = n
  bits : Bits (flips n)
  law : ∀ p : Nat, p < 2 ^ n → lawRow n p = rowAt n p
  pl : ∀ p : Nat, p < 2 ^ n → (plOf (th (flips n) p)).1 = p
  th : ∀ p : Nat, p < 2 ^ n → K75.th (flips n) p = rowAt n p
  plIn : ∀ p : Nat, p < 2 ^ n → placeIn (flips n) (K75.th (flips n) p) = .int p
  f1 : fault .place (flips n) = none
  f2 : fault .unit (flips n) = none
  c1 : closes .place (flips n) = true
  c2 : closes .unit (flips n) = true
  s1 : stepsL .place (flips n) = dueL n
  s2 : stepsL .unit (flips n) = dueL n
  sw : ∀ p : Nat, p < 2 ^ n - 1 → sw n p < n ∧ okItem ((K75.th (flips n) (p + 1)).getD (K75.sw n p) 0) = true ∧ (K75.th (flips n) p).getD (K75.sw n p) 0 ≠ (K75.th (flips n) (p + 1)).getD (K75.sw n p) 0 ∧ ((K75.th (flips n) p).getD (K75.sw n p) 0 - (K75.th (flips n) (p + 1)).getD (K75.sw n p) 0).natAbs = 1 ∧ (K75.th (flips n) p).set (K75.sw n p) ((K75.th (flips n) (p + 1)).getD (K75.sw n p) 0) = K75.th (flips n) (p + 1)
  swc : ∀ p : Nat, p < 2 ^ n - 1 → isB (f_switch_turned [.int n, .int p] []) (.int (K75.sw n p)) = true
  no2 : placeIn (flips n) (List.replicate n 2) = .non
  no0 : placeIn (flips n) [] = .non
  g1 : closes .place (flips n).reverse = true
  g2 : closes .place (mir (flips n)) = true
  g3 : ∀ p : Nat, p < 2 ^ n → closes .place (led (flips n) p) = true
  g4 : closes .place (called 5 (-1) (flips n)) = true
  g5 : closes .place (called 1 0 (flips n)) = true
  g6 : closes .place (called 0 1000000 (flips n)) = true
theorem facts {n : Nat} (h1 : 1 ≤ n) (h2 : n ≤ 6) : Facts n := by
  have hm : n ∈ ns6 := by
    simp only [ns6, List.mem_cons, List.not_mem_nil, or_false]; omega
  have A := List.all_eq_true.mp okA n hm
  have B := List.all_eq_true.mp okB n hm
  have C := List.all_eq_true.mp okC n hm
  have Dd := List.all_eq_true.mp okD n hm
  have E := List.all_eq_true.mp okE n hm
  have F := List.all_eq_true.mp okF n hm
  have G := List.all_eq_true.mp okG n hm
  have Ss := List.all_eq_true.mp okS n hm
  simp only [checkA, Bool.and_eq_true, decide_eq_true_eq, List.all_eq_true] at A
  simp only [checkB, Bool.and_eq_true, decide_eq_true_eq, List.all_eq_true, List.mem_range] at B
  simp only [checkC, Bool.and_eq_true, decide_eq_true_eq] at C
  simp only [checkD, Bool.and_eq_true, decide_eq_true_eq] at Dd
  simp only [checkE, Bool.and_eq_true, decide_eq_true_eq, List.all_eq_true, List.mem_range] at E
  simp only [checkF, Bool.and_eq_true, decide_eq_true_eq] at F
  simp only [checkG, Bool.and_eq_true, List.all_eq_true, List.mem_range] at G
  simp only [checkS, List.all_eq_true, List.mem_range] at Ss
  exact ⟨h1, h2, A.1, fun r hr => (A.2 r hr).1, fun r hr => (A.2 r hr).2.1, fun r hr x hx => (A.2 r hr).2.2 x hx, fun p hp => (B p hp).1, fun p hp => (B p hp).2.1, fun p hp => (B p hp).2.2.1, fun p hp => (B p hp).2.2.2,
    C.1.1, C.1.2, C.2.1, C.2.2, Dd.1, Dd.2, fun p hp => ⟨(E p hp).1, (E p hp).2.1, (E p hp).2.2.1, (E p hp).2.2.2.1, (E p hp).2.2.2.2⟩, Ss, F.1, F.2, G.1.1, G.1.2, G.2.1, G.2.2.1, G.2.2.2.1, G.2.2.2.2⟩
section
variable {n : Nat}
theorem Facts.two (A : Facts n) : 2 ≤ 2 ^ n ∧ 2 ^ n ≤ 64 := ⟨Nat.le_trans (by decide) (Nat.pow_le_pow_right (by decide) A.lo), Nat.le_trans (Nat.pow_le_pow_right (by decide) A.hi) (by decide)⟩
theorem Facts.fine (A : Facts n) : Fine (flips n) := ⟨by rw [flips_len]; have := A.two; omega, fun r hr => by rw [A.len r hr]; have := A.hi; omega⟩
theorem bits_small {rs : List (List Int)} (h : Bits rs) : ∀ r ∈ rs, ∀ x ∈ r, small x := fun r hr x hx => by
  unfold small
  rcases h r hr x hx with rfl | rfl <;> decide
theorem Facts.rep (A : Facts n) (S : Sto) : repB S [rows (flips n)] = some (.rep (rows (flips n)), S) := by
  refine rep_ok (rd_rows S _) (okS_rows _) (shw_rows (bits_small A.bits)) ?_
  have := bulk_rows (rs := flips n) (m := 6) fun r hr => by rw [A.len r hr]; exact A.hi
  rw [flips_len] at this
  have := A.two
  omega
end
/-- the law's names, once its list stands -/
def En (b n : Nat) (e : Env) : Prop := ∃ a5 a6 a7 a8 a9 a12 a13 a14 a15 a16 a17 a18 a19 a20 a21 a22 : Option D,
  e = [some (.ref 0), some (.ref b), some (.int n), some (.rep (rows (flips n))), some (rows (flips n)), a5, a6, a7, a8, a9, some (rows (flips n)), some (.int (2 ^ n : Nat)), a12, a13, a14, a15, a16, a17, a18, a19, a20, a21, a22]
theorem step_append {ts : List St} {R : Fl → Env → Sto → Prop} (P : Env → Sto → Prop) : ∀ (ss : List St) (e : Env) (S : Sto), Run (execSs ss e S) (fun f e' S' => f = .nx ∧ P e' S') → (∀ e' S', P e' S' → Run (execSs ts e' S') R) → Run (execSs (ss ++ ts) e S) R
  | [], e, S, h, k => by
    rw [w_ss0] at h
    exact k e S h.2
  | s :: ss, e, S, h, k => by
    rw [List.cons_append, w_ss1]
    rw [w_ss1] at h
    refine h.imp fun f e' S' q => ?_
    cases f with
    | nx => exact step_append P ss e' S' q k
    | brk => exact absurd q.1 (by simp)
    | rt d => exact absurd q.1 (by simp)
/-- the first statements -/
theorem g1 {ns : List Int} (hn : ns.length ≤ 63) : Run (execSs (b_law.take 6) [some (.ref 0), none, none, none, none, none, none, none, none, none, none, none, none, none, none, none, none, none, none, none, none, none, none] [.scr ns]) fun f e S => f = .nx ∧ ∃ b c n, Facts n ∧ Bag b c S ∧ En b n e := by
  have hz : (line : Nat) = 16777216 := rfl
  simp only [b_law, List.take_succ_cons, List.take_zero]
  refine step (P := fun e S => ∃ b c, Bag b c S ∧ e = [some (.ref 0), some (.ref b), none, none, none, none, none, none, none, none, none, none, none, none, none, none, none, none, none, none, none, none, none]) ?_ ?_
  · simp
    exact bag_call rfl hn fun b c T h1 h2 => ⟨b, ⟨c, h1⟩, by simp⟩
  rintro e S ⟨b, c, hB, rfl⟩
  refine step (P := fun e S => ∃ n, Facts n ∧ Bag b c S ∧ e = [some (.ref 0), some (.ref b), some (.int (n : Nat)), none, none, none, none, none, none, none, none, none, none, none, none, none, none, none, none, none, none, none, none]) ?_ ?_
  · simp
    refine draw_call hB (by decide) (by decide) fun v T v1 v2 hB2 _ => ?_
    obtain ⟨j, rfl⟩ := Int.eq_ofNat_of_zero_le v1
    simp
    exact ⟨j + 1, facts (by omega) (by omega), hB2, by omega⟩
  rintro e S ⟨n, A, hB, rfl⟩
  have po : powOk 1 (n : Int) = true := by
    have := A.hi
    simp [powOk]; omega
  have hl := flips_len n
  have tw := A.two
  refine step (P := fun e S => Bag b c S ∧ e = [some (.ref 0), some (.ref b), some (.int (n : Nat)), none, none, none, none, none, none, none, some (rows (flips n)), some (.int (2 ^ n : Nat)), none, none, none, none, none, none, none, none, none, none, none]) ?_ ?_
  · simp
    refine flips_call (by have := A.hi; omega) ?_
    have sh : binI S .shl (.int 1) (.int n) = some (.int (2 ^ n : Nat), S) := by
      simp only [binI, po, if_true]
      simp
    simp [sh, hB]
  rintro e S ⟨hB, rfl⟩
  refine step (P := fun e S => Bag b c S ∧ e = [some (.ref 0), some (.ref b), some (.int (n : Nat)), some (.rep (rows (flips n))), none, none, none, none, none, none, some (rows (flips n)), some (.int (2 ^ n : Nat)), none, none, none, none, none, none, none, none, none, none, none]) ?_ ?_
  · simp [A.rep, hB]
  rintro e S ⟨hB, rfl⟩
  refine step (P := fun e S => Bag b c S ∧ e = [some (.ref 0), some (.ref b), some (.int (n : Nat)), some (.rep (rows (flips n))), some (rows (flips n)), none, none, none, none, none, some (rows (flips n)), some (.int (2 ^ n : Nat)), none, none, none, none, none, none, none, none, none, none, none]) ?_ ?_
  · have rg : rngI [.int ((2 ^ n : Nat) : Int)] = some ((List.range (2 ^ n)).map fun k : Nat => .int k) := rng_ok (by omega)
    have e2 : ((2 ^ n : Nat) : Int) = 2 ^ n := by simp
    rw [e2] at rg
    simp [rg]
    refine ⟨by omega, ?_⟩
    rw [comp_all (fun p : Nat => .int p) (fun p => row (rowAt n p)) rfl _ fun p hp => ?_]
    · simp
      rw [tup_lst (xs := (flips n).map row) (by simp [flips, Function.comp_def])]
      simp
      exact hB.keep (Keep.ext (Ext.app _ _))
    · simp [N.wipe]
      refine lawRow_call (by have := A.hi; omega) ?_
      rw [A.law p (List.mem_range.mp hp)]
      exact ⟨rfl, rfl⟩
  rintro e S ⟨hB, rfl⟩
  refine step (P := fun e S => Bag b c S ∧ e = [some (.ref 0), some (.ref b), some (.int (n : Nat)), some (.rep (rows (flips n))), some (rows (flips n)), none, none, none, none, none, some (rows (flips n)), some (.int (2 ^ n : Nat)), none, none, none, none, none, none, none, none, none, none, none]) ?_ ?_
  · simp [A.rep]
    refine list_error_call A.nd (by omega) A.thing ?_
    simp [cmp_isnt, hB]
  rintro e S ⟨hB, rfl⟩
  rw [w_ss0]
  exact ⟨rfl, b, c, n, A, hB, _, _, _, _, _, _, _, _, _, _, _, _, _, _, _, _, rfl⟩
end N.K75
set_option autoImplicit false
set_option linter.all false
set_option maxRecDepth 1000000
set_option maxHeartbeats 4000000
namespace N.K75
open N
def fbody : St → List St
  | .forS _ _ b => b
  | _ => []
/-- the names with a word in hand -/
def EnW (b n : Nat) (w : Wd) (e : Env) : Prop := ∃ a6 a7 a8 a9 a12 a13 a14 a15 a16 a17 a18 a19 a20 a21 a22 : Option D,
  e = [some (.ref 0), some (.ref b), some (.int n), some (.rep (rows (flips n))), some (rows (flips n)), some (.str w.s), a6, a7, a8, a9, some (rows (flips n)), some (.int (2 ^ n : Nat)), a12, a13, a14, a15, a16, a17, a18, a19, a20, a21, a22]
def dueR (n : Nat) : List (List Int) := (List.range (2 ^ n - 1)).map fun p => [(sw n p : Int), (th (flips n) p).getD (sw n p) 0, (th (flips n) (p + 1)).getD (sw n p) 0]
theorem due_eq (n : Nat) : dueL n = (dueR n).map row := by simp [dueL, dueR, Function.comp_def]
theorem due_small {n : Nat} (A : Facts n) : ∀ r ∈ dueR n, ∀ x ∈ r, small x := by
  intro r hr x hx
  obtain ⟨p, hp, rfl⟩ := List.mem_map.mp hr
  have hp := List.mem_range.mp hp
  have hs := (A.sw p hp).1
  have bit : ∀ (q k : Nat), q < 2 ^ n → k < n → small ((th (flips n) q).getD k 0) := fun q k hq hk => by
    have hm : th (flips n) q ∈ flips n := by
      unfold th
      rw [List.getD_eq_getElem?_getD, List.getElem?_eq_getElem (by rw [flips_len]; exact hq)]
      exact List.getElem_mem _
    have hl := A.len _ hm
    rw [List.getD_eq_getElem?_getD, List.getElem?_eq_getElem (by omega)]
    exact bits_small A.bits _ hm _ (List.getElem_mem _)
  have := A.hi
  simp only [List.mem_cons, List.not_mem_nil, or_false] at hx
  rcases hx with rfl | rfl | rfl
  · unfold small; omega
  · exact bit _ _ (by omega) hs
  · exact bit _ _ (by omega) hs
theorem due_rep {n : Nat} (A : Facts n) (S : Sto) : repB S [.tup (dueL n)] = some (.rep (.tup (dueL n)), S) := by
  rw [due_eq]
  refine rep_ok (rd_rows S _) (okS_rows _) (shw_rows (due_small A)) ?_
  have := bulk_rows (rs := dueR n) (m := 3) fun r hr => by
    obtain ⟨p, hp, rfl⟩ := List.mem_map.mp hr
    simp
  have e : (dueR n).length = 2 ^ n - 1 := by simp [dueR]
  rw [e] at this
  have tw := A.two
  exact Nat.le_trans this (by omega)
theorem due_len (n : Nat) : (dueL n).length = 2 ^ n - 1 := by simp [dueL]
theorem due_flats (n : Nat) : D.flats (dueL n) = true := by rw [due_eq]; simp
theorem switch_call {S : Sto} {Q : D → Sto → Prop} {n p : Nat} (A : Facts n) (hp : p < 2 ^ n - 1) (k : Q (.int (sw n p)) S) : Ret (callI f_switch_turned [.int n, .int p] S) Q := by
  refine call_flat (d := .int (sw n p)) rfl rfl ?_ k
  have := A.swc p hp
  unfold isB at this
  split at this
  · rename_i x T e
    rw [e]
    exact (D.eqv_iff _ _).mp this
  · cases this
theorem drop_last {α : Type} (xs : List α) (i : Nat) (h : i < xs.length) : xs.take (i + 1) = xs.take i ++ [xs[i]] := by
  rw [List.take_succ, List.getElem?_eq_getElem h]; rfl
theorem g2_body {b c n : Nat} {e : Env} {S : Sto} (u : Bool) (A : Facts n) (hB : Bag b c S) (hE : EnW b n (if u then .unit else .place) e) : Run (execSs (fbody (b_law.getD 6 .never)) e S) fun f e' S' => f = .nx ∧ Bag b c S' ∧ En b n e' := by
  have hz : (line : Nat) = 16777216 := rfl
  have hl := flips_len n
  have tw := A.two
  have hf : fault (if u then .unit else .place) (flips n) = none := by cases u; exact A.f1; exact A.f2
  have hc : closes (if u then .unit else .place) (flips n) = true := by cases u; exact A.c1; exact A.c2
  have hs : stepsL (if u then .unit else .place) (flips n) = dueL n := by cases u; exact A.s1; exact A.s2
  generalize hw : (if u then Wd.unit else Wd.place) = w at hf hc hs hE
  obtain ⟨a6, a7, a8, a9, a12, a13, a14, a15, a16, a17, a18, a19, a20, a21, a22, rfl⟩ := hE
  simp only [b_law, fbody, List.getD_cons_succ, List.getD_cons_zero]
  refine step (P := fun e S => Bag b c S ∧ e = [some (.ref 0), some (.ref b), some (.int n), some (.rep (rows (flips n))), some (rows (flips n)), some (.str w.s), a6, a7, a8, a9, some (rows (flips n)), some (.int (2 ^ n : Nat)), a12, a13, a14, a15, a16, a17, a18, a19, a20, a21, a22]) ?_ ?_
  · simp
    refine fault_call w A.fine ?_
    simp [hf, optD, cmp_isnt, pick]
    refine close_call w A.fine ?_
    simp [hc, hB]
  rintro e S ⟨hB, rfl⟩
  refine step (P := fun e S => Bag b c S ∧ e = [some (.ref 0), some (.ref b), some (.int n), some (.rep (rows (flips n))), some (rows (flips n)), some (.str w.s), a6, a7, a8, a9, some (rows (flips n)), some (.int (2 ^ n : Nat)), some (.tup (dueL n)), a13, a14, a15, a16, a17, a18, a19, a20, a21, a22]) ?_ ?_
  · simp
    refine steps_call w A.fine hf ?_
    simp [hs, hB]
  rintro e S ⟨hB, rfl⟩
  refine step (P := fun e S => ∃ q, Bag b c S ∧ q ≠ b ∧ q ≠ c ∧ S[q]? = some (.lst []) ∧ e = [some (.ref 0), some (.ref b), some (.int n), some (.rep (rows (flips n))), some (rows (flips n)), some (.str w.s), a6, some (.ref q), a8, a9, some (rows (flips n)), some (.int (2 ^ n : Nat)), some (.tup (dueL n)), a13, a14, a15, a16, a17, a18, a19, a20, a21, a22]) ?_ ?_
  · have lt := hB.lt
    simp
    exact ⟨hB.keep (Keep.ext (Ext.app _ _)), _, by omega, by omega, by simp, rfl⟩
  rintro e S ⟨q, hB, qb, qc, hq, rfl⟩
  refine step (P := fun e S => Bag b c S ∧ S[q]? = some (.lst (dueL n)) ∧ ∃ a17 a18 a19 a20 a21, e = [some (.ref 0), some (.ref b), some (.int n), some (.rep (rows (flips n))), some (rows (flips n)), some (.str w.s), a6, some (.ref q), a8, a9, some (rows (flips n)), some (.int (2 ^ n : Nat)), some (.tup (dueL n)), a13, a14, a15, a16, a17, a18, a19, a20, a21, a22]) ?_ ?_
  · have s1 : slcI S (rows (flips n)) (.int 1) .non .non = some (rows ((flips n).drop 1), S) := (led_sl (p := 1) (by omega)).1
    simp only [w_forS, w_enumz, w_var, w_slc, w_int, w_abs, List.getElem?_cons_succ, List.getElem?_cons_zero, opt_some, s1, ret_some, zipT]
    rw [zipV_map, zip_next, List.map_map, hl, enumV_range]
    refine for_range (2 ^ n - 1) _ (fun i e S => Bag b c S ∧ S[q]? = some (.lst ((dueL n).take i)) ∧ ∃ a17 a18 a20 a21, e = [some (.ref 0), some (.ref b), some (.int n), some (.rep (rows (flips n))), some (rows (flips n)), some (.str w.s), a6, some (.ref q), a8, a9, some (rows (flips n)), some (.int (2 ^ n : Nat)), some (.tup (dueL n)), a13, a14, a15, a16, a17, a18, a19, a20, a21, a22]) (fun i e S hi h => ?_) (fun e S h => ?_) ⟨hB, by simpa using hq, a17, a18, a20, a21, rfl⟩
    · obtain ⟨hB, hq, a17, a18, a20, a21, rfl⟩ := h
      obtain ⟨s1, s2⟩ := A.sw i hi
      have m1 : th (flips n) i ∈ flips n := by
        unfold th
        rw [List.getD_eq_getElem?_getD, List.getElem?_eq_getElem (by omega)]
        exact List.getElem_mem _
      have m2 : th (flips n) (i + 1) ∈ flips n := by
        unfold th
        rw [List.getD_eq_getElem?_getD, List.getElem?_eq_getElem (by omega)]
        exact List.getElem_mem _
      have l1 := A.len _ m1
      have l2 := A.len _ m2
      refine ⟨rfl, ?_⟩
      simp
      refine switch_call A hi ?_
      have i1 := idx_row S (r := th (flips n) i) (i := sw n i) (by omega)
      have i2 := idx_row S (r := th (flips n) (i + 1)) (i := sw n i) (by omega)
      have hd : (dueL n).length = 2 ^ n - 1 := due_len n
      have hlt : ((dueL n).take i).length < 16777216 := by rw [List.length_take]; omega
      have nx : (dueL n).take (i + 1) = (dueL n).take i ++ [.tup [.int (sw n i), .int ((th (flips n) i).getD (sw n i) 0), .int ((th (flips n) (i + 1)).getD (sw n i) 0)]] := by
        rw [drop_last _ i (by omega)]
        simp [dueL]
      have ap := app_lst (x := .tup [.int (sw n i), .int ((th (flips n) i).getD (sw n i) 0), .int ((th (flips n) (i + 1)).getD (sw n i) 0)]) hq hlt
      have mt := methT_lst (m := .append) hq (by decide)
      simp only [opt_some, w_tgN, List.set_cons_succ, List.set_cons_zero, then_nx, w_ss1, w_ex, w_meth, w_var, List.getElem?_cons_succ, List.getElem?_cons_zero, mt, w_es1, w_es0, w_tup, w_idx, i1, i2, ap, ret_some, w_ss0, true_and]
      refine ⟨?_, ?_⟩
      · obtain ⟨z, cells, dg, mx, z1, z2, z3⟩ := hB
        exact ⟨z, cells, dg, mx, at_ne z1 qb, at_ne z2 qc, z3⟩
      · rw [nx]; exact set_at hq
    · obtain ⟨hB, hq, b17, b18, b20, b21, rfl⟩ := h
      rw [List.take_of_length_le (by rw [due_len]; omega)] at hq
      exact ⟨rfl, rfl, hB, hq, b17, b18, a19, b20, b21, rfl⟩
  rintro e S ⟨hB, hq, b17, b18, b19, b20, b21, rfl⟩
  refine step (P := fun e S => Bag b c S ∧ S[q]? = some (.lst (dueL n)) ∧ e = [some (.ref 0), some (.ref b), some (.int n), some (.rep (rows (flips n))), some (rows (flips n)), some (.str w.s), a6, some (.ref q), a8, a9, some (rows (flips n)), some (.int (2 ^ n : Nat)), some (.tup (dueL n)), a13, a14, a15, a16, b17, b18, b19, b20, b21, a22]) ?_ ?_
  · simp [due_rep A, tup_lst hq, hB, hq]
  rintro e S ⟨hB, hq, rfl⟩
  -- one of the steps is drawn
  have ws : D.str w.s = .str (if u then Wd.unit.s else Wd.place.s) := by subst hw; cases u <;> rfl
  have hd : (dueL n).length = 2 ^ n - 1 := due_len n
  have eqn : eqV (S ++ [O.lst []]) (.ref q) (.ref S.length) = some false := by
    have h1 : (S ++ [O.lst []])[q]? = some (.lst (dueL n)) := (Ext.app S _).at hq
    have hN : (S ++ [O.lst []])[S.length]? = some (.lst []) := by simp
    rw [eq_lst h1 hN (due_flats n) rfl (by rw [due_eq]; exact deeps_rowsL _) (by decide) (by rw [due_eq]; exact okS_rows _) rfl]
    cases hdl : dueL n with
    | nil => rw [hdl] at hd; simp at hd; omega
    | cons x xs => rfl
  have h1 : (S ++ [O.lst []])[q]? = some (.lst (dueL n)) := (Ext.app S _).at hq
  have dv : divOk ((dueL n).length : Int) = true := divOk_nat (by omega) (by omega)
  refine step (P := fun e S => Bag b c S ∧ En b n e) ?_ fun e S h => ?_
  · simp only [w_ifs, w_cmp, w_var, List.getElem?_cons_succ, List.getElem?_cons_zero, opt_some, w_c3, if_true, w_lst, w_es0, ret_some, cmp_ne, eqn, opt_map, Bool.not_false, w_c0, tru_bl, w_ss1, w_asg, w_call, w_es1, w_blt, bl_len, len_lst h1]
    refine draw_call (hB.keep (Keep.ext (Ext.app _ _))) (by omega) dv fun v T v1 v2 hB2 hK => ?_
    obtain ⟨k, rfl⟩ := Int.eq_ofNat_of_zero_le v1
    have hk : k < 2 ^ n - 1 := by omega
    simp only [w_tgN, List.set_cons_succ, List.set_cons_zero, then_nx, w_ss1]
    obtain ⟨s1, s2, s3, s4, s5⟩ := A.sw k hk
    have m1 : th (flips n) k ∈ flips n := by
      unfold th
      rw [List.getD_eq_getElem?_getD, List.getElem?_eq_getElem (by omega)]
      exact List.getElem_mem _
    have l1 := A.len _ m1
    have hi := A.hi
    have t1 : ∀ S : Sto, idxI S (rows (flips n)) (.int k) = some (row (th (flips n) k)) := fun S => th_at (by omega)
    have t2 : ∀ S : Sto, idxI S (rows (flips n)) (.int ((k : Int) + 1)) = some (row (th (flips n) (k + 1))) := fun S => th_at (k := k + 1) (by omega)
    have t3 : ∀ S : Sto, idxI S (.tup (dueL n)) (.int k) = some (.tup [.int (sw n k), .int ((th (flips n) k).getD (sw n k) 0), .int ((th (flips n) (k + 1)).getD (sw n k) 0)]) := fun S => idx_tup S (r := List.range (2 ^ n - 1)) (f := fun p => .tup [.int (sw n p), .int ((th (flips n) p).getD (sw n p) 0), .int ((th (flips n) (p + 1)).getD (sw n p) 0)]) (x := k) (by simp [hk])
    have hx : (th (flips n) k)[sw n k]? = some ((th (flips n) k).getD (sw n k) 0) := by
      rw [List.getD_eq_getElem?_getD, List.getElem?_eq_getElem (by omega)]; rfl
    have so : Bag b c T ∧ En b n [some (.ref 0), some (.ref b), some (.int n), some (.rep (rows (flips n))), some (rows (flips n)), some (.str w.s), a6, some (.ref q), a8, a9, some (rows (flips n)), some (.int (2 ^ n : Nat)), some (.tup (dueL n)), a13, a14, a15, a16, b17, b18, some (.int k), b20, b21, a22] := ⟨hB2, _, _, _, _, _, _, _, _, _, _, _, _, _, _, _, _, rfl⟩
    have rp : ∀ (U : Sto) (m : Nat), U[m]? = some (.lst [row (th (flips n) (k + 1)), row (th (flips n) (k + 1))]) → repB U [.ref m] = some (.rep (.lst [row (th (flips n) (k + 1)), row (th (flips n) (k + 1))]), U) := by
      intro U m hm
      have m2 : th (flips n) (k + 1) ∈ flips n := by
        unfold th
        rw [List.getD_eq_getElem?_getD, List.getElem?_eq_getElem (by omega)]
        exact List.getElem_mem _
      have l2 := A.len _ m2
      generalize th (flips n) (k + 1) = r at hm m2 l2 ⊢
      have sm : ∀ x ∈ r, small x := bits_small A.bits r m2
      refine rep_lst (xs := [r, r].map row) hm (flats_rowsL [r, r]) (deeps_rowsL _) (okSs_rowsL _) (shws_all fun d hd => ?_) ?_
      · simp only [List.map_cons, List.map_nil, List.mem_cons, List.not_mem_nil, or_false, or_self] at hd
        rw [hd]; exact shw_row sm
      · have := bulk_rows (rs := [r, r]) (m := 6) fun x hx => by
          simp only [List.mem_cons, List.not_mem_nil, or_false, or_self] at hx
          rw [hx, l2]; exact hi
        exact Nat.le_trans this (by simp)
    simp only [w_ifs, w_cmp, w_blt, w_es1, w_es0, w_lst, w_call, w_var, List.getElem?_cons_succ, List.getElem?_cons_zero, opt_some, w_idx, t1, t3, ret_some]
    rw [ws]
    refine placed_call hx (by omega) s2 s3 (fun _ => s4) ?_
    rw [s5]
    refine nextFlipped_call (by omega) ?_
    have cond : (k : Int) + 1 < 2 ^ n := by
      have e : (2 : Int) ^ n = ((2 ^ n : Nat) : Int) := by simp
      rw [e]; omega
    rw [A.pl k (by omega), l1, if_pos cond]
    have hr : rowAt n ((k : Int) + 1) = th (flips n) (k + 1) := (A.th (k + 1) (by omega)).symm
    rw [hr]
    have a1 : ∀ (x : D), (T ++ [O.lst [x, x]])[T.length]? = some (.lst [x, x]) := fun x => by simp
    simp only [bl_repr, rp _ _ (a1 _), ret_some, w_c3, if_true, w_blt, w_bin, w_lst, w_es1, w_es0, w_idx, w_var, List.getElem?_cons_succ, List.getElem?_cons_zero, opt_some, w_int, b_add, t2]
    generalize hr2 : row (th (flips n) (k + 1)) = r at rp ⊢
    generalize hV : T ++ [O.lst [r, r]] = V
    have a2 : (V ++ [O.lst [r]])[V.length]? = some (.lst [r]) := by simp
    have a3 : (V ++ [O.lst [r]] ++ [O.lst [r, r]])[(V ++ [O.lst [r]]).length]? = some (.lst [r, r]) := by simp
    rw [mul_two a2]
    simp only [ret_some]
    rw [rp _ _ a3]
    have kk : Keep [] T (V ++ [O.lst [r]] ++ [O.lst [r, r]]) := Keep.ext (by
      subst hV
      exact ((Ext.app _ _).trans (Ext.app _ _)).trans (Ext.app _ _))
    simp only [ret_some, cmp_ne, eq_rep, opt_map, opt_some, Bool.not_true, w_c0, tru_bl, Bool.false_eq_true, if_false, w_ss0, then_nx]
    refine ⟨trivial, so.1.keep kk, ?_⟩
    rw [← ws]
    exact so.2
  · rw [w_ss0]
    exact ⟨rfl, h⟩
end N.K75
set_option autoImplicit false
set_option linter.all false
set_option maxRecDepth 1000000
set_option maxHeartbeats 4000000
namespace N.K75
open N
theorem En.w {b n : Nat} {w : Wd} {e : Env} (h : En b n e) : EnW b n w (e.set 5 (some (.str w.s))) := by
  obtain ⟨a5, a6, a7, a8, a9, a12, a13, a14, a15, a16, a17, a18, a19, a20, a21, a22, rfl⟩ := h
  exact ⟨_, _, _, _, _, _, _, _, _, _, _, _, _, _, _, rfl⟩
/-- a loop over words -/
theorem word_loop {b c n : Nat} {body : List St} (ws : List Wd) (h : ∀ w ∈ ws, ∀ e S, Bag b c S → EnW b n w e → Run (execSs body e S) fun f e' S' => f = .nx ∧ Bag b c S' ∧ En b n e') {e : Env} {S : Sto} (hB : Bag b c S) (hE : En b n e) :
    Run (forL (bindT (.tgN 5)) (execSs body) [] (ws.map fun w => .str w.s) e S) fun f e' S' => f = .nx ∧ Bag b c S' ∧ En b n e' := by
  refine for_inv (R := fun f e' S' => f = .nx ∧ Bag b c S' ∧ En b n e') (fun xs e S => (∃ vs : List Wd, (∀ w ∈ vs, w ∈ ws) ∧ xs = vs.map fun w => .str w.s) ∧ Bag b c S ∧ En b n e) (fun x xs e S q => ?_) (fun e S q => ⟨rfl, rfl, q.2⟩) _ _ _ ⟨⟨ws, fun w hw => hw, rfl⟩, hB, hE⟩
  obtain ⟨⟨vs, h1, h2⟩, h3, h4⟩ := q
  cases vs with
  | nil => cases h2
  | cons w vs =>
    simp only [List.map_cons, List.cons.injEq] at h2
    obtain ⟨rfl, rfl⟩ := h2
    refine ⟨rfl, ?_⟩
    rw [w_tgN]
    refine (h w (h1 w (by simp)) _ S h3 h4.w).imp fun f e' S' ⟨z1, z2⟩ => ?_
    subst z1
    exact ⟨⟨vs, fun v hv => h1 v (by simp [hv]), rfl⟩, z2⟩
theorem g2 {b c n : Nat} {e : Env} {S : Sto} (A : Facts n) (hB : Bag b c S) (hE : En b n e) : Run (execS (b_law.getD 6 .never) e S) fun f e' S' => f = .nx ∧ Bag b c S' ∧ En b n e' := by
  have q := word_loop (body := fbody (b_law.getD 6 .never)) [.place, .unit] (fun w hw e S hB hE => ?_) hB hE
  · simp only [b_law, List.getD_cons_succ, List.getD_cons_zero, fbody] at q ⊢
    rw [w_forS]
    simp only [w_wk, w_tup, w_es1, w_es0, w_str, ret_some, walk_tup, opt_some]
    exact q
  · simp only [List.mem_cons, List.not_mem_nil, or_false] at hw
    rcases hw with rfl | rfl
    · exact g2_body false A hB hE
    · exact g2_body true A hB hE
/-- the places that are no step apart, listed -/
def badL (w : Wd) (rs : List (List Int)) : List Nat := (List.range (rs.length - 1)).filter (bad w rs)
theorem bad_head (w : Wd) (rs : List (List Int)) : fault w rs = (badL w rs).head? := by
  unfold fault badL
  rw [List.head?_filter]
theorem eq_optD (S : Sto) (o : Option Nat) : eqV S (optD o) (optD o) = some true := by
  cases o with
  | none => rfl
  | some k => simp [optD]
theorem bad_comp {S : Sto} {w : Wd} {rs : List (List Int)} {e : Env} {i j : Nat} {we : Ex} (h : Fine rs) (hw : ∀ (e : Env) (S : Sto) (Q : D → Sto → Prop), e[5]? = some (some (.str w.s)) ∨ we = .str w.s → (we = .var 5 ∨ we = .str w.s) → Ret (evalE we e S) Q = Q (.str w.s) S) (hwe : we = .var 5 ∨ we = .str w.s) (h5 : e[5]? = some (some (.str w.s)) ∨ we = .str w.s) (he : e[i]? = some (some (rows rs))) (hj : j < e.length) (hij : i ≠ j) (h5j : 5 ≠ j) :
    compL (bindT (.tgN j)) (fun e S => thenT (evalE (.not (.call [95, 108, 97, 119, 95, 105, 115, 95, 115, 116, 101, 112] f__law_is_step [we, .idx (.var i) (.var j), .idx (.var i) (.bin .add (.var j) (.int 1))])) e S)) (evalE (.var j)) [] (N.wipe e [j]) ((List.range (rs.length - 1)).map fun k : Nat => .int k) S = some ((badL w rs).map fun k : Nat => .int k, S) := by
  refine comp_map (fun k : Nat => .int k) (bad w rs) (fun k : Nat => .int k) rfl _ fun k hk => ?_
  have hk := List.mem_range.mp hk
  have e1 : ((N.wipe e [j]).set j (some (.int (k : Nat))))[j]? = some (some (.int (k : Nat))) := by rw [List.getElem?_set_self]; simpa [N.wipe] using hj
  have e2 : ((N.wipe e [j]).set j (some (.int (k : Nat))))[i]? = some (some (rows rs)) := by
    rw [List.getElem?_set_ne (Ne.symm hij)]
    simp only [N.wipe]
    rw [List.getElem?_set_ne (Ne.symm hij)]
    exact he
  have e5 : ((N.wipe e [j]).set j (some (.int (k : Nat))))[5]? = some (some (.str w.s)) ∨ we = .str w.s := by
    rcases h5 with h5 | h5
    · left
      rw [List.getElem?_set_ne (Ne.symm h5j)]
      simp only [N.wipe]
      rw [List.getElem?_set_ne (Ne.symm h5j)]
      exact h5
    · exact .inr h5
  have c1 : ((k : Int) + 1) = ((k + 1 : Nat) : Int) := by omega
  simp only [w_tgN, w_thenT, w_not, w_call, w_es1, w_es0, hw _ _ _ e5 hwe, w_idx, w_var, e1, e2, opt_some, w_bin, w_int, ret_some, b_add, c1, th_at (S := S) (rs := rs) (k := k) (by omega), th_at (S := S) (rs := rs) (k := k + 1) (by omega)]
  refine ⟨trivial, law_is_call w (th_len h _) (th_len h _) ?_⟩
  simp [bad]
theorem g3_body {b c n : Nat} {e : Env} {S : Sto} (w : Wd) (A : Facts n) (hB : Bag b c S) (hE : EnW b n w e) : Run (execSs (fbody (b_law.getD 7 .never)) e S) fun f e' S' => f = .nx ∧ Bag b c S' ∧ En b n e' := by
  have hz : (line : Nat) = 16777216 := rfl
  have hl := flips_len n
  have tw := A.two
  obtain ⟨a6, a7, a8, a9, a12, a13, a14, a15, a16, a17, a18, a19, a20, a21, a22, rfl⟩ := hE
  simp only [b_law, fbody, List.getD_cons_succ, List.getD_cons_zero]
  have rg : rngI [.int (((2 ^ n : Nat) : Int) - 1)] = some ((List.range ((flips n).length - 1)).map fun k : Nat => .int k) := by rw [hl]; exact rng_less (by omega)
  have bl : (badL w (flips n)).length ≤ 64 := Nat.le_trans (List.length_filter_le _ _) (by simp [hl]; omega)
  refine step (P := fun e S => Bag b c S ∧ ∃ q, S[q]? = some (.lst ((badL w (flips n)).map fun k : Nat => .int k)) ∧ e = [some (.ref 0), some (.ref b), some (.int n), some (.rep (rows (flips n))), some (rows (flips n)), some (.str w.s), a6, a7, a8, some (.ref q), some (rows (flips n)), some (.int (2 ^ n : Nat)), a12, a13, a14, a15, a16, a17, a18, a19, a20, a21, a22]) ?_ ?_
  · simp only [w_asg, w_comp, w_rng, w_es1, w_es0, w_bin, w_var, List.getElem?_cons_succ, List.getElem?_cons_zero, opt_some, w_int, b_sub, ret_some, rg]
    refine ⟨by simp [hl]; omega, ?_⟩
    rw [bad_comp (we := .var 5) (w := w) A.fine (fun e S Q q _ => by
      rcases q with q | q
      · rw [w_var, q]; rfl
      · cases q) (.inl rfl) (.inl rfl) rfl (by simp) (by decide) (by decide)]
    simp only [ret_some, w_tgN, List.set_cons_succ, List.set_cons_zero]
    exact ⟨trivial, hB.keep (Keep.ext (Ext.app _ _)), _, by simp, rfl⟩
  rintro e S ⟨hB, q, hq, rfl⟩
  have eqn : eqV (S ++ [O.lst []]) (.ref q) (.ref S.length) = some (decide (badL w (flips n) = [])) := by
    have h1 : (S ++ [O.lst []])[q]? = some (.lst ((badL w (flips n)).map fun k : Nat => .int k)) := (Ext.app S _).at hq
    have hN : (S ++ [O.lst []])[S.length]? = some (.lst []) := by simp
    have e1 : ((badL w (flips n)).map fun k : Nat => D.int k) = ((badL w (flips n)).map fun k : Nat => (k : Int)).map .int := by simp
    rw [e1] at h1
    rw [eq_nil h1 hN]
    cases badL w (flips n) <;> rfl
  have bh := bad_head w (flips n)
  refine step (P := fun e S => Bag b c S ∧ e = [some (.ref 0), some (.ref b), some (.int n), some (.rep (rows (flips n))), some (rows (flips n)), some (.str w.s), a6, some (optD (fault w (flips n))), a8, some (.ref q), some (rows (flips n)), some (.int (2 ^ n : Nat)), a12, a13, a14, a15, a16, a17, a18, a19, a20, a21, a22]) ?_ ?_
  · have hB' := hB.keep (T := S ++ [O.lst []]) (Keep.ext (Ext.app _ _))
    simp [eqn]
    rcases hb : badL w (flips n) with _ | ⟨k, ks⟩
    · rw [hb] at bh
      simp [bh, optD, hB']
    · rw [hb] at bh hq
      have h1 : (S ++ [O.lst []])[q]? = some (.lst ((k :: ks).map fun k : Nat => D.int k)) := (Ext.app S _).at hq
      have i0 : idxI (S ++ [O.lst []]) (.ref q) (.int 0) = some (.int (k : Nat)) := idx_lst _ (i := 0) h1 rfl
      simp [i0, bh, optD, hB']
  rintro e S ⟨hB, rfl⟩
  refine step (P := fun e S => Bag b c S ∧ En b n e) ?_ fun e S h => ?_
  · simp
    refine fault_call w A.fine ?_
    simp [eq_optD]
    refine close_call w A.fine ?_
    refine lawCloses_call w A.fine ?_
    simp
    exact ⟨hB, _, _, _, _, _, _, _, _, _, _, _, _, _, _, _, _, rfl⟩
  · rw [w_ss0]
    exact ⟨rfl, h⟩
theorem g3 {b c n : Nat} {e : Env} {S : Sto} (A : Facts n) (hB : Bag b c S) (hE : En b n e) : Run (execS (b_law.getD 7 .never) e S) fun f e' S' => f = .nx ∧ Bag b c S' ∧ En b n e' := by
  have q := word_loop (body := fbody (b_law.getD 7 .never)) [.swap, .next, .door, .more] (fun w hw e S hB hE => g3_body w A hB hE) hB hE
  simp only [b_law, List.getD_cons_succ, List.getD_cons_zero, fbody] at q ⊢
  rw [w_forS]
  simp only [w_wk, w_tup, w_es1, w_es0, w_str, ret_some, walk_tup, opt_some]
  exact q
end N.K75
set_option autoImplicit false
set_option linter.all false
set_option maxRecDepth 1000000
set_option maxHeartbeats 4000000
namespace N.K75
open N
/-- lists that are told: short rows of short ints -/
structure Nice (rs : List (List Int)) : Prop where
  len : rs.length ≤ 64
  row : ∀ r ∈ rs, r.length ≤ 6
  sm : ∀ r ∈ rs, ∀ x ∈ r, small x
theorem Nice.fine {rs : List (List Int)} (h : Nice rs) : Fine rs := ⟨by have := h.len; omega, fun r hr => by have := h.row r hr; omega⟩
theorem Nice.bulk {rs : List (List Int)} (h : Nice rs) : D.bulk (rows rs) ≤ 448 := by
  have := bulk_rows (rs := rs) (m := 6) h.row
  have := h.len
  exact Nat.le_trans ‹_› (by omega)
theorem Facts.nice {n : Nat} (A : Facts n) : Nice (flips n) := ⟨by rw [flips_len]; exact A.two.2, fun r hr => by rw [A.len r hr]; exact A.hi, bits_small A.bits⟩
theorem Nice.rev {rs : List (List Int)} (h : Nice rs) : Nice rs.reverse := ⟨by simpa using h.len, fun r hr => h.row r (by simpa using hr), fun r hr => h.sm r (by simpa using hr)⟩
theorem Nice.mir {rs : List (List Int)} (h : Nice rs) : Nice (mir rs) := by
  refine ⟨by simpa [K75.mir] using h.len, fun r hr => ?_, fun r hr x hx => ?_⟩
  · obtain ⟨q, hq, rfl⟩ := List.mem_map.mp hr
    simpa using h.row q hq
  · obtain ⟨q, hq, rfl⟩ := List.mem_map.mp hr
    exact h.sm q hq x (by simpa using hx)
theorem led_mem {rs : List (List Int)} {p : Nat} {r : List Int} (h : r ∈ led rs p) : r ∈ rs := by
  rcases List.mem_append.mp h with h | h
  · exact List.mem_of_mem_drop h
  · exact List.mem_of_mem_take h
theorem Nice.led {rs : List (List Int)} (h : Nice rs) (p : Nat) : Nice (led rs p) := by
  refine ⟨?_, fun r hr => h.row r (led_mem hr), fun r hr => h.sm r (led_mem hr)⟩
  have := h.len
  simp [K75.led]
  omega
theorem Nice.called {rs : List (List Int)} (h : Nice rs) {a b : Int} (ha : small a) (hb : small b) : Nice (called a b rs) := by
  refine ⟨by simpa [K75.called] using h.len, fun r hr => ?_, fun r hr x hx => ?_⟩
  · obtain ⟨q, hq, rfl⟩ := List.mem_map.mp hr
    simpa [call2] using h.row q hq
  · obtain ⟨q, hq, rfl⟩ := List.mem_map.mp hr
    obtain ⟨y, hy, rfl⟩ := List.mem_map.mp hx
    split <;> assumption
/-- whether the list otherwise is told, and closes -/
theorem others_call {S : Sto} {Q : D → Sto → Prop} {b c n : Nat} (A : Facts n) (hB : Bag b c S) (k : ∀ T, Bag b c T → Q (.bl true) T) : Ret (callI f__law_are_others_right [.ref b, rows (flips n)] S) Q := by
  have lt := hB.lt
  have hz : (line : Nat) = 16777216 := rfl
  have hl := flips_len n
  have tw := A.two
  suffices run : Ret (f__law_are_others_right [.ref b, rows (flips n)] S) fun d T => d = .bl true ∧ Bag b c T by
    refine call_ref (by simp [D.los, D.lo]) (run.imp fun d T ⟨h1, h2⟩ => ?_)
    subst h1
    exact ⟨k T h2, fun _ => k _ (h2.take lt.1 lt.2)⟩
  rw [w_runF]
  refine ⟨rfl, ?_⟩
  simp only [b__law_are_others_right, List.map_cons, List.map_nil, List.replicate, List.cons_append, List.nil_append]
  -- the place, the naming
  refine step (P := fun e S => ∃ p x y, p < 2 ^ n ∧ ((x = 5 ∧ y = -1) ∨ (x = 1 ∧ y = 0) ∨ (x = 0 ∧ y = 1000000)) ∧ Bag b c S ∧ e = [some (.ref b), some (rows (flips n)), none, none, none, some (.int (p : Nat)), some (row [x, y]), none, none, none]) ?_ ?_
  · have hml : ((flips n).map row).length = 2 ^ n := by rw [List.length_map, hl]
    have dv2 : divOk (((flips n).map row).length : Int) = true := by rw [hml]; exact divOk_nat (by omega) (by omega)
    simp only [w_asg, w_tup, w_es1, w_es0, w_call, w_blt, w_var, List.getElem?_cons_succ, List.getElem?_cons_zero, opt_some, bl_len, len_tup, ret_some]
    refine draw_call hB (by rw [hml]; omega) dv2 fun v T v1 v2 hB2 hK => ?_
    obtain ⟨p, rfl⟩ := Int.eq_ofNat_of_zero_le v1
    have hp : p < 2 ^ n := by rw [hml] at v2; omega
    have hp6 : powOk 10 6 = true := by decide
    simp only [w_lst, w_es1, w_es0, w_tup, w_int, w_neg, w_bin, b_pow, hp6, if_true, ret_some]
    have lt2 := hB2.lt
    refine pick_call (xs := [.tup [.int 5, .int (-1)], .tup [.int 1, .int 0], .tup [.int 0, .int (10 ^ (6 : Int).toNat)]]) (hB2.keep (Keep.ext (Ext.app _ _))) (by omega) (by simp) (by simp) (by simp) (fun x U hx hB3 hK3 => ?_) (by simp [D.flat, D.flats])
    have e6 : (10 : Int) ^ (6 : Int).toNat = 1000000 := by decide
    rw [e6] at hx
    simp only [w_tgT, items_tup, opt_some, w_ts1, w_ts0, w_tgN, List.set_cons_succ, List.set_cons_zero]
    simp only [List.mem_cons, List.not_mem_nil, or_false] at hx
    rcases hx with rfl | rfl | rfl
    · exact ⟨trivial, p, 5, -1, hp, .inl ⟨rfl, rfl⟩, hB3, rfl⟩
    · exact ⟨trivial, p, 1, 0, hp, .inr (.inl ⟨rfl, rfl⟩), hB3, rfl⟩
    · exact ⟨trivial, p, 0, 1000000, hp, .inr (.inr ⟨rfl, rfl⟩), hB3, rfl⟩
  rintro e S ⟨p, x, y, hp, hxy, hB, rfl⟩
  have sx : small x ∧ small y := by rcases hxy with ⟨rfl, rfl⟩ | ⟨rfl, rfl⟩ | ⟨rfl, rfl⟩ <;> exact ⟨by unfold small; decide, by unfold small; decide⟩
  have cx : closes .place (called x y (flips n)) = true := by
    rcases hxy with ⟨rfl, rfl⟩ | ⟨rfl, rfl⟩ | ⟨rfl, rfl⟩
    · exact A.g4
    · exact A.g5
    · exact A.g6
  have nN := A.nice
  -- what is due
  generalize hW : [(flips n).reverse, mir (flips n), led (flips n) p, called x y (flips n)] = W
  have nice : ∀ rs ∈ W, Nice rs := by
    subst hW
    intro rs hrs
    simp only [List.mem_cons, List.not_mem_nil, or_false] at hrs
    rcases hrs with rfl | rfl | rfl | rfl
    · exact nN.rev
    · exact nN.mir
    · exact nN.led p
    · exact nN.called sx.1 sx.2
  have clos : ∀ rs ∈ W, closes .place rs = true := by
    subst hW
    intro rs hrs
    simp only [List.mem_cons, List.not_mem_nil, or_false] at hrs
    rcases hrs with rfl | rfl | rfl | rfl
    · exact A.g1
    · exact A.g2
    · exact A.g3 p hp
    · exact cx
  have l1 : ∀ S : Sto, slcI S (rows (flips n)) (.int p) .non .non = some (rows ((flips n).drop p), S) := fun S => (led_sl (by omega)).1
  have l2 : ∀ S : Sto, slcI S (rows (flips n)) .non (.int p) .non = some (rows ((flips n).take p), S) := fun S => (led_sl (by omega)).2
  have rv : ∀ S : Sto, slcI S (rows (flips n)) .non .non (.int (-1)) = some (rows (flips n).reverse, S) := fun S => by rw [sl_rev, ← List.map_reverse]
  refine step (P := fun e S => ∃ q, Bag b c S ∧ q ≠ b ∧ q ≠ c ∧ S[q]? = some (.lst [rows (flips n).reverse, rows (mir (flips n)), rows (led (flips n) p)]) ∧ e = [some (.ref b), some (rows (flips n)), some (.ref q), none, none, some (.int (p : Nat)), some (row [x, y]), none, none, none]) ?_ ?_
  · simp only [w_asg, w_lst, w_es1, w_es0, w_slc, w_var, List.getElem?_cons_succ, List.getElem?_cons_zero, opt_some, w_abs, w_neg, w_int, ret_some, rv, w_blt, w_comp, w_wk, walk_tup]
    refine ⟨by rw [List.length_map, hl]; omega, ?_⟩
    rw [mirror_comp (by simp)]
    simp only [ret_some, bl_tuple]
    rw [tup_lst (xs := (mir (flips n)).map row) (by simp)]
    simp only [ret_some, w_bin, w_slc, w_var, List.getElem?_cons_succ, List.getElem?_cons_zero, opt_some, w_abs, l1, l2, b_tadd, ret_if]
    refine ⟨by simp; omega, ?_⟩
    simp only [w_tgN, List.set_cons_succ, List.set_cons_zero]
    have lt := hB.lt
    have ap : List.map row (List.drop p (flips n)) ++ List.map row (List.take p (flips n)) = (led (flips n) p).map row := by rw [← List.map_append]; rfl
    rw [ap]
    have ex : Ext S (S ++ [O.lst ((mir (flips n)).map row)] ++ [O.lst [rows (flips n).reverse, rows (mir (flips n)), rows (led (flips n) p)]]) := (Ext.app _ _).trans (Ext.app _ _)
    exact ⟨trivial, _, hB.keep (Keep.ext ex), by simp; omega, by simp; omega, by simp, rfl⟩
  rintro e S ⟨q, hB, qb, qc, hq, rfl⟩
  refine step (P := fun e S => Bag b c S ∧ S[q]? = some (.lst (W.map rows)) ∧ e = [some (.ref b), some (rows (flips n)), some (.ref q), none, none, some (.int (p : Nat)), some (row [x, y]), none, none, none]) ?_ ?_
  · have mt := methT_lst (m := .append) hq (by decide)
    simp only [w_ex, w_meth, w_var, List.getElem?_cons_succ, List.getElem?_cons_zero, opt_some, mt, w_es1, w_es0, w_blt, w_comp, w_wk, walk_tup, ret_some, true_and]
    refine ⟨by rw [List.length_map, hl]; omega, ?_⟩
    refine Ret.imp (called_all (a := x) (b := y) (n := 6) (m := 9) (l := 8) (e := [some (.ref b), some (rows (flips n)), some (.ref q), none, none, some (.int (p : Nat)), some (row [x, y]), none, none, none]) rfl (by simp) (by simp) (by decide) (by decide) (by decide) (flips n) S A.bits fun r hr => by rw [A.len r hr]; have := A.hi; omega) fun ys T ⟨h1, h2⟩ => ?_
    subst h1
    simp only [bl_tuple]
    rw [tup_lst (xs := (called x y (flips n)).map row) (by simp)]
    simp only [ret_some]
    have hq' : (T ++ [O.lst ((called x y (flips n)).map row)])[q]? = some (.lst [rows (flips n).reverse, rows (mir (flips n)), rows (led (flips n) p)]) := (h2.trans (Ext.app _ _)).at hq
    rw [app_lst hq' (by simp)]
    simp only [ret_some]
    refine ⟨?_, ?_⟩
    · obtain ⟨z, cells, dg, mx, z1, z2, z3⟩ := hB.keep (Keep.ext (h2.trans (Ext.app T [O.lst ((called x y (flips n)).map row)])))
      exact ⟨z, cells, dg, mx, at_ne z1 qb, at_ne z2 qc, z3⟩
    · rw [← hW]; exact ⟨set_at hq', trivial⟩
  rintro e S ⟨hB, hq, rfl⟩
  refine step (P := fun e S => Bag b c S ∧ S[q]? = some (.lst (W.map rows)) ∧ ∃ t, S[t]? = some (.lst (W.map rows)) ∧ e = [some (.ref b), some (rows (flips n)), some (.ref q), some (.ref t), none, some (.int (p : Nat)), some (row [x, y]), none, none, none]) ?_ ?_
  · simp only [w_asg, w_lst, w_es1, w_es0, w_call, w_var, List.getElem?_cons_succ, List.getElem?_cons_zero, opt_some]
    refine turned_call ?_
    refine mirrored_call (by omega) ?_
    refine led_call (by omega) (by omega) ?_
    refine called_call A.bits (fun r hr => by rw [A.len r hr]; have := A.hi; omega) (by omega) ?_
    simp only [w_tgN, List.set_cons_succ, List.set_cons_zero]
    exact ⟨trivial, hB.keep (Keep.ext (Ext.app _ _)), (Ext.app _ _).at hq, _, by rw [← hW]; simp, rfl⟩
  rintro e S ⟨hB, hq, t, ht, rfl⟩
  refine step (P := fun e S => Bag b c S ∧ S[q]? = some (.lst (W.map rows)) ∧ S[t]? = some (.lst (W.map rows)) ∧ ∃ m, S[m]? = some (.lst [rows (flips n).reverse, rows (mir (flips n)), rows (led (flips n) p)]) ∧ e = [some (.ref b), some (rows (flips n)), some (.ref q), some (.ref t), some (.ref m), some (.int (p : Nat)), some (row [x, y]), none, none, none]) ?_ ?_
  · simp only [w_asg, w_lst, w_es1, w_es0, w_callk, w_var, List.getElem?_cons_succ, List.getElem?_cons_zero, opt_some, pick, List.filterMap_cons, List.filterMap_nil]
    refine turned_call ?_
    refine mirrored_call (by omega) ?_
    refine led_call (by omega) (by omega) ?_
    simp only [w_tgN, List.set_cons_succ, List.set_cons_zero]
    exact ⟨trivial, hB.keep (Keep.ext (Ext.app _ _)), (Ext.app _ _).at hq, (Ext.app _ _).at ht, _, by simp, rfl⟩
  rintro e S ⟨hB, hq, ht, m, hm, rfl⟩
  refine step (P := fun e S => Bag b c S ∧ S[q]? = some (.lst (W.map rows)) ∧ e = [some (.ref b), some (rows (flips n)), some (.ref q), some (.ref t), some (.ref m), some (.int (p : Nat)), some (row [x, y]), none, none, none]) ?_ ?_
  · have fW : D.flats (W.map rows) = true := flats_map _ _ fun rs => flat_rows rs
    have dW : D.deeps (W.map rows) ≤ 58 := Nat.le_trans (deeps_map (n := 2) _ _ deep_rows) (by decide)
    have oW : D.okSs (W.map rows) = true := okSs_all fun d hd => by
      obtain ⟨rs, _, rfl⟩ := List.mem_map.mp hd
      exact okS_rows rs
    have wW : D.shws (W.map rows) = true := shws_all fun d hd => by
      obtain ⟨rs, hrs, rfl⟩ := List.mem_map.mp hd
      exact shw_rows (nice rs hrs).sm
    have bW : D.bulks (W.map rows) ≤ 20000 := by
      have := bulks_le (m := 448) (ds := W.map rows) fun d hd => by
        obtain ⟨rs, hrs, rfl⟩ := List.mem_map.mp hd
        exact (nice rs hrs).bulk
      have e : (W.map rows).length = 4 := by rw [← hW]; rfl
      rw [e] at this
      omega
    have rp : ∀ (U : Sto) (k i j : Nat), U[k]? = some (.lst [.ref i, .ref j]) → U[i]? = some (.lst (W.map rows)) → U[j]? = some (.lst (W.map rows)) → repB U [.ref k] = some (.rep (.lst [.lst (W.map rows), .lst (W.map rows)]), U) := fun U k i j h1 h2 h3 => rep_lst2 h1 h2 h3 fW fW dW dW oW oW wW wW bW bW
    simp only [w_ifs, w_cmp, w_blt, w_es1, w_es0, w_lst, w_var, List.getElem?_cons_succ, List.getElem?_cons_zero, opt_some, w_bin, w_callk, pick, List.filterMap_cons, List.filterMap_nil]
    refine called_call A.bits (fun r hr => by rw [A.len r hr]; have := A.hi; omega) (by omega) ?_
    have hm' := (Ext.app S [O.lst [rows (called x y (flips n))]]).at hm
    have hc' : (S ++ [O.lst [rows (called x y (flips n))]])[S.length]? = some (.lst [rows (called x y (flips n))]) := by simp
    rw [add_lst hm' hc' (by simp)]
    have eW : [rows (flips n).reverse, rows (mir (flips n)), rows (led (flips n) p)] ++ [rows (called x y (flips n))] = W.map rows := by rw [← hW]; rfl
    rw [eW]
    simp only [ret_some, bl_repr]
    generalize hT : S ++ [O.lst [rows (called x y (flips n))]] = T
    have exT : Ext S T := by rw [← hT]; exact Ext.app _ _
    have exU : Ext S (T ++ [O.lst (W.map rows)] ++ [O.lst [D.ref t, D.ref T.length]]) := (exT.trans (Ext.app _ _)).trans (Ext.app _ _)
    rw [rp _ _ t T.length (by simp) (exU.at ht) (by simp)]
    simp only [ret_some, w_c3, if_true, w_blt, w_es1, w_es0, w_lst, w_var, List.getElem?_cons_succ, List.getElem?_cons_zero, opt_some, bl_repr]
    generalize hU : T ++ [O.lst (W.map rows)] ++ [O.lst [D.ref t, D.ref T.length]] = U at exU
    have exV : Ext S (U ++ [O.lst [D.ref q, D.ref q]]) := exU.trans (Ext.app _ _)
    rw [rp _ _ q q (by simp) (exV.at hq) (exV.at hq)]
    simp only [ret_some, cmp_ne, eq_rep, opt_map, opt_some, Bool.not_true, w_c0, tru_bl, Bool.false_eq_true, if_false, w_ss0]
    exact ⟨trivial, hB.keep (Keep.ext exV), exV.at hq, trivial⟩
  rintro e S ⟨hB, hq, rfl⟩
  rw [w_ss1, w_ret]
  simp only [w_blt, w_es1, w_es0, w_comp, w_wk, w_var, List.getElem?_cons_succ, List.getElem?_cons_zero, opt_some, walk_lst hq]
  refine ⟨by rw [← hW]; simp; omega, ?_⟩
  rw [comp_all rows (fun _ => .bl true) (guard_one' hq) W fun rs hrs => ?_]
  · have e : (W.map fun _ => D.bl true) = (W.map fun _ => true).map .bl := by simp
    simp only [ret_some, bl_all, e]
    rw [allB_lst (bs := W.map fun _ => true) (by simp)]
    simp
    exact hB.keep (Keep.ext (Ext.app _ _))
  · simp [N.wipe]
    refine close_call .place (nice rs hrs).fine ?_
    simp [clos rs hrs]
end N.K75
set_option autoImplicit false
set_option linter.all false
set_option maxRecDepth 1000000
set_option maxHeartbeats 4000000
namespace N.K75
open N
/-- the places of some things, one switch too many, none -/
theorem g4 {b c n : Nat} {e : Env} {S : Sto} (A : Facts n) (hB : Bag b c S) (hE : En b n e) : Run (execSs [b_law.getD 8 .never, b_law.getD 9 .never, b_law.getD 10 .never] e S) fun f e' S' => f = .nx ∧ Bag b c S' ∧ En b n e' := by
  have hz : (line : Nat) = 16777216 := rfl
  have hl := flips_len n
  have tw := A.two
  have hi := A.hi
  obtain ⟨a5, a6, a7, a8, a9, a12, a13, a14, a15, a16, a17, a18, a19, a20, a21, a22, rfl⟩ := hE
  simp only [b_law, List.getD_cons_succ, List.getD_cons_zero]
  refine step (P := fun e S => ∃ ts : List (List Int), ts.length ≤ 5 ∧ (∀ t ∈ ts, t ∈ flips n) ∧ Bag b c S ∧ e = [some (.ref 0), some (.ref b), some (.int n), some (.rep (rows (flips n))), some (rows (flips n)), a5, some (rows (ts ++ [List.replicate n 2, []])), a7, a8, a9, some (rows (flips n)), some (.int (2 ^ n : Nat)), a12, a13, a14, a15, a16, a17, a18, a19, a20, a21, a22]) ?_ ?_
  · simp only [w_asg, w_bin, w_slc, w_blt, w_es1, w_es0, w_call, w_var, List.getElem?_cons_succ, List.getElem?_cons_zero, opt_some]
    refine mixed_call hB (by omega) fun m ys T h1 h2 h3 h4 => ?_
    simp only [bl_tuple]
    rw [tup_lst h2]
    have s5 : ∀ S : Sto, slcI S (.tup (ys.map row)) .non (.int 5) .non = some (rows (ys.take 5), S) := fun S => by
      rw [sl_to _ (by decide), ← List.map_take]
      congr 4
      simp only [List.length_map]
      rw [show Int.toNat 5 = 5 from rfl]
      rcases Nat.le_total 5 ys.length with h | h
      · rw [Nat.min_eq_left h]
      · rw [Nat.min_eq_right h, List.take_of_length_le (Nat.le_refl _), List.take_of_length_le h]
    have mn : ∀ S : Sto, binI S .mul (.tup [.int 2]) (.int n) = some (row (List.replicate n 2), S) := fun S => by
      simp only [binI]
      rw [if_pos (by simp; omega)]
      congr 3
      simp [repL]
    simp only [ret_some, w_abs, w_int, s5, w_tup, w_es1, w_es0, w_bin, w_var, List.getElem?_cons_succ, List.getElem?_cons_zero, opt_some, mn, b_tadd, ret_if, w_tgN, List.set_cons_succ, List.set_cons_zero]
    refine ⟨by simp; omega, trivial, ys.take 5, by simp; omega, fun t ht => h1 t (List.mem_of_mem_take ht), h3, ?_⟩
    simp
  rintro e S ⟨ts, hts, hm, hB, rfl⟩
  -- where they stand
  have at_ : ∀ t ∈ ts, ∃ p, p < 2 ^ n ∧ t = th (flips n) p := fun t ht => by
    obtain ⟨p, hp, e⟩ := List.mem_iff_getElem.mp (hm t ht)
    refine ⟨p, by omega, ?_⟩
    unfold th
    rw [List.getD_eq_getElem?_getD, List.getElem?_eq_getElem hp, ← e]; rfl
  have pl : ∀ t ∈ ts, placeIn (flips n) t = .int (plOf t).1 ∧ small (plOf t).1 := fun t ht => by
    obtain ⟨p, hp, rfl⟩ := at_ t ht
    rw [A.plIn p hp, A.pl p hp]
    exact ⟨rfl, by unfold small; omega⟩
  generalize hDu : (ts.map fun t => D.int (plOf t).1) ++ [D.non, D.non] = Du
  have same : (ts ++ [List.replicate n 2, []]).map (placeIn (flips n)) = Du := by
    rw [← hDu, List.map_append]
    congr 1
    · exact List.map_congr_left fun t ht => (pl t ht).1
    · simp [A.no2, A.no0]
  refine step (P := fun e S => Bag b c S ∧ e = [some (.ref 0), some (.ref b), some (.int n), some (.rep (rows (flips n))), some (rows (flips n)), a5, some (rows (ts ++ [List.replicate n 2, []])), some (.tup Du), a8, a9, some (rows (flips n)), some (.int (2 ^ n : Nat)), a12, a13, a14, a15, a16, a17, a18, a19, a20, a21, a22]) ?_ ?_
  · have s2 : slcI S (rows (ts ++ [List.replicate n 2, []])) .non (.int (-2)) .non = some (rows ts, S) := by
      have e1 : (-2 + ((ts.length : Int) + 2)).toNat = ts.length := by omega
      simp only [slcI, optI, slc, cut, sIx]
      simp
      rw [e1, List.take_append_of_le_length (by simp)]
      rw [List.take_of_length_le (by simp)]
    simp only [w_asg, w_bin, w_blt, w_es1, w_es0, w_comp, w_wk, w_slc, w_var, List.getElem?_cons_succ, List.getElem?_cons_zero, opt_some, w_abs, w_neg, w_int, ret_some, s2, walk_tup]
    refine ⟨by simp; omega, ?_⟩
    rw [comp_all row (fun t => .int (plOf t).1) rfl ts fun t ht => ?_]
    · simp only [ret_some, bl_tuple]
      rw [tup_lst (xs := ts.map fun t => .int (plOf t).1) (by simp)]
      simp only [ret_some, w_tup, w_es1, w_es0, w_non, b_tadd, ret_if, w_tgN, List.set_cons_succ, List.set_cons_zero]
      refine ⟨by simp; omega, trivial, hB.keep (Keep.ext (Ext.app _ _)), ?_⟩
      rw [hDu]
    · simp only [w_tgN, w_call, w_es1, w_es0, w_var]
      simp [N.wipe]
      exact placeOf_call ⟨rfl, rfl⟩
  rintro e S ⟨hB, rfl⟩
  have fDu : D.flats Du = true := flats_all fun d hd => by
    rw [← same] at hd
    obtain ⟨t, _, rfl⟩ := List.mem_map.mp hd
    exact placeIn_flat _ _
  have sDu : ∀ d ∈ Du, (∃ i, d = .int i ∧ small i) ∨ d = .non := fun d hd => by
    rw [← hDu] at hd
    rcases List.mem_append.mp hd with h | h
    · obtain ⟨t, ht, rfl⟩ := List.mem_map.mp h
      exact .inl ⟨_, rfl, (pl t ht).2⟩
    · simp at h; exact .inr h
  have deDu : D.deep (.tup Du) ≤ 1 := by
    simp only [D.deep]
    have : D.deeps Du ≤ 0 := deeps_le fun d hd => by
      rcases sDu d hd with ⟨i, rfl, _⟩ | rfl <;> exact Nat.le_refl 0
    omega
  have okDu : D.okSs Du = true := okSs_all fun d hd => by
    rcases sDu d hd with ⟨i, rfl, _⟩ | rfl <;> rfl
  have shDu : D.shws Du = true := shws_all fun d hd => by
    rcases sDu d hd with ⟨i, rfl, h⟩ | rfl
    · exact shw_int h
    · rfl
  have lDu : Du.length ≤ 7 := by rw [← hDu]; simp; omega
  have buDu : D.bulks Du ≤ 7 := by
    have := bulks_le (m := 0) (ds := Du) fun d hd => by
      rcases sDu d hd with ⟨i, rfl, _⟩ | rfl <;> exact Nat.le_refl 0
    omega
  have rp : ∀ (U : Sto) (k : Nat), U[k]? = some (.lst [.tup Du, .tup Du]) → repB U [.ref k] = some (.rep (.lst [.tup Du, .tup Du]), U) := fun U k h => by
    refine rep_lst h ?_ ?_ ?_ ?_ ?_
    · show (D.flats Du && (D.flats Du && true)) = true
      rw [fDu]; rfl
    · refine Nat.le_trans (deeps_le (n := 1) fun d hd => ?_) (by decide)
      simp only [List.mem_cons, List.not_mem_nil, or_false, or_self] at hd
      rw [hd]; exact deDu
    · show (D.okSs Du && (D.okSs Du && true)) = true
      rw [okDu]; rfl
    · show (D.shws Du && (D.shws Du && true)) = true
      rw [shDu]; rfl
    · show D.bulks Du + 1 + (D.bulks Du + 1 + 0) ≤ 50000
      omega
  refine step (P := fun e S => Bag b c S ∧ En b n e) ?_ fun e S h => ?_
  · have tl : (ts ++ [List.replicate n 2, []]).length ≤ 5000 := by simp; omega
    simp only [w_ifs, w_cmp, w_blt, w_es1, w_es0, w_lst, w_call, w_callk, pick, List.filterMap_cons, List.filterMap_nil, w_var, List.getElem?_cons_succ, List.getElem?_cons_zero, opt_some]
    refine places_call A.nd (by omega) tl ?_
    refine places_call A.nd (by omega) tl ?_
    rw [same]
    simp only [bl_repr]
    rw [rp _ _ (by simp)]
    simp only [ret_some, w_c3, if_true, w_blt, w_es1, w_es0, w_lst, w_var, List.getElem?_cons_succ, List.getElem?_cons_zero, opt_some, bl_repr]
    rw [rp _ _ (by simp)]
    simp only [ret_some, cmp_ne, eq_rep, opt_map, opt_some, Bool.not_true, w_c0, tru_bl, Bool.false_eq_true, if_false, w_ss0]
    exact ⟨trivial, hB.keep (Keep.ext ((Ext.app _ _).trans (Ext.app _ _))), _, _, _, _, _, _, _, _, _, _, _, _, _, _, _, _, rfl⟩
  · rw [w_ss0]
    exact ⟨rfl, h⟩
theorem g5 {b c n : Nat} {e : Env} {S : Sto} (A : Facts n) (hB : Bag b c S) (hE : En b n e) : Run (execS (b_law.getD 11 .never) e S) fun f e' S' => f = .nx ∧ Bag b c S' ∧ En b n e' := by
  obtain ⟨a5, a6, a7, a8, a9, a12, a13, a14, a15, a16, a17, a18, a19, a20, a21, a22, rfl⟩ := hE
  simp only [b_law, List.getD_cons_succ, List.getD_cons_zero]
  simp only [w_ifs, w_not, w_call, w_es1, w_es0, w_var, List.getElem?_cons_succ, List.getElem?_cons_zero, opt_some]
  refine others_call A hB fun T hT => ?_
  simp only [tru_bl, opt_some, Bool.not_true, Bool.false_eq_true, if_false, w_ss0]
  exact ⟨trivial, hT, _, _, _, _, _, _, _, _, _, _, _, _, _, _, _, _, rfl⟩
theorem set_mem {rs : List (List Int)} {p : Nat} {x r : List Int} (h : r ∈ rs.set p x) : r ∈ rs ∨ r = x := by
  rcases List.mem_or_eq_of_mem_set h with h | h
  · exact .inl h
  · exact .inr h
/-- two things exchanged -/
theorem g6 {b c n : Nat} {e : Env} {S : Sto} (A : Facts n) (hB : Bag b c S) (hE : En b n e) : Run (execSs [b_law.getD 12 .never, b_law.getD 13 .never, b_law.getD 14 .never, b_law.getD 15 .never] e S) fun f e' S' => f = .nx ∧ Bag b c S' ∧ En b n e' := by
  have hz : (line : Nat) = 16777216 := rfl
  have hl := flips_len n
  have tw := A.two
  have hi := A.hi
  obtain ⟨a5, a6, a7, a8, a9, a12, a13, a14, a15, a16, a17, a18, a19, a20, a21, a22, rfl⟩ := hE
  simp only [b_law, List.getD_cons_succ, List.getD_cons_zero]
  have dv : divOk ((2 ^ n : Nat) : Int) = true := divOk_nat (by omega) (by omega)
  refine step (P := fun e S => ∃ i j, i < 2 ^ n ∧ j < 2 ^ n ∧ Bag b c S ∧ e = [some (.ref 0), some (.ref b), some (.int n), some (.rep (rows (flips n))), some (rows (flips n)), a5, a6, a7, a8, a9, some (rows (flips n)), some (.int (2 ^ n : Nat)), a12, some (.int (i : Nat)), some (.int (j : Nat)), a15, a16, a17, a18, a19, a20, a21, a22]) ?_ ?_
  · simp only [w_asg, w_tup, w_es1, w_es0, w_call, w_var, List.getElem?_cons_succ, List.getElem?_cons_zero, opt_some]
    refine draw_call hB (by omega) dv fun v T v1 v2 hB2 _ => ?_
    refine draw_call hB2 (by omega) dv fun u U u1 u2 hB3 _ => ?_
    obtain ⟨i, rfl⟩ := Int.eq_ofNat_of_zero_le v1
    obtain ⟨j, rfl⟩ := Int.eq_ofNat_of_zero_le u1
    simp only [w_tgT, items_tup, opt_some, w_ts1, w_ts0, w_tgN, List.set_cons_succ, List.set_cons_zero]
    exact ⟨trivial, i, j, by omega, by omega, hB3, rfl⟩
  rintro e S ⟨i, j, hi1, hj1, hB, rfl⟩
  have ti : ∀ (S : Sto) (k : Nat), k < 2 ^ n → idxI S (rows (flips n)) (.int (k : Nat)) = some (row (th (flips n) k)) := fun S k hk => th_at (by omega)
  generalize hbent : ((flips n).set i (th (flips n) j)).set j (th (flips n) i) = bent
  have tm : ∀ k, k < 2 ^ n → th (flips n) k ∈ flips n := fun k hk => by
    unfold th
    rw [List.getD_eq_getElem?_getD, List.getElem?_eq_getElem (by omega)]
    exact List.getElem_mem _
  have bl : bent.length = 2 ^ n := by rw [← hbent]; simp [hl]
  have bf : Fine bent := ⟨by omega, fun r hr => by
    have hm : r ∈ flips n := by
      rw [← hbent] at hr
      rcases set_mem hr with h | h
      · rcases set_mem h with h | h
        · exact h
        · rw [h]; exact tm j hj1
      · rw [h]; exact tm i hi1
    rw [A.len r hm]; omega⟩
  refine step (P := fun e S => Bag b c S ∧ e = [some (.ref 0), some (.ref b), some (.int n), some (.rep (rows (flips n))), some (rows (flips n)), a5, a6, a7, some (rows bent), a9, some (rows (flips n)), some (.int (2 ^ n : Nat)), a12, some (.int (i : Nat)), some (.int (j : Nat)), a15, a16, a17, a18, a19, a20, a21, a22]) ?_ ?_
  · simp only [w_asg, w_call, w_es1, w_es0, w_idx, w_var, List.getElem?_cons_succ, List.getElem?_cons_zero, opt_some, ti S j hj1]
    refine with_call (by omega) (by omega) ?_
    simp only [w_idx, w_var, List.getElem?_cons_succ, List.getElem?_cons_zero, opt_some, ti S i hi1]
    refine with_call (by simp [hl]; omega) (by simp [hl]; omega) ?_
    rw [hbent]
    simp only [w_tgN, List.set_cons_succ, List.set_cons_zero]
    exact ⟨trivial, hB, trivial⟩
  rintro e S ⟨hB, rfl⟩
  have rg : rngI [.int (((2 ^ n : Nat) : Int) - 1)] = some ((List.range (bent.length - 1)).map fun k : Nat => .int k) := by rw [bl]; exact rng_less (by omega)
  refine step (P := fun e S => Bag b c S ∧ ∃ q, S[q]? = some (.lst ((badL .place bent).map fun k : Nat => .int k)) ∧ e = [some (.ref 0), some (.ref b), some (.int n), some (.rep (rows (flips n))), some (rows (flips n)), a5, a6, a7, some (rows bent), some (.ref q), some (rows (flips n)), some (.int (2 ^ n : Nat)), a12, some (.int (i : Nat)), some (.int (j : Nat)), a15, a16, a17, a18, a19, a20, a21, a22]) ?_ ?_
  · simp only [w_asg, w_comp, w_rng, w_es1, w_es0, w_bin, w_var, List.getElem?_cons_succ, List.getElem?_cons_zero, opt_some, w_int, b_sub, ret_some, rg]
    refine ⟨by simp [bl]; omega, ?_⟩
    have cp := fun e S => bad_comp (S := S) (we := .str [112, 108, 97, 99, 101]) (w := .place) (e := e) (i := 8) (j := 19) bf (fun e S Q _ _ => w_str _) (.inr rfl) (.inr rfl)
    rw [cp _ _ rfl (by simp) (by decide) (by decide)]
    simp only [ret_some, w_tgN, List.set_cons_succ, List.set_cons_zero]
    exact ⟨trivial, hB.keep (Keep.ext (Ext.app _ _)), _, by simp, rfl⟩
  rintro e S ⟨hB, q, hq, rfl⟩
  have eqn : eqV (S ++ [O.lst []]) (.ref q) (.ref S.length) = some (decide (badL .place bent = [])) := by
    have h1 : (S ++ [O.lst []])[q]? = some (.lst ((badL .place bent).map fun k : Nat => .int k)) := (Ext.app S _).at hq
    have hN : (S ++ [O.lst []])[S.length]? = some (.lst []) := by simp
    have e1 : ((badL .place bent).map fun k : Nat => D.int k) = ((badL .place bent).map fun k : Nat => (k : Int)).map .int := by simp
    rw [e1] at h1
    rw [eq_nil h1 hN]
    cases badL .place bent <;> rfl
  have bh := bad_head .place bent
  refine step (P := fun e S => Bag b c S ∧ En b n e) ?_ fun e S h => ?_
  · have hB' := hB.keep (T := S ++ [O.lst []]) (Keep.ext (Ext.app _ _))
    have hEn : En b n [some (.ref 0), some (.ref b), some (.int n), some (.rep (rows (flips n))), some (rows (flips n)), a5, a6, a7, some (rows bent), some (.ref q), some (rows (flips n)), some (.int (2 ^ n : Nat)), a12, some (.int (i : Nat)), some (.int (j : Nat)), a15, a16, a17, a18, a19, a20, a21, a22] := ⟨_, _, _, _, _, _, _, _, _, _, _, _, _, _, _, _, rfl⟩
    have fin : ∀ x : D, x = optD (fault .place bent) → (Opt (eqV (S ++ [O.lst []]) (optD (fault .place bent)) x) fun z => z = true) := fun x h => by rw [h, eq_optD]; rfl
    simp only [w_ifs, w_cmp, w_call, w_es1, w_es0, w_str, w_var, List.getElem?_cons_succ, List.getElem?_cons_zero, opt_some]
    refine fault_call .place bf ?_
    simp only [w_c3, if_true, w_ife, w_cmp, w_var, List.getElem?_cons_succ, List.getElem?_cons_zero, opt_some, w_lst, w_es0, ret_some, cmp_ne, eqn, opt_map, w_c0, tru_bl]
    rcases hb : badL .place bent with _ | ⟨k, ks⟩
    · rw [hb] at bh
      have en : ∀ S : Sto, eqV S .non .non = some true := fun _ => rfl
      simp [bh, optD, hB', en]
      simpa using hEn
    · rw [hb] at bh hq
      have h1 : (S ++ [O.lst []])[q]? = some (.lst ((k :: ks).map fun k : Nat => D.int k)) := (Ext.app S _).at hq
      have i0 : idxI (S ++ [O.lst []]) (.ref q) (.int 0) = some (.int (k : Nat)) := idx_lst _ (i := 0) h1 rfl
      simp [i0, bh, optD, hB']
      simpa using hEn
  · rw [w_ss0]
    exact ⟨rfl, h⟩
end N.K75
set_option autoImplicit false
set_option linter.all false
set_option maxRecDepth 1000000
set_option maxHeartbeats 4000000
namespace N.K75
open N
theorem sidesH {n : Nat} (h1 : 1 ≤ n) (h2 : n < 5) : checkH n = true ∧ checkI n = true := by
  have hm : n ∈ [1, 2, 3, 4] := by
    simp only [List.mem_cons, List.not_mem_nil, or_false]; omega
  exact ⟨List.all_eq_true.mp okH n hm, List.all_eq_true.mp okI n hm⟩
theorem sides_call {S : Sto} {Q : D → Sto → Prop} {n : Nat} (h : checkH n = true) (k : ∀ T k, Ext S T → T[k]? = some (.ftp ((sidesL n).map .int)) → Q (.ref k) T) : Ret (callI f_sides_of [.str Wd.place.s, rows (flips n)] S) Q := by
  refine call_ftp (flats_lo 0 _ (by simp [D.flats, D.flat])) (by simp) ?_ k
  have h := (Bool.and_eq_true_iff.mp h).1
  unfold isF at h
  split at h
  · rename_i k T e
    rw [e]
    exact ⟨k, rfl, of_decide_eq_true h⟩
  · cases h
theorem counts_call {S : Sto} {Q : D → Sto → Prop} {n : Nat} (h : checkH n = true) (k : Q (row [(2 ^ n / 2 : Nat), (2 ^ n / 2 : Nat)]) S) : Ret (callI f_side_counts [.str Wd.place.s, rows (flips n)] S) Q := by
  refine call_flat (d := row [(2 ^ n / 2 : Nat), (2 ^ n / 2 : Nat)]) (by simp [D.flats, D.flat]) (flat_row _) ?_ k
  have h := (Bool.and_eq_true_iff.mp h).2
  unfold isB at h
  split at h
  · rename_i x T e
    rw [e]
    exact (D.eqv_iff _ _).mp h
  · cases h
theorem even_call {S : Sto} {Q : D → Sto → Prop} {n k : Nat} (hQ : Q (.int (((k : Int) + 1) / 2)) S) : Ret (callI f_even_places [.int n, .int k] S) Q := by
  refine call_flat (d := .int (((k : Int) + 1) / 2)) rfl rfl ?_ hQ
  rw [w_runF]
  refine ⟨rfl, ?_⟩
  have hd : divOk 2 = true := by decide
  simp [b_even_places, hd]
theorem g7 {b c n : Nat} {e : Env} {S : Sto} (A : Facts n) (hB : Bag b c S) (hE : En b n e) : Run (execS (b_law.getD 16 .never) e S) fun f e' S' => f = .nx ∧ Bag b c S' ∧ En b n e' := by
  have hz : (line : Nat) = 16777216 := rfl
  have hl := flips_len n
  have tw := A.two
  have hi := A.hi
  obtain ⟨a5, a6, a7, a8, a9, a12, a13, a14, a15, a16, a17, a18, a19, a20, a21, a22, rfl⟩ := hE
  simp only [b_law, List.getD_cons_succ, List.getD_cons_zero]
  by_cases h5 : n < 5
  case neg =>
    have h5' : ¬ ((n : Int) < 5) := by omega
    have hEn : En b n [some (.ref 0), some (.ref b), some (.int n), some (.rep (rows (flips n))), some (rows (flips n)), a5, a6, a7, a8, a9, some (rows (flips n)), some (.int (2 ^ n : Nat)), a12, a13, a14, a15, a16, a17, a18, a19, a20, a21, a22] := ⟨_, _, _, _, _, _, _, _, _, _, _, _, _, _, _, _, rfl⟩
    simp [h5', hB]
    simpa using hEn
  obtain ⟨cH, cI⟩ := sidesH A.lo h5
  have h5' : ((n : Int) < 5) := by omega
  have sl : (sidesL n).length = 2 ^ n := by simp [sidesL, hl]
  have sb : ∀ x ∈ sidesL n, small x := fun x hx => by
    obtain ⟨r, _, rfl⟩ := List.mem_map.mp hx
    have h1 := Int.emod_nonneg r.sum (show (2 : Int) ≠ 0 by decide)
    have h2 := Int.emod_lt_of_pos r.sum (show (0 : Int) < 2 by decide)
    unfold small; omega
  suffices body : Run (execSs (match b_law.getD 16 .never with | .ife _ a _ => a | _ => []) [some (.ref 0), some (.ref b), some (.int n), some (.rep (rows (flips n))), some (rows (flips n)), a5, a6, a7, a8, a9, some (rows (flips n)), some (.int (2 ^ n : Nat)), a12, a13, a14, a15, a16, a17, a18, a19, a20, a21, a22] S) fun f e' S' => f = .nx ∧ Bag b c S' ∧ En b n e' by
    simp only [b_law, List.getD_cons_succ, List.getD_cons_zero] at body
    rw [w_ifs]
    simp only [w_cmp, w_var, List.getElem?_cons_succ, List.getElem?_cons_zero, opt_some, w_c3, if_true, w_int, cmp_lt, w_c0, tru_bl, h5', decide_true]
    exact body
  simp only [b_law, List.getD_cons_succ, List.getD_cons_zero]
  refine step (P := fun e S => ∃ q, Bag b c S ∧ S[q]? = some (.ftp ((sidesL n).map .int)) ∧ e = [some (.ref 0), some (.ref b), some (.int n), some (.rep (rows (flips n))), some (rows (flips n)), a5, a6, a7, a8, a9, some (rows (flips n)), some (.int (2 ^ n : Nat)), a12, a13, a14, some (.ref q), a16, a17, a18, a19, a20, a21, a22]) ?_ ?_
  · simp only [w_asg, w_blt, w_es1, w_es0, w_comp, w_wk, w_var, List.getElem?_cons_succ, List.getElem?_cons_zero, opt_some, walk_tup]
    refine ⟨by rw [List.length_map, hl]; omega, ?_⟩
    rw [comp_all row (fun r => .int (r.sum % 2)) rfl (flips n) fun r hr => ?_]
    · have e : ((flips n).map fun r => D.int (r.sum % 2)) = (sidesL n).map .int := by simp [sidesL]
      simp only [ret_some, e, bl_ftuple, ftpB]
      have at_ : (S ++ [O.lst ((sidesL n).map D.int)])[S.length]? = some (.lst ((sidesL n).map .int)) := by simp
      rw [at_]
      simp only [new, ret_some, w_tgN, List.set_cons_succ, List.set_cons_zero]
      exact ⟨trivial, _, hB.keep (Keep.ext ((Ext.app _ _).trans (Ext.app _ _))), by simp, rfl⟩
    · have nn : 0 ≤ r.sum := by
        have : ∀ xs : List Int, (∀ x ∈ xs, x = 0 ∨ x = 1) → 0 ≤ xs.sum := fun xs => by
          induction xs with
          | nil => intro _; simp
          | cons x xs ih =>
            intro h
            have h1 := ih fun y hy => h y (by simp [hy])
            rcases h x (by simp) with rfl | rfl <;> simp <;> omega
        exact this r (A.bits r hr)
      have bd : ∀ S : Sto, binI S .band (.int r.sum) (.int 1) = some (.int (r.sum % 2), S) := fun S => by
        simp only [binI]
        rw [if_pos (by rw [Bool.and_eq_true, decide_eq_true_eq, decide_eq_true_eq]; omega)]
        congr 3
        have : r.sum.toNat &&& (1 : Int).toNat = r.sum.toNat % 2 := by
          rw [show (1 : Int).toNat = 1 from rfl, Nat.and_one_is_mod]
        rw [this]
        omega
      simp [N.wipe, sum_row, bd]
  rintro e S ⟨q, hB, hq, rfl⟩
  refine step (P := fun e S => Bag b c S ∧ S[q]? = some (.ftp ((sidesL n).map .int)) ∧ e = [some (.ref 0), some (.ref b), some (.int n), some (.rep (rows (flips n))), some (rows (flips n)), a5, a6, a7, a8, a9, some (rows (flips n)), some (.int (2 ^ n : Nat)), a12, a13, a14, some (.ref q), a16, a17, a18, a19, a20, a21, a22]) ?_ ?_
  · simp only [w_ifs, w_cmp, w_blt, w_es1, w_es0, w_lst, w_call, w_str, w_var, List.getElem?_cons_succ, List.getElem?_cons_zero, opt_some]
    refine sides_call cH fun T k ex hk => ?_
    refine counts_call cH ?_
    have s2 : ∀ x ∈ ([(2 ^ n / 2 : Nat), (2 ^ n / 2 : Nat)] : List Int), small x := fun x hx => by
      simp only [List.mem_cons, List.not_mem_nil, or_false, or_self] at hx
      rw [hx]; unfold small; omega
    simp only [bl_repr]
    rw [rep_ftp (n := k) (r := sidesL n) (by simp) ((Ext.app T _).at hk) sb s2 (by omega) (by simp)]
    have hd : divOk 2 = true := by decide
    have e2 : ((2 ^ n : Nat) : Int) / 2 = ((2 ^ n / 2 : Nat) : Int) := by omega
    simp only [ret_some, w_c3, if_true, w_blt, w_es1, w_es0, w_lst, w_tup, w_bin, w_int, b_fdiv, hd, w_var, List.getElem?_cons_succ, List.getElem?_cons_zero, opt_some, bl_repr, e2]
    have ex2 : Ext S (T ++ [O.lst [D.ref k, row [(2 ^ n / 2 : Nat), (2 ^ n / 2 : Nat)]]] ++ [O.lst [D.ref q, row [(2 ^ n / 2 : Nat), (2 ^ n / 2 : Nat)]]]) := (ex.trans (Ext.app _ _)).trans (Ext.app _ _)
    have rp := rep_ftp (S := T ++ [O.lst [D.ref k, row [(2 ^ n / 2 : Nat), (2 ^ n / 2 : Nat)]]] ++ [O.lst [D.ref q, row [(2 ^ n / 2 : Nat), (2 ^ n / 2 : Nat)]]]) (k := (T ++ [O.lst [D.ref k, row [(2 ^ n / 2 : Nat), (2 ^ n / 2 : Nat)]]]).length) (n := q) (r := sidesL n) (by simp) (ex2.at hq) sb s2 (by omega) (by simp)
    rw [show D.tup [D.int ((2 ^ n / 2 : Nat) : Int), D.int ((2 ^ n / 2 : Nat) : Int)] = row [((2 ^ n / 2 : Nat) : Int), ((2 ^ n / 2 : Nat) : Int)] from rfl, rp]
    simp only [ret_some, cmp_ne, opt_map]
    rw [eq_rep]
    simp only [opt_some, Bool.not_true, w_c0, tru_bl, Bool.false_eq_true, if_false, w_ss0]
    exact ⟨trivial, hB.keep (Keep.ext ex2), ex2.at hq, trivial⟩
  rintro e S ⟨hB, hq, rfl⟩
  refine step (P := fun e S => ∃ k, k < 2 ^ n + 1 ∧ Bag b c S ∧ S[q]? = some (.ftp ((sidesL n).map .int)) ∧ e = [some (.ref 0), some (.ref b), some (.int n), some (.rep (rows (flips n))), some (rows (flips n)), a5, a6, a7, a8, a9, some (rows (flips n)), some (.int (2 ^ n : Nat)), a12, a13, a14, some (.ref q), some (.int (k : Nat)), a17, a18, a19, a20, a21, a22]) ?_ ?_
  · have dv : divOk (((2 ^ n : Nat) : Int) + 1) = true := divOk_nat (n := 2 ^ n + 1) (by omega) (by omega)
    simp only [w_asg, w_call, w_es1, w_es0, w_bin, w_int, b_add, w_var, List.getElem?_cons_succ, List.getElem?_cons_zero, opt_some, ret_some]
    refine draw_call hB (by omega) dv fun v T v1 v2 hB2 hK => ?_
    obtain ⟨k, rfl⟩ := Int.eq_ofNat_of_zero_le v1
    have qn : q ≠ b ∧ q ≠ c := by
      obtain ⟨z, cells, dg, mx, z1, z2, z3⟩ := hB
      exact ⟨(fun e => by rw [e, z1] at hq; cases hq), (fun e => by rw [e, z2] at hq; cases hq)⟩
    simp only [w_tgN, List.set_cons_succ, List.set_cons_zero]
    exact ⟨trivial, k, by omega, hB2, hK.at hq (by simp [qn]), rfl⟩
  rintro e S ⟨k, hk, hB, hq, rfl⟩
  have cI' : (((sidesL n).take k).count 0 : Int) = ((k : Int) + 1) / 2 := by
    unfold checkI at cI
    have := List.all_eq_true.mp cI k (List.mem_range.mpr hk)
    exact of_decide_eq_true this
  refine step (P := fun e S => Bag b c S ∧ En b n e) ?_ fun e S h => ?_
  · simp only [w_ifs, w_cmp, w_call, w_es1, w_es0, w_var, List.getElem?_cons_succ, List.getElem?_cons_zero, opt_some]
    refine even_call ?_
    have fin : ∀ (U : Sto) (m : Nat), Ext S U → U[m]? = some (.ftp (((sidesL n).take k).map .int)) → methI U .tcount (.ref m) [.int 0] = some (.int (((k : Int) + 1) / 2), U) ∧ methT U .tcount (.ref m) = true := fun U m ex hm => by
      refine ⟨?_, ?_⟩
      · simp only [methI, cntT, hm]
        rw [intsD_map]
        simp only [cI']
      · simp only [methT, hm]; rfl
    have hEn : En b n [some (.ref 0), some (.ref b), some (.int n), some (.rep (rows (flips n))), some (rows (flips n)), a5, a6, a7, a8, a9, some (rows (flips n)), some (.int (2 ^ n : Nat)), a12, a13, a14, some (.ref q), some (.int (k : Nat)), a17, a18, a19, a20, a21, a22] := ⟨_, _, _, _, _, _, _, _, _, _, _, _, _, _, _, _, rfl⟩
    -- the cut
    have cutt : ∃ U m, slcI S (.ref q) .non (.int k) .non = some (.ref m, U) ∧ Ext S U ∧ U[m]? = some (.ftp (((sidesL n).take k).map .int)) := by
      have e1 : min (k : Int).toNat ((sidesL n).map D.int).length = k := by simp [sl]; omega
      have e2 : sIx ((sidesL n).map D.int).length 0 none = 0 := rfl
      have e3 : sIx ((sidesL n).map D.int).length ((sidesL n).map D.int).length (some (k : Int)) = k := by
        simp only [sIx]
        rw [if_neg (by omega)]
        exact e1
      have e4 : cut ((sidesL n).map D.int) none (some (k : Int)) = ((sidesL n).take k).map .int := by
        simp only [cut, e2, e3]
        simp [List.map_take]
      simp only [slcI, optI, hq, e2, e3, decide_true, if_true]
      split
      · rename_i h
        have h := of_decide_eq_true h
        have hk2 : k = 2 ^ n := by simpa [sl] using h.2
        exact ⟨S, q, rfl, Ext.refl _, by rw [List.take_of_length_le (by omega)]; exact hq⟩
      · rw [e4]
        exact ⟨_, S.length, rfl, Ext.app _ _, by simp⟩
    obtain ⟨U, m, c1, c2, c3⟩ := cutt
    obtain ⟨f1, f2⟩ := fin U m c2 c3
    simp only [w_c3, if_true, w_meth, w_slc, w_var, List.getElem?_cons_succ, List.getElem?_cons_zero, opt_some, w_abs, c1, ret_some, f2, w_es1, w_es0, w_int, f1, cmp_ne, eq_int, opt_map, decide_true, Bool.not_true, w_c0, tru_bl, Bool.false_eq_true, if_false, w_ss0]
    exact ⟨trivial, trivial, hB.keep (Keep.ext c2), hEn⟩
  · rw [w_ss0]
    exact ⟨rfl, h⟩
theorem says (ns : List Int) (hn : ns.length ≤ 63) : ∃ S', f_law [.ref 0] [.scr ns] = some (.bl true, S') := by
  refine ret_of ?_
  rw [w_runF]
  refine ⟨rfl, ?_⟩
  have e : b_law = b_law.take 6 ++ (b_law.getD 6 .never :: b_law.getD 7 .never :: ([b_law.getD 8 .never, b_law.getD 9 .never, b_law.getD 10 .never] ++ (b_law.getD 11 .never :: ([b_law.getD 12 .never, b_law.getD 13 .never, b_law.getD 14 .never, b_law.getD 15 .never] ++ [b_law.getD 16 .never, b_law.getD 17 .never])))) := rfl
  rw [e]
  refine step_append (fun e S => ∃ b c n, Facts n ∧ Bag b c S ∧ En b n e) _ _ _ (g1 hn) ?_
  rintro e S ⟨b, c, n, A, hB, hE⟩
  refine step (fun e S => Bag b c S ∧ En b n e) (g2 A hB hE) ?_
  rintro e S ⟨hB, hE⟩
  refine step (fun e S => Bag b c S ∧ En b n e) (g3 A hB hE) ?_
  rintro e S ⟨hB, hE⟩
  refine step_append (fun e S => Bag b c S ∧ En b n e) _ _ _ (g4 A hB hE) ?_
  rintro e S ⟨hB, hE⟩
  refine step (fun e S => Bag b c S ∧ En b n e) (g5 A hB hE) ?_
  rintro e S ⟨hB, hE⟩
  refine step_append (fun e S => Bag b c S ∧ En b n e) _ _ _ (g6 A hB hE) ?_
  rintro e S ⟨hB, hE⟩
  refine step (fun e S => Bag b c S ∧ En b n e) (g7 A hB hE) ?_
  rintro e S ⟨hB, a5, a6, a7, a8, a9, a12, a13, a14, a15, a16, a17, a18, a19, a20, a21, a22, rfl⟩
  simp only [b_law, List.getD_cons_succ, List.getD_cons_zero]
  simp [A.rep]
end N.K75
theorem PySem.Challenge.cw_nearlists_k75_whole_flipped_and_steps_holds : PySem.Challenge.rw_nearlists_k75_whole_flipped_and_steps.Holds := by
  exact N.K75.holds fun ns h _ => N.K75.says ns h
