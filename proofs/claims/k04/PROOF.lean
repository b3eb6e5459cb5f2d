import PyProof.Rows.All
import Wide.All
import OpenK.AllK
import Wide.FinOn
import PyProof.EqAt
import PyProof.EqKinds
import PyProof.TupleCall
import HandS.ForMost
import HandS.ForExc
import KE.SortData
import HandS.TryMany
import HandS.TupAny
import HandS.Lambda
import HandS.EndOwn
import HandS.Deep
import HandS.More
import HandS.Conv
import HandS.SetKeys
import HandS.Strs
import HandS.WordsExc
import HandS.IsInst
import HandS.Style
import KE.SortUse
import PyProof.GenComp
import KE.DataMinKey
import KE.SortKeyHeap
import HandS.ReplaceLit
import PyProof.Rows.StrStrike
import HandS.GenList
import PyProof.Draws
import PyProof.EnumMake
import PyProof.CollectStr
import PyProof.TupleOfSeq
import PyProof.StrOps2
import PyProof.StrLawsFirst
import HandS.Replace
import PyProof.Transfer
import PySem.Challenge.RW_tonguehall_k04_forms_of_words
set_option Elab.async false
set_option linter.all false
set_option maxRecDepth 100000
set_option maxHeartbeats 2000000
/-! FLa: data, the virtual heap, outcomes, the functions that stand for Python's constructs. Plain. -/
namespace FL
open PySem

/-- a value: trees for what never changes, a number for an object of the virtual heap -/
inductive D where
  | non | bl (b : Bool) | int (i : Int) | str (s : List Nat) | tup (xs : List D) | fls (xs : List D) | fdc (ks : List D) (vs : List D) | ref (n : Nat) | ty (n : String) | adr (a : Addr)
/-- an object of the virtual heap -/
inductive O where
  | lst (xs : List D) | dct (kvs : List (D × D)) | ins (c : Nat) (fs : List (Str × D))
abbrev VH := List O
abbrev DS := List (Option D)
inductive Out (α : Type) where
  | ok (a : α) (h : VH) | err (c : Nat) (p : Option D) (h : VH) | bad
inductive OutS where
  | nx (d : DS) (h : VH) | ret (x : D) (h : VH) | brk (d : DS) (h : VH) | ct (d : DS) (h : VH) | err (c : Nat) (p : Option D) (d : DS) (h : VH) | bad
def Out.bind {α β : Type} (o : Out α) (f : α → VH → Out β) : Out β := match o with
  | .ok a h => f a h
  | .err c p h => .err c p h
  | .bad => .bad
/-- the end of an operation that never raises -/
def Out.of {α : Type} : Option (α × VH) → Out α
  | some (d, h) => .ok d h
  | none => .bad

/-! ### data for == and < -/
def allS {α : Type} : List (Option α) → Option (List α)
  | [] => some []
  | none :: _ => none
  | some a :: r => match allS r with
    | some l => some (a :: l)
    | none => none
def toP : Nat → VH → D → Option PyData
  | 0, _, _ => none
  | _ + 1, _, .non => some .none
  | _ + 1, _, .bl b => some (.bool b)
  | _ + 1, _, .int i => some (.int i)
  | _ + 1, _, .str s => some (.str ⟨s.toArray⟩)
  | n + 1, h, .tup xs => match allS (xs.map (toP n h)) with
    | some l => some (.tuple l)
    | none => none
  | n + 1, h, .fls xs => match allS (xs.map (toP n h)) with
    | some l => some (.list l)
    | none => none
  | n + 1, h, .ref k => match h[k]? with
    | some (.lst xs) => match allS (xs.map (toP n h)) with
      | some l => some (.list l)
      | none => none
    | _ => none
  | _ + 1, _, .fdc _ _ => none
  | _ + 1, _, .ty _ => none
  | _ + 1, _, .adr _ => none
def deep : Nat := 12

/-! ### operations -/
/-- a list's items -/
def lsOf (x : D) (h : VH) : Option (List D) := match x with
  | .fls xs => some xs
  | .ref k => match h[k]? with
    | some (.lst xs) => some xs
    | _ => none
  | _ => none
abbrev Op1 := D → VH → Option (D × VH)
abbrev Op2 := D → D → VH → Option (D × VH)
def oAdd : Op2
  | .int i, .int j, h => some (.int (i + j), h)
  | .str a, .str b, h => if a.length + b.length ≤ 16777216 then some (.str (a ++ b), h) else none
  | .tup a, .tup b, h => if a.length + b.length ≤ 16777216 then some (.tup (a ++ b), h) else none
  | x, y, h => match lsOf x h, lsOf y h with
    | some a, some b => if a.length + b.length ≤ 16777216 then some (.fls (a ++ b), h) else none
    | _, _ => none
def oSub : Op2
  | .int i, .int j, h => some (.int (i - j), h)
  | _, _, _ => none
def oMul : Op2
  | .int i, .int j, h => if (-18446744073709551616 < i ∧ i < 18446744073709551616) ∨ (-18446744073709551616 < j ∧ j < 18446744073709551616) then some (.int (i * j), h) else none
  | x, .int k, h => match lsOf x h with
    | some a => if -9223372036854775808 ≤ k ∧ k < 9223372036854775808 ∧ a.length * k.toNat ≤ 16777216 then some (.fls (List.replicate k.toNat a).flatten, h) else none
    | none => none
  | _, _, _ => none
def oFdv : Op2
  | .int i, .int j, h => if 0 < j ∧ j < 1073741824 then some (.int (i / j), h) else none
  | _, _, _ => none
def oMod : Op2
  | .int i, .int j, h => if 0 < j then some (.int (i % j), h) else none
  | _, _, _ => none
def oPow : Op2
  | .int i, .int j, h => if 0 ≤ j ∧ j ≤ 1000000 ∧ i.natAbs < 18446744073709551616 then some (.int (i ^ j.toNat), h) else none
  | _, _, _ => none
/-- ==, by data -/
def eqD (x y : D) (h : VH) : Option Bool := match toP deep h x, toP deep h y with
  | some a, some b => some (PyData.eqv a b)
  | _, _ => none
def cEq : Op2
  | .int i, .int j, h => some (.bl (decide (i = j)), h)
  | .str a, .str b, h => some (.bl (decide (a = b)), h)
  | .bl a, .bl b, h => some (.bl (decide (a = b)), h)
  | x, y, h => match eqD x y h with
    | some b => some (.bl b, h)
    | none => none
def cNe : Op2
  | .int i, .int j, h => some (.bl (!decide (i = j)), h)
  | .str a, .str b, h => some (.bl (!decide (a = b)), h)
  | .bl a, .bl b, h => some (.bl (!decide (a = b)), h)
  | x, y, h => match eqD x y h with
    | some b => some (.bl (!b), h)
    | none => none
def cLt : Op2
  | .int i, .int j, h => some (.bl (decide (i < j)), h)
  | .str a, .str b, h => some (.bl (decide (a < b)), h)
  | _, _, _ => none
def cLe : Op2
  | .int i, .int j, h => some (.bl (decide (i ≤ j)), h)
  | .str a, .str b, h => some (.bl (!decide (b < a)), h)
  | _, _, _ => none
def cGt : Op2
  | .int i, .int j, h => some (.bl (decide (j < i)), h)
  | .str a, .str b, h => some (.bl (decide (b < a)), h)
  | _, _, _ => none
def cGe : Op2
  | .int i, .int j, h => some (.bl (decide (j ≤ i)), h)
  | .str a, .str b, h => some (.bl (!decide (a < b)), h)
  | _, _, _ => none
def keyEq : D → D → Bool
  | .int i, .int j => decide (i = j)
  | .str a, .str b => decide (a = b)
  | _, _ => false
def isKey : D → Bool
  | .int _ => true
  | .str _ => true
  | _ => false
def dGet : List (D × D) → D → Option D
  | [], _ => none
  | (k, v) :: r, x => if keyEq k x = true then some v else dGet r x
def dPut : List (D × D) → D → D → List (D × D)
  | [], x, v => [(x, v)]
  | (k, w) :: r, x, v => if keyEq k x = true then (k, v) :: r else (k, w) :: dPut r x v
/-- x in y: the answer -/
def inD (x y : D) (h : VH) : Option Bool := match x, y with
  | .str [c], .str z => some (decide (c ∈ z))
  | x, .tup ys => match toP deep h x, allS (ys.map (toP deep h)) with
    | some a, some l => some (l.any fun z => PyData.eqv z a)
    | _, _ => none
  | x, .fls ys => match toP deep h x, allS (ys.map (toP deep h)) with
    | some a, some l => some (l.any fun z => PyData.eqv z a)
    | _, _ => none
  | x, .fdc ks _ => if isKey x = true then some (ks.any fun k => keyEq k x) else none
  | x, .ref k => match h[k]? with
    | some (.lst ys) => match toP deep h x, allS (ys.map (toP deep h)) with
      | some a, some l => some (l.any fun z => PyData.eqv z a)
      | _, _ => none
    | some (.dct kvs) => if isKey x = true then some (dGet kvs x).isSome else none
    | _ => none
  | _, _ => none
def cIn : Op2 := fun x y h => match inD x y h with
  | some b => some (.bl b, h)
  | none => none
def cNin : Op2 := fun x y h => match inD x y h with
  | some b => some (.bl (!b), h)
  | none => none
def isNon : D → Bool
  | .non => true
  | _ => false
def cIs : Op2
  | x, .non, h => some (.bl (isNon x), h)
  | _, _, _ => none
def cIsn : Op2
  | x, .non, h => some (.bl (!isNon x), h)
  | _, _, _ => none
/-- a frozen dict's value at a key -/
def fGet : List D → List D → D → Option D
  | k :: ks, v :: vs, x => if keyEq k x = true then some v else fGet ks vs x
  | _, _, _ => none
/-- a sequence's items -/
def seqOf (x : D) (h : VH) : Option (List D) := match x with
  | .tup xs => some xs
  | .fls xs => some xs
  | .ref k => match h[k]? with
    | some (.lst xs) => some xs
    | _ => none
  | _ => none
/-- truth -/
def tru (x : D) (h : VH) : Option Bool := match x with
  | .non => some false
  | .bl b => some b
  | .int i => some (i != 0)
  | .str s => if s.length ≤ 16777216 then some (!s.isEmpty) else none
  | .tup xs => some (!xs.isEmpty)
  | .fls xs => some (!xs.isEmpty)
  | .ref k => match h[k]? with
    | some (.lst xs) => some (!xs.isEmpty)
    | some (.dct xs) => some (!xs.isEmpty)
    | _ => none
  | _ => none
def ixN (n : Nat) (i : Int) : Option Nat := if 0 ≤ i then (if i < n then some i.toNat else none) else if -(n : Int) ≤ i then some (i + n).toNat else none
def atI {α : Type} (xs : List α) (i : Int) : Option α := match ixN xs.length i with
  | some j => xs[j]?
  | none => none
def sIx (n d : Nat) : Option Int → Nat
  | none => d
  | some v => if v < 0 then (v + (n : Int)).toNat else min v.toNat n
def cut {α : Type} (xs : List α) (lo hi : Option Int) : List α := (xs.drop (sIx xs.length 0 lo)).take (sIx xs.length xs.length hi - sIx xs.length 0 lo)
/-- x[i] -/
def oIxR : Option O → D → Option D
  | some (.lst xs), .int i => atI xs i
  | some (.dct kvs), .int i => dGet kvs (.int i)
  | some (.dct kvs), .str i => dGet kvs (.str i)
  | _, _ => none
def oIx : Op2
  | .str s, .int i, h => if s.length ≤ 16777216 then (match atI s i with
    | some c => some (.str [c], h)
    | none => none) else none
  | .tup xs, .int i, h => match atI xs i with
    | some d => some (d, h)
    | none => none
  | .fls xs, .int i, h => match atI xs i with
    | some d => some (d, h)
    | none => none
  | .fdc ks vs, i, h => if isKey i = true then (match fGet ks vs i with
    | some d => some (d, h)
    | none => none) else none
  | .ref k, i, h => match oIxR h[k]? i with
    | some d => some (d, h)
    | none => none
  | _, _, _ => none
/-- x[lo:hi] -/
def oSl (x : D) (lo hi : Option Int) (h : VH) : Option (D × VH) := match x with
  | .str s => if s.length ≤ 16777216 then some (.str (cut s lo hi), h) else none
  | .tup xs => some (.tup (cut xs lo hi), h)
  | x => match lsOf x h with
    | some xs => some (.fls (cut xs lo hi), h)
    | none => none

/-! ### built-in functions of one or more values -/
def bLen : List D → VH → Option (D × VH)
  | [.str s], h => if s.length ≤ 16777216 then some (.int s.length, h) else none
  | [.tup xs], h => some (.int xs.length, h)
  | [.fls xs], h => some (.int xs.length, h)
  | [.fdc ks _], h => some (.int ks.length, h)
  | [.ref k], h => match h[k]? with
    | some (.lst xs) => some (.int xs.length, h)
    | some (.dct xs) => some (.int xs.length, h)
    | _ => none
  | _, _ => none
def bAbs : List D → VH → Option (D × VH)
  | [.int i], h => some (.int (if i < 0 then -i else i), h)
  | _, _ => none
def bMax2 : List D → VH → Option (D × VH)
  | [.int i, .int j], h => some (.int (if j > i then j else i), h)
  | _, _ => none
def bMin2 : List D → VH → Option (D × VH)
  | [.int i, .int j], h => some (.int (if j < i then j else i), h)
  | _, _ => none
def bInt : List D → VH → Option (D × VH)
  | [.int i], h => some (.int i, h)
  | [.bl b], h => some (.int (if b = true then 1 else 0), h)
  | _, _ => none
def bList : List D → VH → Option (D × VH)
  | [x], h => match seqOf x h with
    | some xs => some (.fls xs, h)
    | none => none
  | _, _ => none
def bTup : List D → VH → Option (D × VH)
  | [x], h => match seqOf x h with
    | some xs => some (.tup xs, h)
    | none => none
  | _, _ => none
def allI : List D → Option (List Int)
  | [] => some []
  | .int i :: r => match allI r with
    | some l => some (i :: l)
    | none => none
  | _ :: _ => none
def allT : List D → Option (List (List Nat))
  | [] => some []
  | .str i :: r => match allT r with
    | some l => some (i :: l)
    | none => none
  | _ :: _ => none
def bSum : List D → VH → Option (D × VH)
  | [x], h => match lsOf x h with
    | some xs => match allI xs with
      | some l => some (.int l.sum, h)
      | none => none
    | none => none
  | _, _ => none
def leastI : List Int → Int
  | [] => 0
  | [a] => a
  | a :: r => let b := leastI r; if b < a then b else a
def greatI : List Int → Int
  | [] => 0
  | [a] => a
  | a :: r => let b := greatI r; if a < b then b else a
def bMin : List D → VH → Option (D × VH)
  | [x], h => match lsOf x h with
    | some xs => match allI xs with
      | some l => if l.isEmpty = true then none else some (.int (leastI l), h)
      | none => none
    | none => none
  | _, _ => none
def bMax : List D → VH → Option (D × VH)
  | [x], h => match lsOf x h with
    | some xs => match allI xs with
      | some l => if l.isEmpty = true then none else some (.int (greatI l), h)
      | none => none
    | none => none
  | _, _ => none
/-- sorted: by the items' own data; they must be alike -/
def alikes (l : List PyData) : Bool := l.all fun a => l.all fun b => PySem.W.alike a b
def isTupC : PyData → Bool
  | .tuple (_ :: _) => true
  | _ => false
def isFlat : PyData → Bool
  | .none => false
  | .tuple _ => false
  | _ => true
def sortable (l : List PyData) : Bool := l.all isTupC || l.all isFlat
def sortD (ps : List (D × PyData)) : List D := (ps.mergeSort (PySem.W.dataLe false (·.2))).map (·.1)
def itemsOf (x : D) (h : VH) : Option (List D) := match x with
  | .fls xs => some xs
  | .fdc ks _ => some ks
  | .ref k => match h[k]? with
    | some (.lst xs) => some xs
    | some (.dct kvs) => some (kvs.map (·.1))
    | _ => none
  | _ => none
def bSorted : List D → VH → Option (D × VH)
  | [x], h => match itemsOf x h with
    | some xs => match allS (xs.map (toP deep h)) with
      | some l => if (alikes l && sortable l) = true then some (.fls (sortD (xs.zip l)), h) else none
      | none => none
    | none => none
  | _, _ => none

/-! ### texts -/
def joinL (S : List Nat) : List (List Nat) → List Nat
  | [] => []
  | [a] => a
  | a :: b :: r => a ++ (S ++ joinL S (b :: r))
/-- the parts between the signs c -/
def splitC (c : Nat) : List Nat → List (List Nat)
  | [] => [[]]
  | x :: r => if x = c then [] :: splitC c r else match splitC c r with
    | a :: l => (x :: a) :: l
    | [] => [[x]]
def mSplit : D → List D → VH → Option (D × VH)
  | .str s, [.str [c]], h => if c < 256 ∧ s.length + 2 ≤ 16777216 then some (.fls ((splitC c s).map D.str), h) else none
  | _, _, _ => none
def mJoin : D → List D → VH → Option (D × VH)
  | .str s, [x], h => match seqOf x h with
    | some xs => match allT xs with
      | some l => if (l.map (·.length)).sum + l.length * s.length ≤ 16777216 then some (.str (joinL s l), h) else none
      | none => none
    | none => none
  | _, _, _ => none

/-! ### methods of lists and tuples -/
def mAppend : D → List D → VH → Option (D × VH)
  | .ref k, [y], h => match h[k]? with
    | some (.lst xs) => if xs.length < 16777216 then some (.non, h.set k (.lst (xs ++ [y]))) else none
    | _ => none
  | _, _, _ => none
def mExtend : D → List D → VH → Option (D × VH)
  | .ref k, [y], h => match h[k]?, lsOf y h with
    | some (.lst xs), some ys => if xs.length + ys.length ≤ 16777216 then some (.non, h.set k (.lst (xs ++ ys))) else none
    | _, _ => none
  | _, _, _ => none
def mPop : D → List D → VH → Option (D × VH)
  | .ref k, [], h => match h[k]? with
    | some (.lst xs) => match xs[xs.length - 1]? with
      | some y => some (y, h.set k (.lst xs.dropLast))
      | none => none
    | _ => none
  | .ref k, [.int i], h => match h[k]? with
    | some (.lst xs) => if 0 ≤ i ∧ i < 9223372036854775808 then (match xs[i.toNat]? with
      | some y => some (y, h.set k (.lst (xs.eraseIdx i.toNat)))
      | none => none) else none
    | _ => none
  | _, _, _ => none
/-- the first place of an equal one -/
def findE (l : List PyData) (a : PyData) : Option Nat := l.findIdx? fun z => PyData.eqv z a
def findD (xs : List D) (y : D) (h : VH) : Option Nat := match toP deep h y, allS (xs.map (toP deep h)) with
  | some a, some l => findE l a
  | _, _ => none
def mIndexL : D → List D → VH → Option (D × VH)
  | x, [y], h => match lsOf x h with
    | some xs => match findD xs y h with
      | some j => some (.int j, h)
      | none => none
    | none => none
  | _, _, _ => none
def mIndexT : D → List D → VH → Option (D × VH)
  | .tup xs, [y], h => match findD xs y h with
    | some j => some (.int j, h)
    | none => none
  | _, _, _ => none

/-! ### combinators: expressions -/
abbrev FE := DS → VH → Out D
abbrev FA := DS → VH → Out (List D)
abbrev FT := DS → VH → Out Bool
abbrev FSt := DS → VH → OutS
abbrev FG := D → DS → VH → Option (DS × VH)
def eC (d : D) : FE := fun _ h => .ok d h
def eV (i : Nat) : FE := fun δ h => match δ[i]? with
  | some (some d) => .ok d h
  | _ => .bad
def e1 (o : Op1) (a : FE) : FE := fun δ h => (a δ h).bind fun x h => Out.of (o x h)
def e2 (o : Op2) (a b : FE) : FE := fun δ h => (a δ h).bind fun x h => (b δ h).bind fun y h => Out.of (o x y h)
def eIf (t : FT) (a b : FE) : FE := fun δ h => (t δ h).bind fun c h => if c = true then a δ h else b δ h
def aNil : FA := fun _ h => .ok [] h
def aCons (a : FE) (r : FA) : FA := fun δ h => (a δ h).bind fun x h => (r δ h).bind fun xs h => .ok (x :: xs) h
def eTup (r : FA) : FE := fun δ h => (r δ h).bind fun xs h => if xs.length ≤ 16777216 then .ok (.tup xs) h else .bad
def eFl (r : FA) : FE := fun δ h => (r δ h).bind fun xs h => if xs.length ≤ 16777216 then .ok (.fls xs) h else .bad
def eLst (r : FA) : FE := fun δ h => (r δ h).bind fun xs h => if xs.length ≤ 16777216 then .ok (.ref h.length) (h ++ [.lst xs]) else .bad
/-- a built-in function -/
def eB (o : List D → VH → Option (D × VH)) (r : FA) : FE := fun δ h => (r δ h).bind fun xs h => Out.of (o xs h)
/-- a def -/
def eF (F : List D → VH → Out D) (r : FA) : FE := fun δ h => (r δ h).bind F
/-- a built-in type's method; ty: the receiver is of that type -/
def eM (ty : D → VH → Bool) (o : D → List D → VH → Option (D × VH)) (a : FE) (r : FA) : FE := fun δ h => (a δ h).bind fun x h => if ty x h = true then (r δ h).bind fun xs h => Out.of (o x xs h) else .bad
def isL (x : D) (h : VH) : Bool := match x with
  | .ref k => match h[k]? with
    | some (.lst _) => true
    | _ => false
  | _ => false
def isLs (x : D) (h : VH) : Bool := (lsOf x h).isSome
def isT (x : D) (_ : VH) : Bool := match x with
  | .tup _ => true
  | _ => false
def isS (x : D) (_ : VH) : Bool := match x with
  | .str _ => true
  | _ => false
/-- a part of a slice -/
abbrev FO := DS → VH → Out (Option Int)
def pNo : FO := fun _ h => .ok none h
def pSo (a : FE) : FO := fun δ h => (a δ h).bind fun x h => match x with
  | .int i => .ok (some i) h
  | _ => .bad
def eSl (a : FE) (lo hi : FO) : FE := fun δ h => (a δ h).bind fun x h => (lo δ h).bind fun l h => (hi δ h).bind fun u h => Out.of (oSl x l u h)
/-- a < b < c -/
def eCh (o p : Op2) (a b c : FE) : FE := fun δ h => (a δ h).bind fun x h => (b δ h).bind fun y h => match o x y h with
  | some (.bl true, h) => (c δ h).bind fun z h => Out.of (p y z h)
  | some (.bl false, h) => .ok (.bl false) h
  | _ => .bad
/-- tests -/
def tV (a : FE) : FT := fun δ h => (a δ h).bind fun x h => match x with
  | .bl b => .ok b h
  | _ => .bad
def tTr (a : FE) : FT := fun δ h => (a δ h).bind fun x h => match tru x h with
  | some b => .ok b h
  | none => .bad
def tAnd (a b : FT) : FT := fun δ h => (a δ h).bind fun c h => if c = true then b δ h else .ok false h
def tOr (a b : FT) : FT := fun δ h => (a δ h).bind fun c h => if c = true then .ok true h else b δ h
def tNot (a : FT) : FT := fun δ h => (a δ h).bind fun c h => .ok (!c) h
def tYes : FT := fun _ h => .ok true h
/-- bools as values -/
def eT (t : FT) : FE := fun δ h => (t δ h).bind fun c h => .ok (.bl c) h

/-! ### statements -/
/-- an expression, then what follows -/
def thenS {α : Type} (δ : DS) (o : Out α) (k : α → VH → OutS) : OutS := match o with
  | .ok x h => k x h
  | .err c p h => .err c p δ h
  | .bad => .bad
/-- a block, then what follows -/
def nextS (o : OutS) (k : DS → VH → OutS) : OutS := match o with
  | .nx δ h => k δ h
  | .brk δ h => .brk δ h
  | .ct δ h => .ct δ h
  | .ret x h => .ret x h
  | .err c p δ h => .err c p δ h
  | .bad => .bad
/-- a loop's body, then the next turn -/
def loopS (o : OutS) (k : DS → VH → OutS) : OutS := match o with
  | .nx δ h => k δ h
  | .ct δ h => k δ h
  | .brk δ h => .nx δ h
  | .ret x h => .ret x h
  | .err c p δ h => .err c p δ h
  | .bad => .bad
/-- a target's end -/
def tgS (o : Option (DS × VH)) (k : DS → VH → OutS) : OutS := match o with
  | some (δ, h) => k δ h
  | none => .bad
def sNil : FSt := fun δ h => .nx δ h
def sSeq (a b : FSt) : FSt := fun δ h => nextS (a δ h) b
def sEx (a : FE) : FSt := fun δ h => thenS δ (a δ h) fun _ h => .nx δ h
def sRet (a : FE) : FSt := fun δ h => thenS δ (a δ h) fun x h => .ret x h
def sRetN : FSt := fun _ h => .ret .non h
def sAs (a : FE) (g : FG) : FSt := fun δ h => thenS δ (a δ h) fun x h => tgS (g x δ h) fun δ h => .nx δ h
def sIf (t : FT) (a b : FSt) : FSt := fun δ h => thenS δ (t δ h) fun c h => if c = true then a δ h else b δ h
def sCt : FSt := fun δ h => .ct δ h
def sBr : FSt := fun δ h => .brk δ h
def sRaise (c : Nat) : FSt := fun δ h => .err c none δ h
def gN (i : Nat) : FG := fun x δ h => some (δ.set i (some x), h)
abbrev FGs := List D → DS → VH → Option (DS × VH)
def gNil : FGs := fun xs δ h => match xs with
  | [] => some (δ, h)
  | _ => none
def gCons (g : FG) (r : FGs) : FGs := fun xs δ h => match xs with
  | x :: xs => match g x δ h with
    | some (δ, h) => r xs δ h
    | none => none
  | [] => none
def gT (n : Nat) (r : FGs) : FG := fun x δ h => match seqOf x h with
  | some xs => if xs.length = n then r xs δ h else none
  | none => none
/-- a, b = x, y -/
def sPar (i j : Nat) (r : FA) : FSt := fun δ h => thenS δ (r δ h) fun xs h => match xs with
  | [x, y] => .nx ((δ.set i (some x)).set j (some y)) h
  | _ => .bad
def sAug (i : Nat) (o : Op2) (a : FE) : FSt := fun δ h => match δ[i]? with
  | some (some x) => thenS δ (a δ h) fun y h => match o x y h with
    | some (z, h) => .nx (δ.set i (some z)) h
    | none => .bad
  | _ => .bad
/-- o[i] = e, by values -/
def setL : D → D → D → VH → Option VH
  | .ref k, .int i, v, h => match h[k]? with
    | some (.lst xs) => match ixN xs.length i with
      | some j => some (h.set k (.lst (xs.set j v)))
      | none => none
    | _ => none
  | _, _, _, _ => none
def setD : D → D → D → VH → Option VH
  | .ref k, i, v, h => match h[k]? with
    | some (.dct kvs) => if isKey i = true ∧ kvs.length < 16777216 then some (h.set k (.dct (dPut kvs i v))) else none
    | _ => none
  | _, _, _, _ => none
/-- e first, then o, then i -/
def sSub (f : D → D → D → VH → Option VH) (a o i : FE) : FSt := fun δ h => thenS δ (a δ h) fun x h => thenS δ (o δ h) fun y h => thenS δ (i δ h) fun z h => match f y z x h with
  | some h => .nx δ h
  | none => .bad

/-! ### loops -/
def forT (g : FG) (b : FSt) : List D → DS → VH → OutS
  | [], δ, h => .nx δ h
  | x :: xs, δ, h => tgS (g x δ h) fun δ h => loopS (b δ h) (forT g b xs)
def forL (k : Nat) (g : FG) (b : FSt) : Nat → Nat → DS → VH → OutS
  | 0, _, _, _ => .bad
  | f + 1, i, δ, h => match h[k]? with
    | some (.lst xs) => match xs[i]? with
      | none => .nx δ h
      | some x => tgS (g x δ h) fun δ h => loopS (b δ h) (forL k g b f (i + 1))
    | _ => .bad
def forX (g : FG) (b : FSt) (x : D) (δ : DS) (h : VH) : OutS := match x with
  | .tup xs => forT g b xs δ h
  | .fls xs => forT g b xs δ h
  | .fdc ks _ => forT g b ks δ h
  | .str s => forT g b (s.map fun c => .str [c]) δ h
  | .ref k => match h[k]? with
    | some (.lst xs) => forL k g b (xs.length + 1) 0 δ h
    | _ => .bad
  | _ => .bad
def sFor (a : FE) (g : FG) (b : FSt) : FSt := fun δ h => thenS δ (a δ h) fun x h => forX g b x δ h
/-- range's ints -/
def rng (lo hi : Int) : List D := (List.range (hi - lo).toNat).map fun (k : Nat) => D.int (lo + k)
def okR (i j : Int) : Bool := decide (-4611686018427387904 ≤ i ∧ i < 4611686018427387904 ∧ -4611686018427387904 ≤ j ∧ j < 4611686018427387904)
/-- range's ends, from its arguments -/
def rEnds : List D → Option (Int × Int)
  | [.int j] => if okR 0 j = true then some (0, j) else none
  | [.int i, .int j] => if okR i j = true then some (i, j) else none
  | _ => none
def sForR (r : FA) (g : FG) (b : FSt) : FSt := fun δ h => thenS δ (r δ h) fun xs h => match rEnds xs with
  | some (i, j) => forT g b (rng i j) δ h
  | none => .bad
def whl (t : FT) (b : FSt) : Nat → DS → VH → OutS
  | 0, _, _ => .bad
  | f + 1, δ, h => thenS δ (t δ h) fun c h => if c = true then loopS (b δ h) (whl t b f) else .nx δ h
def sWhile (f : Nat) (t : FT) (b : FSt) : FSt := whl t b f

/-! ### comprehensions: the new list is object k; own: the slots of the block's own names -/
def wipe (δ : DS) : List Nat → DS
  | [] => δ
  | v :: vs => (wipe δ vs).set v none
def lcT (g : FG) (t : FT) (e : FE) (own : List Nat) (δ : DS) : List D → VH → List D → Out (List D)
  | [], h, acc => .ok acc h
  | x :: xs, h, acc => match g x (wipe δ own) h with
    | none => .bad
    | some (δ1, h) => match t δ1 h with
      | .ok false h => lcT g t e own δ xs h acc
      | .ok true h => match e δ1 h with
        | .ok y h => if acc.length < 16777216 then lcT g t e own δ xs h (acc ++ [y]) else .bad
        | _ => .bad
      | _ => .bad
def lcL (j : Nat) (g : FG) (t : FT) (e : FE) (own : List Nat) (δ : DS) : Nat → Nat → VH → List D → Out (List D)
  | 0, _, _, _ => .bad
  | f + 1, i, h, acc => match h[j]? with
    | some (.lst xs) => match xs[i]? with
      | none => .ok acc h
      | some x => match g x (wipe δ own) h with
        | none => .bad
        | some (δ1, h) => match t δ1 h with
          | .ok false h => lcL j g t e own δ f (i + 1) h acc
          | .ok true h => match e δ1 h with
            | .ok y h => if acc.length < 16777216 then lcL j g t e own δ f (i + 1) h (acc ++ [y]) else .bad
            | _ => .bad
          | _ => .bad
    | _ => .bad
def lcEnd (o : Out (List D)) : Out D := match o with
  | .ok xs h => .ok (.fls xs) h
  | _ => .bad
def lcX (g : FG) (t : FT) (e : FE) (own : List Nat) (δ : DS) (x : D) (h : VH) : Out D := match x with
  | .tup xs => lcEnd (lcT g t e own δ xs h [])
  | .fls xs => lcEnd (lcT g t e own δ xs h [])
  | .fdc ks _ => lcEnd (lcT g t e own δ ks h [])
  | .str s => lcEnd (lcT g t e own δ (s.map fun c => .str [c]) h [])
  | .ref j => match h[j]? with
    | some (.lst xs) => lcEnd (lcL j g t e own δ (xs.length + 1) 0 h [])
    | _ => .bad
  | _ => .bad
def eLc (a : FE) (g : FG) (t : FT) (e : FE) (own : List Nat) : FE := fun δ h => (a δ h).bind fun x h => lcX g t e own δ x h
def eLcR (r : FA) (g : FG) (t : FT) (e : FE) (own : List Nat) : FE := fun δ h => (r δ h).bind fun xs h => match rEnds xs with
  | some (i, j) => lcEnd (lcT g t e own δ (rng i j) h [])
  | none => .bad

/-! ### defs -/
def endF : OutS → Out D
  | .ret x h => .ok x h
  | .nx _ h => .ok .non h
  | .err c p _ h => .err c p h
  | _ => .bad
/-- np parameters, n names -/
def runF (np n : Nat) (b : FSt) : List D → VH → Out D := fun ds h => if ds.length = np then endF (b (ds.map some ++ List.replicate (n - ds.length) none) h) else .bad
/-- try: b except c1: s1 .. ; sub: is the first class under the second; the handlers' bodies raise nothing -/
def hdS (sub : Nat → Nat → Bool) (c : Nat) (p : Option D) (δ : DS) (h : VH) : List (Nat × FSt) → OutS
  | [] => .err c p δ h
  | (k, s) :: r => if sub c k = true then (match s δ h with
    | .err _ _ _ _ => .bad
    | o => o) else hdS sub c p δ h r
def sTry (sub : Nat → Nat → Bool) (b : FSt) (hs : List (Nat × FSt)) : FSt := fun δ h => match b δ h with
  | .err c p δ h => hdS sub c p δ h hs
  | o => o
end FL
set_option Elab.async false
set_option linter.all false
set_option maxRecDepth 100000
set_option maxHeartbeats 2000000
/-! FL1: the functional layer: data, the virtual heap, relations, outcomes. -/
namespace FL
open PySem PySem.Spec PyProof.Rows L2

/-- tables of code objects; the exception classes by number -/
structure Gc where
  T : List (Addr × Str)
  cs : List Addr

/-! ### the relation of values -/
/-- the signs that a text may hold -/
def okS (l : List Nat) : Bool := l.all (· < 1114112)
theorem okS.append {a b : List Nat} (h : okS a = true) (h' : okS b = true) : okS (a ++ b) = true := by
  unfold okS at *
  rw [List.all_append, h, h'] <;> rfl
theorem okS.sub {a b : List Nat} (h : okS a = true) (hs : ∀ c ∈ b, c ∈ a) : okS b = true := by
  unfold okS at *
  rw [List.all_eq_true] at *
  exact fun c hc => h c (hs c hc)
def Frz (K : PySem.W.Frag) (H : Hp) (a : Addr) (vs : List V) : Prop :=
  (∃ o, H a = some (.frz o (.lst vs))) ∨ ∃ (o : Obj) (its : Array Value) (n : Nat), K.lookup a = some o ∧ o.cls = .type "list" ∧ o.dict = none ∧ o.data = .seq its n ∧ its.size ≤ sizeLine ∧ Vals vs its.toList
theorem Frz.seq {K : PySem.W.Frag} {H : Hp} {a : Addr} {vs : List V} (h : Frz K H a vs) : SqL K H a vs := by
  rcases h with ⟨o, h⟩ | h
  · exact .inl (.inr ⟨o, h⟩)
  · exact .inr h
/-- a tuple, its object's own dict known to be none -/
def Plt (K : PySem.W.Frag) (H : Hp) (a : Addr) (vs : List V) : Prop :=
  (∃ o, H a = some (.frz o (.tup vs)) ∧ o.dict = none) ∨ ∃ (o : Obj) (its : Array Value) (n : Nat), K.lookup a = some o ∧ o.cls = .type "tuple" ∧ o.dict = none ∧ o.data = .seq its n ∧ its.size ≤ sizeLine ∧ Vals vs its.toList
theorem Plt.sq {K : PySem.W.Frag} {H : Hp} {a : Addr} {vs : List V} (h : Plt K H a vs) : SqT K H a vs := by
  rcases h with ⟨o, h, _⟩ | ⟨o, its, n, h1, h2, h3, h4, h5, h6⟩
  · exact .inl (.inr ⟨o, h⟩)
  · exact .inr ⟨o, its, n, h1, h2, h4, h5, h6⟩
theorem Plt.of {K : PySem.W.Frag} {H : Hp} {a : Addr} {vs : List V} {o : Obj} (h : H a = some (.frz o (.tup vs))) (ho : o.dict = none) : Plt K H a vs := .inl ⟨o, h, ho⟩
/-- what never changes stays -/
structure Imm (H H' : Hp) : Prop where
  tup : ∀ a xs, H a = some (.tup xs) → H' a = some (.tup xs)
  frz : ∀ a o u, H a = some (.frz o u) → H' a = some (.frz o u)
theorem Imm.refl (H : Hp) : Imm H H := ⟨fun _ _ h => h, fun _ _ _ h => h⟩
theorem Imm.trans {H H1 H2 : Hp} (a : Imm H H1) (b : Imm H1 H2) : Imm H H2 := ⟨fun c xs h => b.tup c xs (a.tup c xs h), fun c o u h => b.frz c o u (a.frz c o u h)⟩
theorem Imm.plt {K : PySem.W.Frag} {H H' : Hp} {a : Addr} {xs : List V} (i : Imm H H') (h : Plt K H a xs) : Plt K H' a xs := by
  rcases h with ⟨o, h, ho⟩ | h
  · exact .inl ⟨o, i.frz _ _ _ h, ho⟩
  · exact .inr h
theorem Imm.fz {K : PySem.W.Frag} {H H' : Hp} {a : Addr} {xs : List V} (i : Imm H H') (h : Frz K H a xs) : Frz K H' a xs := by
  rcases h with ⟨o, h⟩ | h
  · exact .inl ⟨o, i.frz _ _ _ h⟩
  · exact .inr h
theorem Imm.new {H : Hp} {p : Addr} {o : HO} (hp : H p = none) : Imm H (upd H p o) :=
  ⟨fun a xs h => by rw [upd_ne (ne_of_none h hp)]; exact h, fun a ob u h => by rw [upd_ne (ne_of_none h hp)]; exact h⟩

def kD : Key → D
  | .inl i => .int i
  | .inr x => .str x.cps.toList
def okK : Key → Bool
  | .inl _ => true
  | .inr x => okS x.cps.toList
mutual
/-- the value d of the layer is the value v of the abstract heap H; objects stand where m tells, n of them -/
inductive RD (K : PySem.W.Frag) (m : Nat → Addr) (n : Nat) (H : Hp) : D → V → Prop
  | non : RD K m n H .non .non
  | bl (b : Bool) : RD K m n H (.bl b) (.bl b)
  | int (i : Int) : RD K m n H (.int i) (.int i)
  | str {l : List Nat} : okS l = true → RD K m n H (.str l) (.str ⟨l.toArray⟩)
  | tup {a : Addr} {xs : List D} {vs : List V} : Plt K H a vs → RDs K m n H xs vs → RD K m n H (.tup xs) (.ref a)
  | fls {a : Addr} {xs : List D} {vs : List V} : Frz K H a vs → RDs K m n H xs vs → RD K m n H (.fls xs) (.ref a)
  | fdc {a : Addr} {ks ds : List D} {o : Obj} {kvs : List (Key × V)} : H a = some (.frz o (.dK kvs)) → ks = kvs.map (fun p => kD p.1) → (∀ p ∈ kvs, okK p.1 = true) → RDs K m n H ds (kvs.map (·.2)) → RD K m n H (.fdc ks ds) (.ref a)
  | ref {k : Nat} : k < n → RD K m n H (.ref k) (.ref (m k))
  | ty (s : String) : RD K m n H (.ty s) (.ty s)
  | adr (a : Addr) : RD K m n H (.adr a) (.ref a)
inductive RDs (K : PySem.W.Frag) (m : Nat → Addr) (n : Nat) (H : Hp) : List D → List V → Prop
  | nil : RDs K m n H [] []
  | cons {x : D} {v : V} {xs : List D} {vs : List V} : RD K m n H x v → RDs K m n H xs vs → RDs K m n H (x :: xs) (v :: vs)
end
section
variable {K : PySem.W.Frag} {m m' : Nat → Addr} {n n' : Nat} {H H' : Hp}
mutual
theorem RD.mono (hn : n ≤ n') (hm : ∀ k, k < n → m' k = m k) (hi : Imm H H') : ∀ (d : D) (v : V), RD K m n H d v → RD K m' n' H' d v
  | .non, _, h => by cases h; exact .non
  | .bl _, _, h => by cases h; exact .bl _
  | .int _, _, h => by cases h; exact .int _
  | .str _, _, h => by cases h with | str hl => exact .str hl
  | .tup xs, _, h => by
    cases h with
    | tup h1 h2 => exact .tup (hi.plt h1) (RDs.mono hn hm hi xs _ h2)
  | .fls xs, _, h => by
    cases h with
    | fls h1 h2 => exact .fls (hi.fz h1) (RDs.mono hn hm hi xs _ h2)
  | .fdc ks ds, _, h => by
    cases h with
    | fdc h1 h2 h3 h4 => exact .fdc (hi.frz _ _ _ h1) h2 h3 (RDs.mono hn hm hi ds _ h4)
  | .ref k, _, h => by
    cases h with
    | ref hk =>
      rw [← hm k hk]
      exact .ref (Nat.lt_of_lt_of_le hk hn)
  | .ty _, _, h => by cases h; exact .ty _
  | .adr _, _, h => by cases h; exact .adr _
theorem RDs.mono (hn : n ≤ n') (hm : ∀ k, k < n → m' k = m k) (hi : Imm H H') : ∀ (d : List D) (v : List V), RDs K m n H d v → RDs K m' n' H' d v
  | [], _, h => by cases h; exact .nil
  | x :: xs, _, h => by
    cases h with
    | cons h1 h2 => exact .cons (RD.mono hn hm hi x _ h1) (RDs.mono hn hm hi xs _ h2)
end
theorem RDs.length : ∀ {xs : List D} {vs : List V}, RDs K m n H xs vs → xs.length = vs.length
  | [], _, h => by cases h; rfl
  | x :: xs, _, h => by
    cases h with
    | cons h1 h2 => rw [List.length_cons, List.length_cons, RDs.length h2]
theorem RDs.get : ∀ {xs : List D} {vs : List V} {i : Nat} {x : D}, RDs K m n H xs vs → xs[i]? = some x → ∃ v, vs[i]? = some v ∧ RD K m n H x v
  | [], _, _, _, _, e => by simp at e
  | x :: xs, _, 0, y, h, e => by
    cases h with
    | cons h1 h2 =>
      simp at e
      subst e
      exact ⟨_, rfl, h1⟩
  | x :: xs, _, i + 1, y, h, e => by
    cases h with
    | cons h1 h2 =>
      obtain ⟨v, e1, r⟩ := RDs.get (i := i) h2 (by simpa using e)
      exact ⟨v, by simpa using e1, r⟩
theorem RDs.append : ∀ {xs ys : List D} {vs ws : List V}, RDs K m n H xs vs → RDs K m n H ys ws → RDs K m n H (xs ++ ys) (vs ++ ws)
  | [], _, _, _, h, h' => by cases h; exact h'
  | x :: xs, _, _, _, h, h' => by
    cases h with
    | cons h1 h2 => exact .cons h1 (RDs.append h2 h')
theorem RDs.take : ∀ {xs : List D} {vs : List V} (k : Nat), RDs K m n H xs vs → RDs K m n H (xs.take k) (vs.take k)
  | _, _, 0, _ => by simp only [List.take_zero]; exact .nil
  | [], _, k + 1, h => by cases h; exact .nil
  | x :: xs, _, k + 1, h => by
    cases h with
    | cons h1 h2 => exact .cons h1 (RDs.take k h2)
theorem RDs.drop : ∀ {xs : List D} {vs : List V} (k : Nat), RDs K m n H xs vs → RDs K m n H (xs.drop k) (vs.drop k)
  | _, _, 0, h => h
  | [], _, k + 1, h => by cases h; exact .nil
  | x :: xs, _, k + 1, h => by
    cases h with
    | cons h1 h2 => exact RDs.drop k h2
theorem RDs.set : ∀ {xs : List D} {vs : List V} (k : Nat) {y : D} {w : V}, RDs K m n H xs vs → RD K m n H y w → RDs K m n H (xs.set k y) (vs.set k w)
  | [], _, _, _, _, h, _ => by cases h; exact .nil
  | x :: xs, _, 0, _, _, h, r => by
    cases h with
    | cons h1 h2 => exact .cons r h2
  | x :: xs, _, k + 1, _, _, h, r => by
    cases h with
    | cons h1 h2 => exact .cons h1 (RDs.set k h2 r)
theorem RDs.reverse : ∀ {xs : List D} {vs : List V}, RDs K m n H xs vs → RDs K m n H xs.reverse vs.reverse
  | [], _, h => by cases h; exact .nil
  | x :: xs, _, h => by
    cases h with
    | cons h1 h2 =>
      rw [List.reverse_cons, List.reverse_cons]
      exact (RDs.reverse h2).append (.cons h1 .nil)
theorem RDs.erase : ∀ {xs : List D} {vs : List V} (k : Nat), RDs K m n H xs vs → RDs K m n H (xs.eraseIdx k) (vs.eraseIdx k)
  | [], _, _, h => by cases h; exact .nil
  | x :: xs, _, 0, h => by
    cases h with
    | cons h1 h2 => exact h2
  | x :: xs, _, k + 1, h => by
    cases h with
    | cons h1 h2 => exact .cons h1 (RDs.erase k h2)
theorem RDs.dropLast {xs : List D} {vs : List V} (h : RDs K m n H xs vs) : RDs K m n H xs.dropLast vs.dropLast := by
  rw [List.dropLast_eq_take, List.dropLast_eq_take, h.length]
  exact h.take _
theorem RDs.of_append : ∀ {xs ys : List D} {vs : List V}, RDs K m n H (xs ++ ys) vs → ∃ v1 v2, vs = v1 ++ v2 ∧ RDs K m n H xs v1 ∧ RDs K m n H ys v2
  | [], _, _, h => ⟨[], _, rfl, .nil, h⟩
  | x :: xs, _, _, h => by
    cases h with
    | cons h1 h2 =>
      obtain ⟨v1, v2, e, r1, r2⟩ := RDs.of_append h2
      exact ⟨_ :: v1, v2, by rw [e]; rfl, .cons h1 r1, r2⟩
theorem RDs.map {f : D → D} {g : V → V} (hf : ∀ d v, RD K m n H d v → RD K m n H (f d) (g v)) : ∀ {xs : List D} {vs : List V}, RDs K m n H xs vs → RDs K m n H (xs.map f) (vs.map g)
  | [], _, h => by cases h; exact .nil
  | x :: xs, _, h => by
    cases h with
    | cons h1 h2 => exact .cons (hf _ _ h1) (RDs.map hf h2)
theorem RDs.ints : ∀ (l : List Int), RDs K m n H (l.map D.int) (l.map V.int)
  | [] => .nil
  | x :: l => .cons (.int x) (RDs.ints l)
theorem RDs.bls : ∀ (l : List Bool), RDs K m n H (l.map D.bl) (l.map V.bl)
  | [] => .nil
  | x :: l => .cons (.bl x) (RDs.bls l)
theorem RDs.strs : ∀ (l : List (List Nat)), (∀ x ∈ l, okS x = true) → RDs K m n H (l.map D.str) (l.map fun c => V.str ⟨c.toArray⟩)
  | [], _ => .nil
  | x :: l, h => .cons (.str (h x List.mem_cons_self)) (RDs.strs l fun y hy => h y (List.mem_cons_of_mem _ hy))
end

/-! ### the virtual heap -/
/-- a dict's pairs -/
inductive RKs (K : PySem.W.Frag) (m : Nat → Addr) (n : Nat) (H : Hp) : List (D × D) → List (Key × V) → Prop
  | nil : RKs K m n H [] []
  | cons {k : Key} {x : D} {v : V} {xs : List (D × D)} {vs : List (Key × V)} : okK k = true → RD K m n H x v → RKs K m n H xs vs → RKs K m n H ((kD k, x) :: xs) ((k, v) :: vs)
/-- an instance's fields -/
inductive RFs (K : PySem.W.Frag) (m : Nat → Addr) (n : Nat) (H : Hp) : List (Str × D) → List (Str × V) → Prop
  | nil : RFs K m n H [] []
  | cons {f : Str} {x : D} {v : V} {xs : List (Str × D)} {vs : List (Str × V)} : RD K m n H x v → RFs K m n H xs vs → RFs K m n H ((f, x) :: xs) ((f, v) :: vs)
def RO (K : PySem.W.Frag) (g : Gc) (m : Nat → Addr) (n : Nat) (H : Hp) (a : Addr) : O → Prop
  | .lst xs => ∃ vs, H a = some (.lst vs) ∧ RDs K m n H xs vs
  | .dct kvs => ∃ vs, H a = some (.dK vs) ∧ RKs K m n H kvs vs
  | .ins c fs => ∃ C dx vs, g.cs[c]? = some C ∧ H a = some (.ins C dx vs) ∧ RFs K m n H fs vs
structure Sim (K : PySem.W.Frag) (g : Gc) (m : Nat → Addr) (h : VH) (H : Hp) : Prop where
  inj : ∀ i j, i < h.length → j < h.length → m i = m j → i = j
  obj : ∀ i o, h[i]? = some o → RO K g m h.length H (m i) o
  tab : LamX.Tabs g.T H
section
variable {K : PySem.W.Frag} {g : Gc} {m m' : Nat → Addr} {n n' : Nat} {H H' : Hp} {h : VH}
theorem RKs.mono (hn : n ≤ n') (hm : ∀ k, k < n → m' k = m k) (hi : Imm H H') : ∀ {d : List (D × D)} {v : List (Key × V)}, RKs K m n H d v → RKs K m' n' H' d v
  | _, _, .nil => .nil
  | _, _, .cons h0 h1 h2 => .cons h0 (RD.mono hn hm hi _ _ h1) (RKs.mono hn hm hi h2)
theorem RFs.mono (hn : n ≤ n') (hm : ∀ k, k < n → m' k = m k) (hi : Imm H H') : ∀ {d : List (Str × D)} {v : List (Str × V)}, RFs K m n H d v → RFs K m' n' H' d v
  | _, _, .nil => .nil
  | _, _, .cons h1 h2 => .cons (RD.mono hn hm hi _ _ h1) (RFs.mono hn hm hi h2)
theorem RO.mono (hn : n ≤ n') (hm : ∀ k, k < n → m' k = m k) (hi : Imm H H') {a : Addr} (ha : H' a = H a) : ∀ {o : O}, RO K g m n H a o → RO K g m' n' H' a o
  | .lst xs, ⟨vs, h1, h2⟩ => ⟨vs, ha.trans h1, RDs.mono hn hm hi _ _ h2⟩
  | .dct xs, ⟨vs, h1, h2⟩ => ⟨vs, ha.trans h1, h2.mono hn hm hi⟩
  | .ins c xs, ⟨C, dx, vs, h0, h1, h2⟩ => ⟨C, dx, vs, h0, ha.trans h1, h2.mono hn hm hi⟩
theorem RO.some {a : Addr} : ∀ {o : O}, RO K g m n H a o → ∃ u, H a = some u ∧ L2.Mut (some u)
  | .lst xs, ⟨vs, h1, _⟩ => ⟨_, h1, trivial⟩
  | .dct xs, ⟨vs, h1, _⟩ => ⟨_, h1, trivial⟩
  | .ins c xs, ⟨C, dx, vs, _, h1, _⟩ => ⟨_, h1, trivial⟩
theorem Sim.there (s : Sim K g m h H) {i : Nat} (hi : i < h.length) : ∃ u, H (m i) = some u ∧ L2.Mut (some u) := (s.obj i h[i] (by simp [hi])).some
/-- what stays where the virtual heap does not hold it -/
def FrO : HO → Prop
  | .lst _ => True
  | .dK _ => True
  | .set _ _ => True
  | .ext _ => True
  | _ => False
/-- no such thing stands here -/
def Fre : Option HO → Prop
  | none => True
  | some (.tbl _) => True
  | _ => False
theorem Fre.no {o : HO} (h : Fre (some o)) (f : FrO o) : False := by
  cases o <;> first | exact h | exact f
theorem Fre.noM {o : HO} (h : Fre (some o)) (f : L2.Mut (some o)) : False := by
  cases o <;> first | exact h | exact f
theorem Fre.non {o : Option HO} (h : o = none) : Fre o := by rw [h]; trivial
/-- from one state to a later one -/
structure Ext (m : Nat → Addr) (n : Nat) (H : Hp) (m' : Nat → Addr) (n' : Nat) (H' : Hp) : Prop where
  le : n ≤ n'
  eq : ∀ k, k < n → m' k = m k
  im : Imm H H'
  /-- a list or dict that the virtual heap does not hold stays -/
  fr : ∀ a o, (∀ k, k < n → m k ≠ a) → H a = some o → FrO o → H' a = some o
  /-- new objects were not there -/
  nw : ∀ k, n ≤ k → k < n' → Fre (H (m' k))
  al : ∀ a, Fre (H' a) → Fre (H a)
theorem Ext.refl : Ext m n H m n H := ⟨Nat.le_refl _, fun _ _ => rfl, Imm.refl _, fun _ _ _ h _ => h, fun k h1 h2 => by omega, fun _ h => h⟩
theorem Ext.trans {m1 m2 : Nat → Addr} {n1 n2 : Nat} {H1 H2 : Hp} (a : Ext m n H m1 n1 H1) (b : Ext m1 n1 H1 m2 n2 H2) : Ext m n H m2 n2 H2 :=
  ⟨Nat.le_trans a.le b.le, fun k hk => (b.eq k (Nat.lt_of_lt_of_le hk a.le)).trans (a.eq k hk), a.im.trans b.im, fun x o hx h hf => b.fr x o (fun k hk e => by
    by_cases hn : k < n
    · exact hx k hn ((a.eq k hn).symm.trans e)
    · have := a.nw k (by omega) hk
      rw [e, h] at this
      exact Fre.no this hf) (a.fr x o hx h hf) hf, fun k h1 h2 => by
    by_cases hn : k < n1
    · rw [b.eq k hn]
      exact a.nw k h1 hn
    · exact a.al _ (b.nw k (by omega) h2), fun x h => a.al x (b.al x h)⟩
theorem Ext.rd (e : Ext m n H m' n' H') {d : D} {v : V} (r : RD K m n H d v) : RD K m' n' H' d v := RD.mono e.le e.eq e.im _ _ r
theorem Ext.rds (e : Ext m n H m' n' H') {d : List D} {v : List V} (r : RDs K m n H d v) : RDs K m' n' H' d v := RDs.mono e.le e.eq e.im _ _ r

/-- the names' values: what d tells, σ tells -/
def RS (K : PySem.W.Frag) (m : Nat → Addr) (n : Nat) (H : Hp) (δ : DS) (σ : L2.St) : Prop := δ.length = σ.length ∧ ∀ (i : Nat) (d : D), δ[i]? = some (some d) → ∃ v, σ[i]? = some (some v) ∧ RD K m n H d v
theorem Ext.rs (e : Ext m n H m' n' H') {δ : DS} {σ : L2.St} (r : RS K m n H δ σ) : RS K m' n' H' δ σ :=
  ⟨r.1, fun i d hd => let ⟨v, h1, h2⟩ := r.2 i d hd; ⟨v, h1, e.rd h2⟩⟩
theorem RS.set {δ : DS} {σ : L2.St} (r : RS K m n H δ σ) (i : Nat) {d : D} {v : V} (q : RD K m n H d v) : RS K m n H (δ.set i (some d)) (σ.set i (some v)) := by
  refine ⟨by rw [List.length_set, List.length_set]; exact r.1, fun j e hj => ?_⟩
  by_cases hij : i = j
  · subst hij
    by_cases hl : i < δ.length
    · rw [List.getElem?_set_self hl] at hj
      cases hj
      exact ⟨v, by rw [List.getElem?_set_self (by rw [← r.1]; exact hl)], q⟩
    · rw [List.getElem?_eq_none (by rw [List.length_set]; omega)] at hj
      cases hj
  · rw [List.getElem?_set_ne hij] at hj
    obtain ⟨w, h1, h2⟩ := r.2 j e hj
    exact ⟨w, by rw [List.getElem?_set_ne hij]; exact h1, h2⟩
/-- forgetting -/
theorem RS.less {δ δ' : DS} {σ : L2.St} (r : RS K m n H δ σ) (hl : δ'.length = δ.length) (h : ∀ (i : Nat) (d : D), δ'[i]? = some (some d) → δ[i]? = some (some d)) : RS K m n H δ' σ :=
  ⟨hl.trans r.1, fun i d hd => r.2 i d (h i d hd)⟩
theorem RS.start {N : List Str} {ds : List D} {vs : List V} (r : RDs K m n H ds vs) : RS K m n H (ds.map some ++ List.replicate (N.length - ds.length) none) (L2.start N vs) := by
  have hl := r.length
  refine ⟨by unfold L2.start; simp only [List.length_append, List.length_map, List.length_replicate]; omega, fun i d hd => ?_⟩
  unfold L2.start
  by_cases hi : i < ds.length
  · rw [List.getElem?_append_left (by simpa using hi), List.getElem?_map] at hd
    cases e : ds[i]? with
    | none => rw [e] at hd; cases hd
    | some x =>
      rw [e] at hd
      cases hd
      obtain ⟨v, h1, h2⟩ := r.get e
      refine ⟨v, ?_, h2⟩
      rw [List.getElem?_append_left (by rw [List.length_map, ← hl]; exact hi), List.getElem?_map, h1]
      rfl
  · rw [List.getElem?_append_right (by simpa using hi), List.getElem?_replicate] at hd
    split at hd <;> cases hd

/-! ### steps of the virtual heap -/
theorem LamX_code_lst {c : Addr} {q : Str} (xs : List V) : LamX.CodeO c q ≠ HO.lst xs := fun z => by unfold LamX.CodeO at z; cases z
/-- tables stay where what changes is no table and no code object -/
theorem tabs_upd {T : List (Addr × Str)} {x : Addr} {o : HO} (t : LamX.Tabs T H) (h1 : ∀ ps, H x ≠ some (.tbl ps)) (h2 : ∀ q, H x ≠ some (LamX.CodeO x q)) : LamX.Tabs T (upd H x o) := by
  intro p hp
  obtain ⟨ps, e1, e2, e3⟩ := t p hp
  refine ⟨ps, by rw [upd_ne (fun z => h1 ps (by rw [← z]; exact e1))]; exact e1, e2, fun pos cv hc => ?_⟩
  obtain ⟨c, e4, e5⟩ := e3 pos cv hc
  exact ⟨c, e4, by rw [upd_ne (fun z => h2 p.2 (by rw [← z]; exact e5))]; exact e5⟩
theorem al_upd {H : Hp} {p a : Addr} {o : HO} (hp : H p = none) (e : Fre (upd H p o a)) : Fre (H a) := by
  by_cases h : a = p
  · rw [h, hp]
    trivial
  · rw [upd_ne h] at e
    exact e
/-- a new object -/
theorem Sim.alloc (s : Sim K g m h H) {p : Addr} {o : HO} {ob : O} (hp : H p = none) (new : ∀ m', (∀ k, k < h.length → m' k = m k) → RO K g m' (h.length + 1) (upd H p o) p ob) :
    ∃ m', Ext m h.length H m' (h ++ [ob]).length (upd H p o) ∧ Sim K g m' (h ++ [ob]) (upd H p o) ∧ RD K m' (h ++ [ob]).length (upd H p o) (.ref h.length) (.ref p) := by
  have hlen : (h ++ [ob]).length = h.length + 1 := by simp
  have pne : ∀ k, k < h.length → m k ≠ p := fun k hk z => by
    obtain ⟨u, hu, _⟩ := s.there hk
    rw [z, hp] at hu
    cases hu
  let m' : Nat → Addr := fun k => if k = h.length then p else m k
  have e1 : ∀ k, k < h.length → m' k = m k := fun k hk => if_neg (Nat.ne_of_lt hk)
  have e2 : m' h.length = p := if_pos rfl
  have ex : Ext m h.length H m' (h ++ [ob]).length (upd H p o) := ⟨by omega, e1, Imm.new hp, fun a u _ e _ => by rw [upd_ne (ne_of_none e hp)]; exact e, fun k h1 h2 => by
    have hk : k = h.length := by omega
    rw [hk, e2, hp]
    trivial, fun a e => al_upd hp e⟩
  refine ⟨m', ex, ⟨fun i j hi hj e => ?_, fun i u hu => ?_, tabs_upd s.tab (fun ps z => by rw [hp] at z; cases z) (fun q z => by rw [hp] at z; cases z)⟩, ?_⟩
  · rw [hlen] at hi hj
    by_cases h1 : i = h.length
    · by_cases h2 : j = h.length
      · rw [h1, h2]
      · have hj' : j < h.length := by omega
        rw [h1, e2, e1 j hj'] at e
        exact absurd e.symm (pne j hj')
    · have hi' : i < h.length := by omega
      by_cases h2 : j = h.length
      · rw [h2, e2, e1 i hi'] at e
        exact absurd e (pne i hi')
      · have hj' : j < h.length := by omega
        rw [e1 i hi', e1 j hj'] at e
        exact s.inj i j hi' hj' e
  · by_cases h1 : i < h.length
    · rw [List.getElem?_append_left h1] at hu
      rw [e1 i h1]
      exact (s.obj i u hu).mono ex.le ex.eq ex.im (upd_ne (pne i h1))
    · have h2 : i = h.length := by
        have := (List.getElem?_eq_some_iff.mp hu).1
        rw [hlen] at this
        omega
      subst h2
      simp at hu
      subst hu
      rw [e2, hlen]
      exact new m' e1
  · have q : RD K m' (h ++ [ob]).length (upd H p o) (.ref h.length) (.ref (m' h.length)) := .ref (by omega)
    rw [e2] at q
    exact q
/-- an object changed -/
theorem Sim.write (s : Sim K g m h H) {i : Nat} {o : HO} {ob : O} (hi : i < h.length) (new : Imm H (upd H (m i) o) → RO K g m h.length (upd H (m i) o) (m i) ob) (hx : ∀ q, H (m i) ≠ some (LamX.CodeO (m i) q)) :
    Ext m h.length H m (h.set i ob).length (upd H (m i) o) ∧ Sim K g m (h.set i ob) (upd H (m i) o) := by
  obtain ⟨u, hu, mu⟩ := s.there hi
  have im : Imm H (upd H (m i) o) := ⟨fun a xs e => by
      rw [upd_ne (fun z => by rw [z, hu] at e; cases e; exact mu)]
      exact e, fun a ob u' e => by
      rw [upd_ne (fun z => by rw [z, hu] at e; cases e; exact mu)]
      exact e⟩
  refine ⟨⟨by simp, fun _ _ => rfl, im, fun a u ha e _ => by rw [upd_ne (fun z => ha i hi z.symm)]; exact e, fun k h1 h2 => by rw [List.length_set] at h2; omega, fun a e => by
    by_cases h : a = m i
    · rw [h] at e
      obtain ⟨u', hu', mu'⟩ := (new im).some
      rw [hu'] at e
      exact (Fre.noM e mu').elim
    · rw [upd_ne h] at e
      exact e⟩, ⟨fun a b ha hb e => s.inj a b (by simpa using ha) (by simpa using hb) e, fun j u' hj => ?_, tabs_upd s.tab (fun ps z => by rw [hu] at z; cases z; exact mu) hx⟩⟩
  rw [List.length_set]
  by_cases hij : i = j
  · subst hij
    rw [List.getElem?_set_self hi] at hj
    cases hj
    exact new im
  · rw [List.getElem?_set_ne hij] at hj
    have hjl : j < h.length := (List.getElem?_eq_some_iff.mp hj).1
    exact (s.obj j u' hj).mono (Nat.le_refl _) (fun _ _ => rfl) im (upd_ne fun z => hij (s.inj i j hi hjl z.symm))
theorem Sim.tup (s : Sim K g m h H) {p : Addr} {o : HO} (hp : H p = none) : Ext m h.length H m h.length (upd H p o) ∧ Sim K g m h (upd H p o) := by
  refine ⟨⟨Nat.le_refl _, fun _ _ => rfl, Imm.new hp, fun a u _ e _ => by rw [upd_ne (ne_of_none e hp)]; exact e, fun k h1 h2 => by omega, fun a e => al_upd hp e⟩, ⟨s.inj, fun i u hu => ?_, tabs_upd s.tab (fun ps z => by rw [hp] at z; cases z) (fun q z => by rw [hp] at z; cases z)⟩⟩
  have hi : i < h.length := (List.getElem?_eq_some_iff.mp hu).1
  obtain ⟨w, hw, _⟩ := s.there hi
  exact (s.obj i u hu).mono (Nat.le_refl _) (fun _ _ => rfl) (Imm.new hp) (upd_ne (ne_of_none hw hp))
theorem Sim.lst (s : Sim K g m h H) {i : Nat} {xs : List D} (e : h[i]? = some (.lst xs)) : i < h.length ∧ ∃ vs, H (m i) = some (.lst vs) ∧ RDs K m h.length H xs vs :=
  ⟨(List.getElem?_eq_some_iff.mp e).1, s.obj i _ e⟩
theorem Sim.alloc_lst (s : Sim K g m h H) {p : Addr} {xs : List D} {vs : List V} (hp : H p = none) (r : RDs K m h.length H xs vs) :
    ∃ m', Ext m h.length H m' (h ++ [O.lst xs]).length (upd H p (.lst vs)) ∧ Sim K g m' (h ++ [O.lst xs]) (upd H p (.lst vs)) ∧ RD K m' (h ++ [O.lst xs]).length (upd H p (.lst vs)) (.ref h.length) (.ref p) :=
  s.alloc hp fun m' hm => ⟨vs, upd_same, RDs.mono (Nat.le_succ _) hm (Imm.new hp) _ _ r⟩
theorem Sim.write_lst (s : Sim K g m h H) {i : Nat} {xs ys : List D} {vs : List V} (e : h[i]? = some (.lst xs)) (r : RDs K m h.length H ys vs) :
    Ext m h.length H m (h.set i (.lst ys)).length (upd H (m i) (.lst vs)) ∧ Sim K g m (h.set i (.lst ys)) (upd H (m i) (.lst vs)) := by
  obtain ⟨hi, ws, hw, _⟩ := s.lst e
  exact s.write hi (fun im => ⟨vs, upd_same, RDs.mono (Nat.le_refl _) (fun _ _ => rfl) im _ _ r⟩) (fun q z => by rw [hw] at z; exact LamX_code_lst ws (Option.some.inj z).symm)
end

/-! ### objects locked for good -/
/-- a wish after some objects have been locked -/
inductive FzP (P : Hp → Prop) : Hp → Prop
  | base {H : Hp} : P H → FzP P H
  | lock {H : Hp} (p : Addr) (u : HO) : H p = some u → L2.Mut (some u) → (∀ o, FzP P (upd H p (.frz o u))) → FzP P H
abbrev FzQ (Q : VK) : VK := fun v H => FzP (Q v) H
theorem upd_upd {H : Hp} {p : Addr} {o o' : HO} : upd (upd H p o) p o' = upd H p o' := by
  funext a
  by_cases h : a = p
  · rw [h, upd_same, upd_same]
  · rw [upd_ne h, upd_ne h, upd_ne h]
theorem FzP.inv {X : Cx} {pins : List (Addr × Obj)} {σ : L2.St} {P : Hp → Prop} {s : Shared} {H : Hp} (q : FzP P H) (I : Inv X pins σ H s) : ∃ H', Inv X pins σ H' s ∧ P H' := by
  induction q with
  | base q => exact ⟨_, I, q⟩
  | lock p u h mu _ ih =>
    obtain ⟨o, I1⟩ := I.lock h mu
    exact ih o I1
theorem ps_fz {X : Cx} {st : Stmt} {t : TS} (h : PS X st t) : PS X st (fun D σ H => t { D with nx := fun σ' H' => FzP (D.nx σ') H' } σ H) := ⟨fun pins s σ H D I q => thn (h.run pins s σ H _ I q) fun f s' e => by
  cases f with
  | next =>
    obtain ⟨σ', H', I', q'⟩ := e
    obtain ⟨H2, I2, q2⟩ := FzP.inv q' I'
    exact ⟨σ', H2, I2, q2⟩
  | brk => exact e
  | cont => exact e
  | ret v => exact e⟩
theorem ep_fz {X : Cx} {pins : List (Addr × Obj)} {σ : L2.St} {Q : VK} {u : Value} {s : Shared} (h : EP X pins σ (FzQ Q) u s) : EP X pins σ Q u s := by
  obtain ⟨v, H, I, r, q⟩ := h
  obtain ⟨H', I', q'⟩ := q.inv I
  exact ⟨v, H', I', r, q'⟩
theorem pe_fz {X : Cx} {e : Expr} {t : TE} (h : PE X e t) : PE X e (fun σ H Q => t σ H (FzQ Q)) := ⟨fun pins s σ H Q I q => thn (h.run pins s σ H _ I q) fun v s' e => ep_fz e⟩
theorem opr_fz {X : Cx} {f : Value → Value → Sem Value} {r : R2} (h : OpR X f r) : OpR X f (fun x y H Q => r x y H (FzQ Q)) := fun pins s σ H x y v u Q I rx ry q => thn (h pins s σ H x y v u _ I rx ry q) fun v s' e => ep_fz e
theorem callr_fz {X : Cx} {f : Value} {r : List V → Hp → VK → Prop} (h : CallR X f r) : CallR X f (fun xs H Q => r xs H (FzQ Q)) := fun pins s σ H xs us Q I rx q => thn (h pins s σ H xs us _ I rx q) fun v s' e => ep_fz e
theorem mtr_fz {X : Cx} {id : String} {r : V → List V → Hp → VK → Prop} (h : MtR X id r) : MtR X id (fun x xs H Q => r x xs H (FzQ Q)) := fun pins s σ H x xs v us Q I rx rxs q => thn (h pins s σ H x xs v us _ I rx rxs q) fun v s' e => ep_fz e
theorem slr_fz {X : Cx} {r : V → Option Int → Option Int → Hp → VK → Prop} (h : SlR X r) : SlR X (fun x lo hi H Q => r x lo hi H (FzQ Q)) := fun pins s σ H x v vl vu lo hi sl Q I rx hs pl pu q => by
  obtain ⟨T, id, h1, h2, h3⟩ := h pins s σ H x v vl vu lo hi sl _ I rx hs pl pu q
  exact ⟨T, id, h1, h2, thn h3 fun v s' e => ep_fz e⟩
/-- a new list, locked -/
theorem Sim.fls {K : PySem.W.Frag} {g : Gc} {m : Nat → Addr} {h : VH} {H : Hp} (s : Sim K g m h H) {p : Addr} {xs : List D} {vs : List V} (hp : H p = none) (r : RDs K m h.length H xs vs) {Q : VK}
    (q : ∀ m' H' v, Ext m h.length H m' h.length H' → Sim K g m' h H' → RD K m' h.length H' (.fls xs) v → Q v H') : FzQ Q (.ref p) (upd H p (.lst vs)) :=
  .lock p (.lst vs) upd_same trivial fun o => .base (by
    rw [upd_upd]
    obtain ⟨e, s'⟩ := s.tup (o := .frz o (.lst vs)) hp
    exact q m _ _ e s' (.fls (.inl ⟨o, upd_same⟩) (e.rds r)))

/-! ### outcomes -/
/-- an exception: class number c, told p -/
def RX (K : PySem.W.Frag) (g : Gc) (m : Nat → Addr) (n : Nat) (H : Hp) (c : Nat) (p : Option D) (cls : Value) (dd : Option Addr) : Prop :=
  ∃ C, g.cs[c]? = some C ∧ cls = .ref C ∧ (∀ d, p = some d → ∃ a v, dd = some a ∧ H a = some (.xd [(("place" : Str), v)]) ∧ RD K m n H d v) ∧ (p = none → dd = none)
/-- an outcome is good: P of what comes, W of what is raised -/
def Gd {α : Type} (K : PySem.W.Frag) (g : Gc) (W : Value → Option Addr → Hp → Prop) (m : Nat → Addr) (n : Nat) (H : Hp) (P : α → (Nat → Addr) → Nat → Hp → Prop) : Out α → Prop
  | .ok d h => ∀ m' H', Ext m n H m' h.length H' → Sim K g m' h H' → P d m' h.length H'
  | .err c p h => ∀ m' H' cls dd, Ext m n H m' h.length H' → Sim K g m' h H' → RX K g m' h.length H' c p cls dd → W cls dd H'
  | .bad => False
def PD (K : PySem.W.Frag) (Q : VK) : D → (Nat → Addr) → Nat → Hp → Prop := fun d m n H => ∀ v, RD K m n H d v → Q v H
def PL (K : PySem.W.Frag) (Q : List V → Hp → Prop) : List D → (Nat → Addr) → Nat → Hp → Prop := fun d m n H => ∀ v, RDs K m n H d v → Q v H
abbrev GoodE (K : PySem.W.Frag) (g : Gc) (W : Value → Option Addr → Hp → Prop) (m : Nat → Addr) (n : Nat) (H : Hp) (Q : VK) : Out D → Prop := Gd K g W m n H (PD K Q)
abbrev GoodA (K : PySem.W.Frag) (g : Gc) (W : Value → Option Addr → Hp → Prop) (m : Nat → Addr) (n : Nat) (H : Hp) (Q : List V → Hp → Prop) : Out (List D) → Prop := Gd K g W m n H (PL K Q)
abbrev GoodT (K : PySem.W.Frag) (g : Gc) (W : Value → Option Addr → Hp → Prop) (m : Nat → Addr) (n : Nat) (H : Hp) (Q : Bool → Hp → Prop) : Out Bool → Prop := Gd K g W m n H (fun b _ _ H' => Q b H')
/-- the end of an operation that never raises -/
def GoodO (K : PySem.W.Frag) (g : Gc) (m : Nat → Addr) (n : Nat) (H : Hp) (Q : VK) : Option (D × VH) → Prop
  | some (d, h) => ∀ m' H' v, Ext m n H m' h.length H' → Sim K g m' h H' → RD K m' h.length H' d v → Q v H'
  | none => False
def GoodS (K : PySem.W.Frag) (g : Gc) (W : WX) (m : Nat → Addr) (n : Nat) (H : Hp) (E : Ends) : OutS → Prop
  | .nx δ h => ∀ m' H' σ, Ext m n H m' h.length H' → Sim K g m' h H' → RS K m' h.length H' δ σ → E.nx σ H'
  | .ret d h => ∀ m' H' v, Ext m n H m' h.length H' → Sim K g m' h H' → RD K m' h.length H' d v → E.rt v H'
  | .brk δ h => ∀ m' H' σ, Ext m n H m' h.length H' → Sim K g m' h H' → RS K m' h.length H' δ σ → E.bk σ H'
  | .ct δ h => ∀ m' H' σ, Ext m n H m' h.length H' → Sim K g m' h H' → RS K m' h.length H' δ σ → E.ct σ H'
  | .err c p δ h => ∀ m' H' σ cls dd, Ext m n H m' h.length H' → Sim K g m' h H' → RS K m' h.length H' δ σ → RX K g m' h.length H' c p cls dd → W cls dd σ H'
  | .bad => False
/-- the readings of functions -/
def rd (K : PySem.W.Frag) (g : Gc) (W : WX) (f : DS → VH → Out D) : TE := fun σ H Q => ∃ δ m h, RS K m h.length H δ σ ∧ Sim K g m h H ∧ GoodE K g (fun c d H' => W c d σ H') m h.length H Q (f δ h)
def ra (K : PySem.W.Frag) (g : Gc) (W : WX) (f : DS → VH → Out (List D)) : TA := fun σ H Q => ∃ δ m h, RS K m h.length H δ σ ∧ Sim K g m h H ∧ GoodA K g (fun c d H' => W c d σ H') m h.length H Q (f δ h)
def rt (K : PySem.W.Frag) (g : Gc) (W : WX) (f : DS → VH → Out Bool) : TT := fun σ H Q => ∃ δ m h, RS K m h.length H δ σ ∧ Sim K g m h H ∧ GoodT K g (fun c d H' => W c d σ H') m h.length H Q (f δ h)
def rs (K : PySem.W.Frag) (g : Gc) (W : WX) (f : DS → VH → OutS) : TS := fun E σ H => ∃ δ m h, RS K m h.length H δ σ ∧ Sim K g m h H ∧ GoodS K g W m h.length H E (f δ h)
section
variable {α β : Type} {K : PySem.W.Frag} {g : Gc} {W W' : Value → Option Addr → Hp → Prop} {m m1 : Nat → Addr} {n n1 : Nat} {H H1 : Hp} {P P' : α → (Nat → Addr) → Nat → Hp → Prop} {R : β → (Nat → Addr) → Nat → Hp → Prop}
theorem Gd.from {o : Out α} (e : Ext m n H m1 n1 H1) (x : Gd K g W m n H P o) : Gd K g W m1 n1 H1 P o := by
  cases o with
  | ok d h => exact fun m' H' e1 s => x m' H' (e.trans e1) s
  | err c p h => exact fun m' H' cls dd e1 s r => x m' H' cls dd (e.trans e1) s r
  | bad => exact x
theorem Gd.imp {o : Out α} (x : Gd K g W m n H P o) (hP : ∀ a m' n' H', Ext m n H m' n' H' → P a m' n' H' → P' a m' n' H') (hW : ∀ c d H', W c d H' → W' c d H') : Gd K g W' m n H P' o := by
  cases o with
  | ok d h => exact fun m' H' e1 s => hP _ _ _ _ e1 (x m' H' e1 s)
  | err c p h => exact fun m' H' cls dd e1 s r => hW _ _ _ (x m' H' cls dd e1 s r)
  | bad => exact x
/-- two in a row -/
theorem Gd.bind {o : Out α} {k : α → VH → Out β} (q : Gd K g W m n H R (o.bind k))
    (hk : ∀ x h1 m1 H1, Ext m n H m1 h1.length H1 → Sim K g m1 h1 H1 → Gd K g W m1 h1.length H1 R (k x h1) → P x m1 h1.length H1) : Gd K g W m n H P o := by
  cases o with
  | ok d h =>
    have q : Gd K g W m n H R (k d h) := q
    exact fun m' H' e1 s => hk _ _ _ _ e1 s (q.from e1)
  | err c p h => exact q
  | bad => exact q
theorem Gd.of {o : Option (D × VH)} {Q : VK} (q : GoodE K g W m n H Q (Out.of o)) : GoodO K g m n H Q o := by
  cases o with
  | none => exact q
  | some p =>
    obtain ⟨d, h⟩ := p
    exact fun m' H' v e s r => q m' H' e s v r
theorem GoodO.from {o : Option (D × VH)} {Q : VK} (e : Ext m n H m1 n1 H1) (x : GoodO K g m n H Q o) : GoodO K g m1 n1 H1 Q o := by
  cases o with
  | none => exact x
  | some p => exact fun m' H' v e1 s r => x m' H' v (e.trans e1) s r
theorem GoodS.from {W : WX} {E : Ends} {o : OutS} (e : Ext m n H m1 n1 H1) (x : GoodS K g W m n H E o) : GoodS K g W m1 n1 H1 E o := by
  cases o with
  | nx d h => exact fun m' H' v e1 s r => x m' H' v (e.trans e1) s r
  | ret d h => exact fun m' H' v e1 s r => x m' H' v (e.trans e1) s r
  | brk d h => exact fun m' H' v e1 s r => x m' H' v (e.trans e1) s r
  | ct d h => exact fun m' H' v e1 s r => x m' H' v (e.trans e1) s r
  | err c p d h => exact fun m' H' σ cls dd e1 s r q => x m' H' σ cls dd (e.trans e1) s r q
  | bad => exact x
end
end FL
set_option Elab.async false
set_option linter.all false
set_option maxRecDepth 100000
set_option maxHeartbeats 2000000
/-! FL2: the rules: names, constants, operators, displays, calls, tests. -/
namespace FL
open PySem PySem.Spec PyProof.Rows L2

theorem pe_weak {X : Cx} {e : Expr} {t u : TE} (h : PE X e t) (hw : ∀ σ H Q, u σ H Q → t σ H Q) : PE X e u := ⟨fun pins s σ H Q I q => h.run pins s σ H Q I (hw σ H Q q)⟩
theorem pt_weak {X : Cx} {e : Expr} {t u : TT} (h : PT X e t) (hw : ∀ σ H Q, u σ H Q → t σ H Q) : PT X e u := ⟨fun pins s σ H Q I q => h.run pins s σ H Q I (hw σ H Q q)⟩
theorem pw_weak {X : Cx} {e : Expr} {t u : TT} (h : PW X e t) (hw : ∀ σ H Q, u σ H Q → t σ H Q) : PW X e u := ⟨fun w pins s σ H Q I q => h.run w pins s σ H Q I (hw σ H Q q)⟩
theorem pa_weak {X : Cx} {e : List Expr} {t u : TA} (h : PA X e t) (hw : ∀ σ H Q, u σ H Q → t σ H Q) : PA X e u := ⟨fun p pins s σ H Q I q => h.run p pins s σ H Q I (hw σ H Q q)⟩
theorem ps_weak {X : Cx} {e : Stmt} {t u : TS} (h : PS X e t) (hw : ∀ D σ H, u D σ H → t D σ H) : PS X e u := ⟨fun pins s σ H D I q => h.run pins s σ H D I (hw D σ H q)⟩
theorem pss_weak {X : Cx} {e : List Stmt} {t u : TS} (h : PSs X e t) (hw : ∀ D σ H, u D σ H → t D σ H) : PSs X e u := ⟨fun pins s σ H D I q => h.run pins s σ H D I (hw D σ H q)⟩
theorem pg_weak {X : Cx} {e : Expr} {t u : TG} (h : PG X e t) (hw : ∀ v σ H Q, u v σ H Q → t v σ H Q) : PG X e u := ⟨fun pins s σ H v w Q I r q => h.run pins s σ H v w Q I r (hw v σ H Q q)⟩
theorem pgs_weak {X : Cx} {e : List Expr} {t u : TGs} (h : PGs X e t) (hw : ∀ v σ H Q, u v σ H Q → t v σ H Q) : PGs X e u := ⟨fun pins s σ H v w Q I r q => h.run pins s σ H v w Q I r (hw v σ H Q q)⟩
theorem po_weak {X : Cx} {e : Option Expr} {t u : TO} (h : PO X e t) (hw : ∀ σ H Q, u σ H Q → t σ H Q) : PO X e u := ⟨fun pins s σ H Q I q => h.run pins s σ H Q I (hw σ H Q q)⟩
theorem opr_weak {X : Cx} {f : Value → Value → Sem Value} {r r' : R2} (h : OpR X f r) (hw : ∀ x y H Q, r' x y H Q → r x y H Q) : OpR X f r' := fun pins s σ H x y v u Q I rx ry q => h pins s σ H x y v u Q I rx ry (hw _ _ _ _ q)
theorem callr_weak {X : Cx} {f : Value} {r r' : List V → Hp → VK → Prop} (h : CallR X f r) (hw : ∀ xs H Q, r' xs H Q → r xs H Q) : CallR X f r' := fun pins s σ H xs us Q I rx q => h pins s σ H xs us Q I rx (hw _ _ _ q)
theorem mtr_weak {X : Cx} {id : String} {r r' : V → List V → Hp → VK → Prop} (h : MtR X id r) (hw : ∀ x xs H Q, r' x xs H Q → r x xs H Q) : MtR X id r' := fun pins s σ H x xs v us Q I rx rxs q => h pins s σ H x xs v us Q I rx rxs (hw _ _ _ _ q)

section
variable {X : Cx} {g : Gc} {W : WX} {a b c e : Expr} {es : List Expr} {fa fb fc : FE} {pos : Pos}

/-! ### names and constants -/
theorem fe_var (i : Nat) {x : Str} {pos : Pos} (hN : X.N[i]? = some x := by rfl) (hv : Vis X.env.scope x := by first | exact Or.inl rfl | exact Or.inr (Or.inl rfl) | exact Or.inr (Or.inr rfl)) (hd : (x == ("__debug__" : Str)) = false := by decide)
    (hcd : (x == ("__classdict__" : Str)) = false := by decide) : PE X (.Name x pos) (rd X.K g W (eV i)) :=
  pe_weak (pe_var hN hv hd hcd) (by
    rintro σ H Q ⟨δ, m, h, r, s, q⟩
    cases e : δ[i]? with
    | none =>
      have q' : GoodE X.K g (fun c d H' => W c d σ H') m h.length H Q (eV i δ h) := q
      simp only [eV, e] at q'
      exact q'.elim
    | some o =>
      cases o with
      | none =>
        have q' : GoodE X.K g (fun c d H' => W c d σ H') m h.length H Q (eV i δ h) := q
        simp only [eV, e] at q'
        exact q'.elim
      | some d =>
        have q' : GoodE X.K g (fun c d H' => W c d σ H') m h.length H Q (eV i δ h) := q
        simp only [eV, e] at q'
        obtain ⟨v, h1, h2⟩ := r.2 i d e
        exact ⟨v, h1, q' m H Ext.refl s v h2⟩)
/-- a constant's value -/
def IsC (K : PySem.W.Frag) (d : D) (v : V) : Prop := ∀ m n H, RD K m n H d v
theorem rd_c {d : D} {v : V} (hc : IsC X.K d v) : ∀ σ H Q, rd X.K g W (eC d) σ H Q → tC v σ H Q := by
  rintro σ H Q ⟨δ, m, h, r, s, q⟩
  exact q m H Ext.refl s v (hc _ _ _)
theorem fe_int {i j pos} : PE X (.Constant (.int i) j pos) (rd X.K g W (eC (.int i))) := pe_weak pe_int (rd_c fun _ _ _ => .int i)
theorem fe_bl {b j pos} : PE X (.Constant (.bool b) j pos) (rd X.K g W (eC (.bl b))) := pe_weak pe_bl (rd_c fun _ _ _ => .bl b)
theorem fe_non {j pos} : PE X (.Constant .none j pos) (rd X.K g W (eC .non)) := pe_weak pe_non (rd_c fun _ _ _ => .non)
theorem str_of {x : Str} {l : List Nat} (hl : x.cps.toList = l) : x = ⟨l.toArray⟩ := by
  cases x with
  | mk c => subst hl; rfl
theorem isC_str {K : PySem.W.Frag} {x : Str} {l : List Nat} (hl : x.cps.toList = l) (ho : okS l = true) : IsC K (.str l) (.str x) := fun _ _ _ => by
  rw [str_of hl]
  exact .str ho
theorem fe_str {x j pos} {l : List Nat} (hl : x.cps.toList = l := by decide +kernel) (ho : okS l = true := by decide +kernel) : PE X (.Constant (.str x) j pos) (rd X.K g W (eC (.str l))) := pe_weak pe_str (rd_c (isC_str hl ho))
/-- a module's constant -/
theorem fe_glob {x : Str} {v : V} {u : Value} {pos : Pos} {d : D} (hg : Gl X x) (hm : X.mg x = some u) (r : RelV v u) (hc : IsC X.K d v) (hd : (x == ("__debug__" : Str)) = false := by decide) : PE X (.Name x pos) (rd X.K g W (eC d)) :=
  pe_weak (pe_glob hg hm r hd) (rd_c hc)
/-- a module's constant, told once -/
structure Cst (K : PySem.W.Frag) (mg : Str → Option Value) (x : Str) (d : D) : Prop where
  ex : ∃ v u, mg x = some u ∧ RelV v u ∧ IsC K d v
theorem fe_cst {x : Str} {pos : Pos} {d : D} (hc : Cst X.K X.mg x d) (hg : Gl X x := by rfl) (hd : (x == ("__debug__" : Str)) = false := by decide) : PE X (.Name x pos) (rd X.K g W (eC d)) := by
  obtain ⟨v, u, h1, h2, h3⟩ := hc.ex
  exact fe_glob hg h1 h2 h3 hd

/-! ### two-place operators -/
/-- an operator by the layer's function -/
def rO2 (K : PySem.W.Frag) (g : Gc) (o : Op2) : R2 := fun v u H Q => ∃ m h x y, Sim K g m h H ∧ RD K m h.length H x v ∧ RD K m h.length H y u ∧ GoodO K g m h.length H Q (o x y h)
theorem rd_e2 {o : Op2} : ∀ σ H Q, rd X.K g W (e2 o fa fb) σ H Q → tOp (rO2 X.K g o) (rd X.K g W fa) (rd X.K g W fb) σ H Q := by
  rintro σ H Q ⟨δ, m, h, r, s, q⟩
  refine ⟨δ, m, h, r, s, Gd.bind q fun x h1 m1 H1 e1 s1 q1 v r1 => ?_⟩
  refine ⟨δ, m1, h1, e1.rs r, s1, Gd.bind q1 fun y h2 m2 H2 e2 s2 q2 u r2 => ?_⟩
  exact ⟨m2, h2, x, y, s2, e2.rd r1, r2, Gd.of q2⟩
theorem fe_op {op : Operator} {o : Op2} (ho : OpR X (binaryOp op) (rO2 X.K g o)) (ha : PE X a (rd X.K g W fa)) (hb : PE X b (rd X.K g W fb)) : PE X (.BinOp a op b pos) (rd X.K g W (e2 o fa fb)) := pe_weak (pe_op ho ha hb) rd_e2
theorem fe_cmp {op : CmpOp} {o : Op2} (ho : OpR X (compareOp op) (rO2 X.K g o)) (ha : PE X a (rd X.K g W fa)) (hb : PE X b (rd X.K g W fb)) (hm : behindInMarks op b = false) : PE X (.Compare a [op] [b] pos) (rd X.K g W (e2 o fa fb)) := pe_weak (pe_cmpR ho ha hb hm) rd_e2
/-- a bool's expression as a test -/
theorem rt_v {t : TE} (hw : ∀ σ H Q, rd X.K g W fa σ H Q → t σ H Q) : ∀ σ H Q, rt X.K g W (tV fa) σ H Q → tTest t σ H Q := by
  rintro σ H Q ⟨δ, m, h, r, s, q⟩
  refine hw σ H _ ⟨δ, m, h, r, s, Gd.bind q fun x h1 m1 H1 e1 s1 q1 v r1 => ?_⟩
  cases r1 with
  | bl b => exact ⟨b, rfl, q1 m1 H1 Ext.refl s1⟩
  | _ => exact q1.elim
theorem ft_cmp {op : CmpOp} {o : Op2} (ho : OpR X (compareOp op) (rO2 X.K g o)) (ha : PE X a (rd X.K g W fa)) (hb : PE X b (rd X.K g W fb)) (hm : behindInMarks op b = false) : PT X (.Compare a [op] [b] pos) (rt X.K g W (tV (e2 o fa fb))) := pt_weak (pt_cmpR ho ha hb hm) (rt_v rd_e2)
theorem ft_val (ha : PE X a (rd X.K g W fa)) (he : ∀ whole, isTrue a X.env whole = (do let v ← whole; standAt a.pos; holding [v] (truthy v)) := by intro _; rfl) : PT X a (rt X.K g W (tV fa)) :=
  pt_weak (pt_val ha he) (rt_v fun _ _ _ q => q)
theorem tru_ok {K : PySem.W.Frag} {m : Nat → Addr} {h : VH} {H : Hp} {x : D} {v : V} {b : Bool} (s : Sim K g m h H) (r : RD K m h.length H x v) (e : tru x h = some b) : TruV K v H b := by
  cases r with
  | non => simp only [tru, Option.some.injEq] at e; subst e; exact rfl
  | bl c => simp only [tru, Option.some.injEq] at e; subst e; exact rfl
  | int i => simp only [tru, Option.some.injEq] at e; subst e; exact rfl
  | str hl =>
    rename_i l
    simp only [tru] at e
    split at e
    · rename_i hz
      simp only [Option.some.injEq] at e
      subst e
      refine ⟨by rw [sizeLine_eq]; simpa [Str.length] using hz, ?_⟩
      cases l with
      | nil => rfl
      | cons c r =>
        simp only [Str.length, List.isEmpty_cons, Bool.not_false]
        have : (((c :: r).toArray.size : Nat) : Int) ≠ 0 := by simp; omega
        exact (bne_iff_ne.mpr this).symm
    · cases e
  | tup h1 h2 =>
    simp only [tru, Option.some.injEq] at e
    subst e
    refine .inr (.inl ⟨_, h1.sq, ?_⟩)
    cases h2 <;> rfl
  | fls h1 h2 =>
    simp only [tru, Option.some.injEq] at e
    subst e
    refine .inl ⟨_, h1.seq, ?_⟩
    cases h2 <;> rfl
  | ref hk =>
    rename_i k
    simp only [tru] at e
    split at e
    · rename_i xs he
      simp only [Option.some.injEq] at e
      subst e
      obtain ⟨_, vs, h1, h2⟩ := s.lst he
      refine .inl ⟨vs, .of h1, ?_⟩
      cases h2 <;> rfl
    · rename_i xs he
      simp only [Option.some.injEq] at e
      subst e
      obtain ⟨vs, h1, h2⟩ := s.obj k _ he
      refine .inr (.inr ⟨vs, h1, ?_⟩)
      cases h2 <;> rfl
    · cases e
  | fdc _ _ _ _ => simp [tru] at e
  | ty _ => simp [tru] at e
  | adr _ => simp [tru] at e
theorem ft_tru (ha : PE X a (rd X.K g W fa)) (he : ∀ whole, isTrue a X.env whole = (do let v ← whole; standAt a.pos; holding [v] (truthy v)) := by intro _; rfl) : PT X a (rt X.K g W (tTr fa)) :=
  pt_weak (pt_truth ha he) (by
    rintro σ H Q ⟨δ, m, h, r, s, q⟩
    refine ⟨δ, m, h, r, s, Gd.bind q fun x h1 m1 H1 e1 s1 q1 v r1 => ?_⟩
    cases e : tru x h1 with
    | none =>
      simp only [e] at q1
      exact q1.elim
    | some b =>
      simp only [e] at q1
      exact ⟨b, tru_ok s1 r1 e, q1 m1 H1 Ext.refl s1⟩)
variable {ta tb tc : FT} {rest : List Expr}
theorem fw_and1 (ha : PT X a (rt X.K g W ta)) : PW X (.BoolOp .And [a] pos) (rt X.K g W ta) := pw_and1 ha
theorem fw_or1 (ha : PT X a (rt X.K g W ta)) : PW X (.BoolOp .Or [a] pos) (rt X.K g W ta) := pw_or1 ha
theorem fw_and (ha : PT X a (rt X.K g W ta)) (hb : PW X (.BoolOp .And (b :: rest) pos) (rt X.K g W tb)) : PW X (.BoolOp .And (a :: b :: rest) pos) (rt X.K g W (tAnd ta tb)) :=
  pw_weak (pw_and ha hb) (by
    rintro σ H Q ⟨δ, m, h, r, s, q⟩
    refine ⟨δ, m, h, r, s, Gd.bind q fun c h1 m1 H1 e1 s1 q1 => ?_⟩
    cases c with
    | true => exact ⟨δ, m1, h1, e1.rs r, s1, q1⟩
    | false => exact q1 m1 H1 Ext.refl s1)
theorem fw_or (ha : PT X a (rt X.K g W ta)) (hb : PW X (.BoolOp .Or (b :: rest) pos) (rt X.K g W tb)) : PW X (.BoolOp .Or (a :: b :: rest) pos) (rt X.K g W (tOr ta tb)) :=
  pw_weak (pw_or ha hb) (by
    rintro σ H Q ⟨δ, m, h, r, s, q⟩
    refine ⟨δ, m, h, r, s, Gd.bind q fun c h1 m1 H1 e1 s1 q1 => ?_⟩
    cases c with
    | true => exact q1 m1 H1 Ext.refl s1
    | false => exact ⟨δ, m1, h1, e1.rs r, s1, q1⟩)
theorem ft_w (h : PW X a (rt X.K g W ta)) : PT X a (rt X.K g W ta) := h.pt
theorem ft_not (ha : PT X a (rt X.K g W ta)) : PT X (.UnaryOp .Not a pos) (rt X.K g W (tNot ta)) :=
  pt_weak (pt_not ha) (by
    rintro σ H Q ⟨δ, m, h, r, s, q⟩
    exact ⟨δ, m, h, r, s, Gd.bind q fun c h1 m1 H1 e1 s1 q1 => q1 m1 H1 Ext.refl s1⟩)
/-- bools as values -/
theorem fe_one {op} (h : PE X a (rd X.K g W fa)) : PE X (.BoolOp op [a] pos) (rd X.K g W fa) := pe_one h
/-- a and b as a value: a a bool, b what it is -/
def eAnd (a b : FE) : FE := fun δ h => (a δ h).bind fun x h => match x with
  | .bl true => b δ h
  | .bl false => .ok (.bl false) h
  | _ => .bad
def eOr (a b : FE) : FE := fun δ h => (a δ h).bind fun x h => match x with
  | .bl true => .ok (.bl true) h
  | .bl false => b δ h
  | _ => .bad
def eNot (a : FE) : FE := fun δ h => (a δ h).bind fun x h => match x with
  | .bl b => .ok (.bl (!b)) h
  | _ => .bad
theorem fe_and (ha : PE X a (rd X.K g W fa)) (hb : PE X (.BoolOp .And (b :: rest) pos) (rd X.K g W fb)) : PE X (.BoolOp .And (a :: b :: rest) pos) (rd X.K g W (eAnd fa fb)) :=
  pe_weak (pe_and ha hb) (by
    rintro σ H Q ⟨δ, m, h, r, s, q⟩
    refine ⟨δ, m, h, r, s, Gd.bind q fun x h1 m1 H1 e1 s1 q1 v r1 => ?_⟩
    cases r1 with
    | bl c =>
      refine ⟨c, rfl, ?_⟩
      cases c with
      | true => exact ⟨δ, m1, h1, e1.rs r, s1, q1⟩
      | false => exact q1 m1 H1 Ext.refl s1 _ (.bl false)
    | _ => exact q1.elim)
theorem fe_or (ha : PE X a (rd X.K g W fa)) (hb : PE X (.BoolOp .Or (b :: rest) pos) (rd X.K g W fb)) : PE X (.BoolOp .Or (a :: b :: rest) pos) (rd X.K g W (eOr fa fb)) :=
  pe_weak (pe_or ha hb) (by
    rintro σ H Q ⟨δ, m, h, r, s, q⟩
    refine ⟨δ, m, h, r, s, Gd.bind q fun x h1 m1 H1 e1 s1 q1 v r1 => ?_⟩
    cases r1 with
    | bl c =>
      refine ⟨c, rfl, ?_⟩
      cases c with
      | false => exact ⟨δ, m1, h1, e1.rs r, s1, q1⟩
      | true => exact q1 m1 H1 Ext.refl s1 _ (.bl true)
    | _ => exact q1.elim)
theorem fe_not (ha : PE X a (rd X.K g W fa)) : PE X (.UnaryOp .Not a pos) (rd X.K g W (eNot fa)) :=
  pe_weak (pe_not ha) (by
    rintro σ H Q ⟨δ, m, h, r, s, q⟩
    refine ⟨δ, m, h, r, s, Gd.bind q fun x h1 m1 H1 e1 s1 q1 v r1 => ?_⟩
    cases r1 with
    | bl c => exact ⟨c, rfl, q1 m1 H1 Ext.refl s1 _ (.bl _)⟩
    | _ => exact q1.elim)
theorem fe_if (hc : PT X c (rt X.K g W tc)) (ha : PE X a (rd X.K g W fa)) (hb : PE X b (rd X.K g W fb)) : PE X (.IfExp c a b pos) (rd X.K g W (eIf tc fa fb)) :=
  pe_weak (pe_ifExp hc ha hb) (by
    rintro σ H Q ⟨δ, m, h, r, s, q⟩
    refine ⟨δ, m, h, r, s, Gd.bind q fun c h1 m1 H1 e1 s1 q1 => ?_⟩
    cases c with
    | true => exact ⟨δ, m1, h1, e1.rs r, s1, q1⟩
    | false => exact ⟨δ, m1, h1, e1.rs r, s1, q1⟩)
/-- a < b < c -/
theorem rd_ch {o p : Op2} : ∀ σ H Q, rd X.K g W (eCh o p fa fb fc) σ H Q → tChain (rO2 X.K g o) (rO2 X.K g p) (rd X.K g W fa) (rd X.K g W fb) (rd X.K g W fc) σ H Q := by
  rintro σ H Q ⟨δ, m, h, r, s, q⟩
  refine ⟨δ, m, h, r, s, Gd.bind q fun x h1 m1 H1 e1 s1 q1 v r1 => ?_⟩
  refine ⟨δ, m1, h1, e1.rs r, s1, Gd.bind q1 fun y h2 m2 H2 e2 s2 q2 u r2 => ?_⟩
  refine ⟨m2, h2, x, y, s2, e2.rd r1, r2, ?_⟩
  cases eo : o x y h2 with
  | none =>
    simp only [eo] at q2
    exact q2.elim
  | some p0 =>
    obtain ⟨z, h3⟩ := p0
    intro m3 H3 w e3 s3 r3
    simp only [eo] at q2
    cases r3 with
    | bl k =>
      refine ⟨k, rfl, ?_⟩
      cases k with
      | true =>
        rw [if_pos rfl]
        have q3 := Gd.from e3 q2
        refine ⟨δ, m3, h3, (e1.trans (e2.trans e3)).rs r, s3, Gd.bind q3 fun z h4 m4 H4 e4 s4 q4 w r4 => ?_⟩
        exact ⟨m4, h4, y, z, s4, (e3.trans e4).rd r2, r4, Gd.of q4⟩
      | false =>
        rw [if_neg Bool.false_ne_true]
        exact q2 m3 H3 e3 s3 _ (.bl false)
    | _ => exact q2.elim
theorem fe_ch {op op' : CmpOp} {o p : Op2} (ho : OpR X (compareOp op) (rO2 X.K g o)) (ho' : OpR X (compareOp op') (rO2 X.K g p)) (ha : PE X a (rd X.K g W fa)) (hb : PE X b (rd X.K g W fb)) (hc : PE X c (rd X.K g W fc)) (hm : lastMarks [op, op'] [b, c] = false := by with_unfolding_all rfl) :
    PE X (.Compare a [op, op'] [b, c] pos) (rd X.K g W (eCh o p fa fb fc)) := pe_weak (pe_chain ho ho' ha hb hc hm) rd_ch
theorem ft_ch {op op' : CmpOp} {o p : Op2} (ho : OpR X (compareOp op) (rO2 X.K g o)) (ho' : OpR X (compareOp op') (rO2 X.K g p)) (ha : PE X a (rd X.K g W fa)) (hb : PE X b (rd X.K g W fb)) (hc : PE X c (rd X.K g W fc)) (hm : lastMarks [op, op'] [b, c] = false := by with_unfolding_all rfl) :
    PT X (.Compare a [op, op'] [b, c] pos) (rt X.K g W (tV (eCh o p fa fb fc))) := pt_weak (pt_chain ho ho' ha hb hc hm) (rt_v rd_ch)

/-! ### arguments, displays -/
variable {r ra' : FA}
theorem fa_nil : PA X [] (FL.ra X.K g W aNil) := pa_weak pa_nil (by
  rintro σ H Q ⟨δ, m, h, r, s, q⟩
  exact q m H Ext.refl s _ .nil)
theorem fa_cons (ha : PE X e (rd X.K g W fa)) (hr : PA X es (FL.ra X.K g W r)) (hs : starEach (e :: es) X.env = (false, eval e X.env) :: starEach es X.env := by rfl) : PA X (e :: es) (FL.ra X.K g W (aCons fa r)) :=
  pa_weak (pa_cons ha hr hs) (by
    rintro σ H Q ⟨δ, m, h, r, s, q⟩
    refine ⟨δ, m, h, r, s, Gd.bind q fun x h1 m1 H1 e1 s1 q1 v r1 => ?_⟩
    refine ⟨δ, m1, h1, e1.rs r, s1, Gd.bind q1 fun y h2 m2 H2 e2 s2 q2 u r2 => ?_⟩
    exact q2 m2 H2 Ext.refl s2 _ (.cons (e2.rd r1) r2))
/-- a tuple's display: the new object is known -/
def tTupF (t : TA) : TE := fun σ H Q => t σ H fun xs H1 => xs.length ≤ sizeLine ∧ ∀ p o, H1 p = none → o.dict = none → Q (.ref p) (upd H1 p (.frz o (.tup xs)))
theorem laid_tup {pins : List (Addr × Obj)} {σ : L2.St} {H : Hp} {s : Shared} {xs : List V} {us : List Value} {Q : VK} (I : Inv X pins σ H s) (r : Vals xs us) (z : xs.length ≤ sizeLine) (q : ∀ p o, H p = none → o.dict = none → Q (.ref p) (upd H p (.frz o (.tup xs)))) :
    EP X pins σ Q (.ref s.heap.objs.size) { s with heap := s.heap.push { cls := .type "tuple", data := .seq us.toArray } } := by
  refine ⟨.ref s.heap.objs.size, upd H s.heap.objs.size (.frz { cls := .type "tuple", data := .seq us.toArray } (.tup xs)), I.laid (t' := s.toks) (fun b u e => Heap.get?_push_of_some _ e) (Nat.le_refl _) ?_, rfl, q _ _ (I.hok.fresh (Nat.le_refl _)) rfl⟩
  exact ⟨Heap.get?_push_size _ rfl, z, us, r, IsTup.new _ _⟩
theorem pe_tupF {x1} {t : TA} (h : PA X es t) : PE X (.Tuple es x1 pos) (tTupF t) := by
  refine ⟨fun pins s σ H Q I hq => ?_⟩
  exact wpAny_Tuple_spliced (thn (h.run pos pins s σ H _ I hq) fun us s1 ⟨xs, H1, I1, r, z, q⟩ => ⟨by rw [← r.length]; exact z, laid_tup I1 r z q⟩)
theorem fe_tup {x1} (hr : PA X es (FL.ra X.K g W r)) : PE X (.Tuple es x1 pos) (rd X.K g W (eTup r)) := pe_weak (pe_tupF hr) (by
  rintro σ H Q ⟨δ, m, h, r, s, q⟩
  refine ⟨δ, m, h, r, s, Gd.bind q fun x h1 m1 H1 e1 s1 q1 v r1 => ?_⟩
  split at q1
  · rename_i hz
    refine ⟨by rw [sizeLine_eq, ← r1.length]; exact hz, fun p o hp ho => ?_⟩
    obtain ⟨e2, s2⟩ := s1.tup (o := .frz o (.tup v)) hp
    exact q1 m1 _ e2 s2 _ (.tup (.of upd_same ho) (e2.rds r1))
  · exact q1.elim)
/-- a list that nobody changes -/
theorem fe_fl (hr : PA X es (FL.ra X.K g W r)) : PE X (.List es pos) (rd X.K g W (eFl r)) := pe_weak (pe_fz (pe_lst hr)) (by
  rintro σ H Q ⟨δ, m, h, r, s, q⟩
  refine ⟨δ, m, h, r, s, Gd.bind q fun x h1 m1 H1 e1 s1 q1 v r1 => ?_⟩
  split at q1
  · rename_i hz
    refine ⟨by rw [sizeLine_eq, ← r1.length]; exact hz, fun p hp => ?_⟩
    exact s1.fls hp r1 fun m2 H2 v e2 s2 r2 => q1 m2 H2 e2 s2 v r2
  · exact q1.elim)
theorem fe_lst (hr : PA X es (FL.ra X.K g W r)) : PE X (.List es pos) (rd X.K g W (eLst r)) := pe_weak (pe_lst hr) (by
  rintro σ H Q ⟨δ, m, h, r, s, q⟩
  refine ⟨δ, m, h, r, s, Gd.bind q fun x h1 m1 H1 e1 s1 q1 v r1 => ?_⟩
  split at q1
  · rename_i hz
    refine ⟨by rw [sizeLine_eq, ← r1.length]; exact hz, fun p hp => ?_⟩
    obtain ⟨m2, e2, s2, r2⟩ := s1.alloc_lst hp r1
    exact q1 m2 _ e2 s2 _ r2
  · exact q1.elim)

/-! ### built-in functions, types, methods -/
def rB (K : PySem.W.Frag) (g : Gc) (o : List D → VH → Option (D × VH)) : List V → Hp → VK → Prop := fun vs H Q => ∃ m h xs, Sim K g m h H ∧ RDs K m h.length H xs vs ∧ GoodO K g m h.length H Q (o xs h)
theorem rd_eB {o : List D → VH → Option (D × VH)} : ∀ σ H Q, rd X.K g W (eB o r) σ H Q → tCB (rB X.K g o) (FL.ra X.K g W r) σ H Q := by
  rintro σ H Q ⟨δ, m, h, r, s, q⟩
  exact ⟨δ, m, h, r, s, Gd.bind q fun x h1 m1 H1 e1 s1 q1 v r1 => ⟨m1, h1, x, s1, r1, Gd.of q1⟩⟩
theorem fe_B {x : Str} {id : String} {o : List D → VH → Option (D × VH)} {p pos : Pos} (hc : CallR X (.builtin id) (rB X.K g o)) (hm : X.mg x = none) (ha : PA X (e :: es) (FL.ra X.K g W r)) (hg : Gl X x := by rfl) (hv : bootBuiltins x = some (.builtin id) := by decide +kernel) (hn : x ≠ "__name__" := by decide)
    (hdb : (x == ("__debug__" : Str)) = false := by decide) (he : starEach (e :: es) X.env = (false, eval e X.env) :: starEach es X.env := by rfl) (hpl : (backTo pos (starEach es X.env)).any (·.1) = false := by rfl) :
    PE X (.Call (.Name x p) (e :: es) [] pos) (rd X.K g W (eB o r)) := pe_weak (pe_callB hc hg hm hv ha hn hdb he hpl) rd_eB
theorem fe_BT {x : Str} {id : String} {o : List D → VH → Option (D × VH)} {p pos : Pos} (hc : CallR X (.type id) (rB X.K g o)) (hm : X.mg x = none) (ha : PA X (e :: es) (FL.ra X.K g W r)) (hg : Gl X x := by rfl) (hv : bootBuiltins x = some (.type id) := by decide +kernel) (hn : x ≠ "__name__" := by decide)
    (hdb : (x == ("__debug__" : Str)) = false := by decide) (he : starEach (e :: es) X.env = (false, eval e X.env) :: starEach es X.env := by rfl) (hpl : (backTo pos (starEach es X.env)).any (·.1) = false := by rfl) :
    PE X (.Call (.Name x p) (e :: es) [] pos) (rd X.K g W (eB o r)) := pe_weak (pe_callTy hc hg hm hv ha hn hdb he hpl) rd_eB
def rM (K : PySem.W.Frag) (g : Gc) (o : D → List D → VH → Option (D × VH)) : V → List V → Hp → VK → Prop := fun v vs H Q => ∃ m h x xs, Sim K g m h H ∧ RD K m h.length H x v ∧ RDs K m h.length H xs vs ∧ GoodO K g m h.length H Q (o x xs h)

/-! ### defs -/
/-- a def's promise: it gives what F gives -/
def spF (K : PySem.W.Frag) (g : Gc) (F : List D → VH → Out D) : Sp := fun vs H Q E => ∃ m h xs, Sim K g m h H ∧ RDs K m h.length H xs vs ∧ GoodE K g (fun c d H' => E c d H') m h.length H Q (F xs h)
/-- a def that stands at a global name, its promise -/
structure Df (P : Program) (w : World) (K : PySem.W.Frag) (mg : Str → Option Value) (base : Heap) (g : Gc) (k : Nat) (x : Str) (F : List D → VH → Out D) : Prop where
  ex : ∃ f fd ps, mg x = some (.ref f) ∧ PySem.W.keepIn K (.ref f) = true ∧ Binds K fd ps [] ∧ FnOk P w K mg base (L2.CX P w) k f fd ps (spF K g F)
theorem rd_eF {F : List D → VH → Out D} : ∀ σ H Q, rd X.K g W (eF F r) σ H Q → tCallS (spF X.K g F) (WE W) (FL.ra X.K g W r) σ H Q := by
  rintro σ H Q ⟨δ, m, h, r, s, q⟩
  exact ⟨δ, m, h, r, s, Gd.bind q fun x h1 m1 H1 e1 s1 q1 v r1 => ⟨m1, h1, x, s1, r1, q1⟩⟩
/-- f(e, ..) -/
theorem fe_F {x : Str} {p pos : Pos} {k j : Nat} {F : List D → VH → Out D} (d : Df X.prog X.w X.K X.mg X.base g k x F) (tk : Takes X W) (hr : Room j X.A) (ha : PA X (e :: es) (FL.ra X.K g W r)) (hk : k ≤ j := by decide) (hg : Gl X x := by rfl) (hdb : (x == ("__debug__" : Str)) = false := by decide)
    (he : starEach (e :: es) X.env = (false, eval e X.env) :: starEach es X.env := by rfl) (hpl : (backTo pos (starEach es X.env)).any (·.1) = false := by rfl) : PE X (.Call (.Name x p) (e :: es) [] pos) (rd X.K g W (eF F r)) := by
  obtain ⟨f, fd, ps, h1, h2, h3, h4⟩ := d.ex
  exact pe_weak (pe_callS h4 (hr.mono hk) hg h1 h2 h3 (fun σ => passAt tk σ) ha hdb he hpl) rd_eF
end
end FL
set_option Elab.async false
set_option linter.all false
set_option maxRecDepth 100000
set_option maxHeartbeats 2000000
/-! FL3: operators and built-ins by the layer's functions. -/
namespace FL
open PySem PySem.Spec PyProof.Rows L2

section
variable {X : Cx} {g : Gc}
theorem strL (s : Nat) : (s ≤ sizeLine) = (s ≤ 16777216) := by rw [sizeLine_eq]
theorem str_len (l : List Nat) : Str.length ⟨l.toArray⟩ = l.length := by simp [Str.length]
theorem str_app (a b : List Nat) : ((⟨a.toArray⟩ : Str) ++ ⟨b.toArray⟩) = ⟨(a ++ b).toArray⟩ := TL.ext_tl (by rw [TL.tl_append, TL.tl_mk, TL.tl_mk, TL.tl_mk])
theorem str_inj {a b : List Nat} : ((⟨a.toArray⟩ : Str) = ⟨b.toArray⟩) ↔ a = b := by
  constructor
  · intro h
    have := congrArg (fun x : Str => x.cps.toList) h
    simpa using this
  · rintro rfl; rfl
/-- t + u, the new tuple known -/
def rCatF (K : PySem.W.Frag) : R2 := fun x y H Q => ∃ a b xs ys, x = .ref a ∧ y = .ref b ∧ SqT K H a xs ∧ SqT K H b ys ∧ xs.length + ys.length ≤ sizeLine ∧
  (xs = [] → Q (.ref b) H) ∧ (xs ≠ [] → ys = [] → Q (.ref a) H) ∧ (xs ≠ [] → ys ≠ [] → ∀ p o, H p = none → o.dict = none → Q (.ref p) (upd H p (.frz o (.tup (xs ++ ys)))))
theorem op_catF : OpR X (binaryOp .Add) (rCatF X.K) := by
  intro pins s σ H x y v u Q I rx ry h
  obtain ⟨a, b, xs, ys, rfl, rfl, ha, hb, hz, q0, q1, q2⟩ := h
  cases rx
  cases ry
  obtain ⟨its, r1, p1, _⟩ := I.tuple ha
  obtain ⟨its2, r2, p2, _⟩ := I.tuple hb
  by_cases hx : xs = []
  · subst hx
    cases r1
    exact cat_tup0 p1 p2 ⟨.ref b, H, I, rfl, q0 rfl⟩
  · exact HT.cat_tup p1 p2 (fun z => hx (r1.nil_iff.mp z)) (fun z => ⟨.ref a, H, I, rfl, q1 hx (r2.nil_iff.mp z)⟩) (fun z => laid_tup I (r1.append r2) (by rw [List.length_append]; exact hz) (q2 hx fun w => z (r2.nil_iff.mpr w))) (by rw [← r1.length, ← r2.length]; exact hz)
theorem ls_of {K : PySem.W.Frag} {m : Nat → Addr} {h : VH} {H : Hp} {d : D} {v : V} {xs : List D} (s : Sim K g m h H) (r : RD K m h.length H d v) (e : lsOf d h = some xs) : ∃ a vs, v = .ref a ∧ SqL K H a vs ∧ RDs K m h.length H xs vs := by
  cases r with
  | fls h1 h2 => cases e; exact ⟨_, _, rfl, h1.seq, h2⟩
  | ref hk =>
    simp only [lsOf] at e
    split at e
    · rename_i ys hx
      cases e
      obtain ⟨_, vs, a1, b1⟩ := s.lst hx
      exact ⟨_, vs, rfl, .of a1, b1⟩
    · cases e
  | _ => cases e
/-- xs + ys, read -/
def rCatL (K : PySem.W.Frag) : R2 := fun x y H Q => ∃ a b xs ys, x = .ref a ∧ y = .ref b ∧ SqL K H a xs ∧ SqL K H b ys ∧ xs.length + ys.length ≤ sizeLine ∧ ∀ p, H p = none → Q (.ref p) (upd H p (.lst (xs ++ ys)))
theorem op_catL : OpR X (binaryOp .Add) (rCatL X.K) := by
  intro pins s σ H x y v u Q I rx ry h
  obtain ⟨l, b, xs, zs, rfl, rfl, hH, hB, hz, q⟩ := h
  cases rx
  cases ry
  obtain ⟨its, r1, p1, z1⟩ := I.list hH
  obtain ⟨its2, r2, p2, z2⟩ := I.list hB
  obtain ⟨⟨cls, dd, data, sl⟩, ho, hc, n, hd⟩ := p1.isList
  obtain ⟨⟨cls2, dd2, data2, sl2⟩, ho2, hc2, n2, hd2⟩ := p2.isList
  simp only at hc hd hc2 hd2
  subst hc hd hc2 hd2
  have l1 := r1.length
  have l2 := r2.length
  have hs := sizeLine_eq
  refine concat_meets ⟨_, ho, rfl⟩ ⟨_, ho2, rfl⟩ noFill_list_add seq_list_add PySem.F.slot_list_add PySem.F.entry_list_add (PySem.F.args_list_add_2 _ _) (list_addW l b its.toArray its2.toArray n n2 dd dd2 sl sl2 (by rw [List.size_toArray, List.size_toArray]; omega)) ⟨ho, ho2, ?_⟩
  have ea : its.toArray ++ its2.toArray = (its ++ its2).toArray := by simp
  rw [ea]
  exact ⟨.ref _, _, I.lnew (t' := s.toks) (r1.append r2) (by rw [List.length_append]; omega), rfl, q _ I.fresh⟩
/-- xs * k, read -/
def rRepL (K : PySem.W.Frag) : R2 := fun x y H Q => ∃ l k xs, x = .ref l ∧ y = .int k ∧ SqL K H l xs ∧ -(2 ^ 63) ≤ k ∧ k < 2 ^ 63 ∧ xs.length * k.toNat ≤ sizeLine ∧
  ∀ p, H p = none → Q (.ref p) (upd H p (.lst (List.replicate k.toNat xs).flatten))
theorem op_repL : OpR X (binaryOp .Mult) (rRepL X.K) := by
  intro pins s σ H x y v u Q I rx ry h
  obtain ⟨l, x, xs, rfl, rfl, hH, h1, h2, hz, q⟩ := h
  cases rx
  obtain ⟨u, rfl⟩ := ry
  obtain ⟨vs, r, p1, z1⟩ := I.list hH
  obtain ⟨⟨cls, d, data, sl⟩, ho, hcl, k, hd⟩ := p1.isList
  simp only at hcl hd
  subst hcl hd
  have l1 := r.length
  have hs := sizeLine_eq
  have hsz' : vs.toArray.size * x.toNat ≤ 2 ^ 24 := by rw [List.size_toArray, ← l1]; omega
  refine wpAny_binaryOp_repeat_ref (T := "list") (U := "int") (by decide) ⟨_, ho, rfl⟩ (fun s' => typeIs_int s' x u) noFill_list_mul PySem.F.fills_int_mul PySem.F.slot_int_rmul repeat_list PySem.F.slot_int_index.lookup
    (call_meets PySem.F.slot_int_rmul (typeIs_int s x u) PySem.F.entry_int_rmul (PySem.F.args_int_rmul_2 _ _) (lm_int_rmul_list_any x u l vs.toArray k d sl)
      ⟨ho, rfl, ⟨_, ho, rfl⟩, call_meets PySem.F.slot_list_mul ⟨_, ho, rfl⟩ PySem.F.entry_list_mul (PySem.F.args_list_mul_2 _ _)
        (lm_list_mul_any l vs.toArray k d sl x u (by simp [Builtin.List.listFitsIndex]; omega) (by omega) (by simp [Builtin.List.listTooLong, sizeLine]; omega))
        ⟨ho, ?_⟩⟩)
  rw [listMul_foldl_if]
  exact ⟨.ref _, _, I.lnew (t' := s.toks) (r.rep x.toNat) (by rw [PyProof.Rows.lm_len_rep_flat, Nat.mul_comm]; exact hz), rfl, q _ I.fresh⟩
theorem or_add : OpR X (binaryOp .Add) (rO2 X.K g oAdd) := by
  rintro pins st σ H x y v u Q I rx ry ⟨m, h, d, e, s, r1, r2, q⟩
  have gen : (match lsOf d h, lsOf e h with
    | some a, some b => if a.length + b.length ≤ 16777216 then some (D.fls (a ++ b), h) else none
    | _, _ => none) = oAdd d e h → wpAny (model X.prog X.w) X.A (binaryOp .Add v u) (EP X pins σ Q) X.xe st := by
    intro z
    rw [← z] at q
    split at q
    · rename_i xs ys h1 h2
      split at q
      · rename_i hz
        obtain ⟨a, vs, rfl, a1, b1⟩ := ls_of s r1 h1
        obtain ⟨b, ws, rfl, a2, b2⟩ := ls_of s r2 h2
        refine opr_fz op_catL pins st σ H _ _ v u Q I rx ry ⟨_, _, vs, ws, rfl, rfl, a1, a2, by rw [sizeLine_eq, ← b1.length, ← b2.length]; exact hz, fun p hp => ?_⟩
        exact s.fls hp (b1.append b2) q
      · exact q.elim
    · exact q.elim
  cases r1 with
  | int i => cases r2 with
    | int j => exact op_add pins st σ H _ _ v u Q I rx ry ⟨i, j, rfl, rfl, q m H _ Ext.refl s (.int _)⟩
    | _ => exact gen rfl
  | str ha => cases r2 with
    | str hb =>
      rename_i a b
      simp only [oAdd] at q
      split at q
      · rename_i hz
        refine op_add_str pins st σ H _ _ v u Q I rx ry ⟨_, _, rfl, rfl, by rw [sizeLine_eq, str_len, str_len]; exact hz, ?_⟩
        rw [str_app]
        exact q m H _ Ext.refl s (.str (okS.append ha hb))
      · exact q.elim
    | _ => exact gen rfl
  | tup h1 h2 => cases r2 with
    | tup h3 h4 =>
      rename_i a xs vs b ys ws
      simp only [oAdd] at q
      split at q
      · rename_i hz
        refine op_catF pins st σ H _ _ v u Q I rx ry ⟨_, _, _, _, rfl, rfl, h1.sq, h3.sq, by rw [sizeLine_eq, ← h2.length, ← h4.length]; exact hz, fun e => ?_, fun _ e => ?_, fun _ _ p o hp ho => ?_⟩
        · subst e
          cases h2
          exact q m H _ Ext.refl s (.tup h3 h4)
        · subst e
          cases h4
          exact q m H _ Ext.refl s (.tup h1 (by rw [List.append_nil]; exact h2))
        · obtain ⟨e2, s2⟩ := s.tup (o := .frz o (.tup (vs ++ ws))) hp
          exact q m _ _ e2 s2 (.tup (.of upd_same ho) (e2.rds (h2.append h4)))
      · exact q.elim
    | _ => exact gen rfl
  | _ => cases r2 <;> exact gen rfl
theorem or_sub : OpR X (binaryOp .Sub) (rO2 X.K g oSub) := by
  rintro pins st σ H x y v u Q I rx ry ⟨m, h, d, e, s, r1, r2, q⟩
  cases r1 with
  | int i => cases r2 with
    | int j => exact op_sub pins st σ H _ _ v u Q I rx ry ⟨i, j, rfl, rfl, q m H _ Ext.refl s (.int _)⟩
    | _ => exact q.elim
  | _ => cases r2 <;> exact q.elim
theorem RDs.rep {K : PySem.W.Frag} {m : Nat → Addr} {n : Nat} {H : Hp} {xs : List D} {vs : List V} (h : RDs K m n H xs vs) : ∀ k : Nat, RDs K m n H (List.replicate k xs).flatten (List.replicate k vs).flatten
  | 0 => .nil
  | k + 1 => by
    rw [List.replicate_succ, List.replicate_succ, List.flatten_cons, List.flatten_cons]
    exact h.append (RDs.rep h k)
theorem or_mul : OpR X (binaryOp .Mult) (rO2 X.K g oMul) := by
  rintro pins st σ H x y v u Q I rx ry ⟨m, h, d, e, s, r1, r2, q⟩
  have gen : ∀ {k : Int}, e = .int k → (match lsOf d h with
    | some a => if -9223372036854775808 ≤ k ∧ k < 9223372036854775808 ∧ a.length * k.toNat ≤ 16777216 then some (D.fls (List.replicate k.toNat a).flatten, h) else none
    | none => none) = oMul d e h → wpAny (model X.prog X.w) X.A (binaryOp .Mult v u) (EP X pins σ Q) X.xe st := by
    intro k ek z
    subst ek
    cases r2
    rw [← z] at q
    split at q
    · rename_i xs h1
      split at q
      · rename_i hz
        obtain ⟨a, vs, rfl, a1, b1⟩ := ls_of s r1 h1
        refine opr_fz op_repL pins st σ H _ _ v u Q I rx ry ⟨_, k, vs, rfl, rfl, a1, hz.1, hz.2.1, by rw [sizeLine_eq, ← b1.length]; exact hz.2.2, fun p hp => ?_⟩
        exact s.fls hp (b1.rep k.toNat) q
      · exact q.elim
    · exact q.elim
  cases r1 with
  | int i => cases r2 with
    | int j =>
      simp only [oMul] at q
      split at q
      · rename_i hz
        exact op_mul pins st σ H _ _ v u Q I rx ry ⟨i, j, rfl, rfl, hz, q m H _ Ext.refl s (.int _)⟩
      · exact q.elim
    | _ => exact q.elim
  | _ => cases r2 with
    | int k => exact gen rfl rfl
    | _ => exact q.elim
theorem or_fdv : OpR X (binaryOp .FloorDiv) (rO2 X.K g oFdv) := by
  rintro pins st σ H x y v u Q I rx ry ⟨m, h, d, e, s, r1, r2, q⟩
  cases r1 with
  | int i => cases r2 with
    | int j =>
      simp only [oFdv] at q
      split at q
      · rename_i hz
        exact op_fdiv pins st σ H _ _ v u Q I rx ry ⟨i, j, rfl, rfl, hz, q m H _ Ext.refl s (.int _)⟩
      · exact q.elim
    | _ => exact q.elim
  | _ => cases r2 <;> exact q.elim
theorem or_mod : OpR X (binaryOp .Mod) (rO2 X.K g oMod) := by
  rintro pins st σ H x y v u Q I rx ry ⟨m, h, d, e, s, r1, r2, q⟩
  cases r1 with
  | int i => cases r2 with
    | int j =>
      simp only [oMod] at q
      split at q
      · rename_i hz
        exact op_mod pins st σ H _ _ v u Q I rx ry ⟨i, j, rfl, rfl, hz, q m H _ Ext.refl s (.int _)⟩
      · exact q.elim
    | _ => exact q.elim
  | _ => cases r2 <;> exact q.elim
theorem or_pow : OpR X (binaryOp .Pow) (rO2 X.K g oPow) := by
  rintro pins st σ H x y v u Q I rx ry ⟨m, h, d, e, s, r1, r2, q⟩
  cases r1 with
  | int i => cases r2 with
    | int j =>
      simp only [oPow] at q
      split at q
      · rename_i hz
        exact op_pow pins st σ H _ _ v u Q I rx ry ⟨i, j, rfl, rfl, hz, q m H _ Ext.refl s (.int _)⟩
      · exact q.elim
    | _ => exact q.elim
  | _ => cases r2 <;> exact q.elim
theorem or_iadd : OpR X (inplaceOp .Add) (rO2 X.K g (fun x y h => match x, y with
    | .int _, .int _ => oAdd x y h
    | .str _, .str _ => oAdd x y h
    | _, _ => none)) := by
  rintro pins st σ H x y v u Q I rx ry ⟨m, h, d, e, s, r1, r2, q⟩
  cases r1 with
  | int i => cases r2 with
    | int j => exact iop_add pins st σ H _ _ v u Q I rx ry ⟨i, j, rfl, rfl, q m H _ Ext.refl s (.int _)⟩
    | _ => exact q.elim
  | str ha => cases r2 with
    | str hb =>
      rename_i a b
      simp only [oAdd] at q
      split at q
      · rename_i hz
        refine iop_add_str pins st σ H _ _ v u Q I rx ry ⟨_, _, rfl, rfl, by rw [sizeLine_eq, str_len, str_len]; exact hz, ?_⟩
        rw [str_app]
        exact q m H _ Ext.refl s (.str (okS.append ha hb))
      · exact q.elim
    | _ => exact q.elim
  | _ => cases r2 <;> exact q.elim

/-! ### comparisons -/
theorem or_lt : OpR X (compareOp .Lt) (rO2 X.K g cLt) := by
  rintro pins st σ H x y v u Q I rx ry ⟨m, h, d, e, s, r1, r2, q⟩
  cases r1 with
  | int i => cases r2 with
    | int j => exact op_lt pins st σ H _ _ v u Q I rx ry ⟨i, j, rfl, rfl, q m H _ Ext.refl s (.bl _)⟩
    | _ => exact q.elim
  | str ha => cases r2 with
    | str hb => exact op_lt_str pins st σ H _ _ v u Q I rx ry ⟨_, _, rfl, rfl, q m H _ Ext.refl s (.bl _)⟩
    | _ => exact q.elim
  | _ => cases r2 <;> exact q.elim
theorem or_le : OpR X (compareOp .LtE) (rO2 X.K g cLe) := by
  rintro pins st σ H x y v u Q I rx ry ⟨m, h, d, e, s, r1, r2, q⟩
  cases r1 with
  | int i => cases r2 with
    | int j => exact op_le pins st σ H _ _ v u Q I rx ry ⟨i, j, rfl, rfl, q m H _ Ext.refl s (.bl _)⟩
    | _ => exact q.elim
  | str ha => cases r2 with
    | str hb => exact op_le_str pins st σ H _ _ v u Q I rx ry ⟨_, _, rfl, rfl, q m H _ Ext.refl s (.bl _)⟩
    | _ => exact q.elim
  | _ => cases r2 <;> exact q.elim
theorem or_gt : OpR X (compareOp .Gt) (rO2 X.K g cGt) := by
  rintro pins st σ H x y v u Q I rx ry ⟨m, h, d, e, s, r1, r2, q⟩
  cases r1 with
  | int i => cases r2 with
    | int j => exact op_gt pins st σ H _ _ v u Q I rx ry ⟨i, j, rfl, rfl, q m H _ Ext.refl s (.bl _)⟩
    | _ => exact q.elim
  | str ha => cases r2 with
    | str hb => exact op_gt_str pins st σ H _ _ v u Q I rx ry ⟨_, _, rfl, rfl, q m H _ Ext.refl s (.bl _)⟩
    | _ => exact q.elim
  | _ => cases r2 <;> exact q.elim
theorem or_ge : OpR X (compareOp .GtE) (rO2 X.K g cGe) := by
  rintro pins st σ H x y v u Q I rx ry ⟨m, h, d, e, s, r1, r2, q⟩
  cases r1 with
  | int i => cases r2 with
    | int j => exact op_ge pins st σ H _ _ v u Q I rx ry ⟨i, j, rfl, rfl, q m H _ Ext.refl s (.bl _)⟩
    | _ => exact q.elim
  | str ha => cases r2 with
    | str hb => exact op_ge_str pins st σ H _ _ v u Q I rx ry ⟨_, _, rfl, rfl, q m H _ Ext.refl s (.bl _)⟩
    | _ => exact q.elim
  | _ => cases r2 <;> exact q.elim
theorem isNon_iff {K : PySem.W.Frag} {m : Nat → Addr} {n : Nat} {H : Hp} {d : D} {v : V} (r : RD K m n H d v) : isNon d = decide (v = .non) := by
  cases r <;> rfl
theorem or_is : OpR X (compareOp .Is) (rO2 X.K g cIs) := by
  rintro pins st σ H x y v u Q I rx ry ⟨m, h, d, e, s, r1, r2, q⟩
  cases r2 with
  | non =>
    refine op_isN pins st σ H _ _ v u Q I rx ry ⟨rfl, ?_⟩
    rw [← isNon_iff r1]
    exact q m H _ Ext.refl s (.bl _)
  | _ => cases r1 <;> exact q.elim
theorem or_isn : OpR X (compareOp .IsNot) (rO2 X.K g cIsn) := by
  rintro pins st σ H x y v u Q I rx ry ⟨m, h, d, e, s, r1, r2, q⟩
  cases r2 with
  | non =>
    refine op_notN pins st σ H _ _ v u Q I rx ry ⟨rfl, ?_⟩
    rw [← isNon_iff r1]
    exact q m H _ Ext.refl s (.bl _)
  | _ => cases r1 <;> exact q.elim

/-! ### data -/
theorem allS_cons {α : Type} {a : Option α} {r : List (Option α)} {l : List α} (e : allS (a :: r) = some l) : ∃ x l', a = some x ∧ allS r = some l' ∧ l = x :: l' := by
  cases a with
  | none => simp [allS] at e
  | some x =>
    simp only [allS] at e
    split at e
    · rename_i l' h
      cases e
      exact ⟨x, l', rfl, h, rfl⟩
    · cases e
theorem dp_of {K : PySem.W.Frag} {m : Nat → Addr} {h : VH} {H : Hp} (s : Sim K g m h H) : ∀ (n : Nat) (d : D) (v : V) (p : PyData), RD K m h.length H d v → toP n h d = some p → Dp K H v p ∧ p.canLay0 = true ∧ p.depth ≤ n
  | 0, d, v, p, r, e => by simp [toP] at e
  | n + 1, d, v, p, r, e => by
    have each : ∀ (xs : List D) (vs : List V) (l : List PyData), RDs K m h.length H xs vs → allS (xs.map (toP n h)) = some l → DpAll K H vs l ∧ PyData.canLayAll0 l = true ∧ PyData.depthAll l ≤ n := by
      intro xs
      induction xs with
      | nil =>
        intro vs l r e
        cases r
        simp only [List.map_nil, allS, Option.some.injEq] at e
        subst e
        exact ⟨.nil, rfl, Nat.zero_le _⟩
      | cons x xs ih =>
        intro vs l r e
        cases r with
        | cons r1 r2 =>
          rw [List.map_cons] at e
          obtain ⟨a, l', e1, e2, rfl⟩ := allS_cons e
          obtain ⟨d1, c1, k1⟩ := dp_of s n x _ a r1 e1
          obtain ⟨d2, c2, k2⟩ := ih _ l' r2 e2
          refine ⟨.cons d1 d2, by simp only [PyData.canLayAll0, c1, c2] <;> rfl, ?_⟩
          simp only [PyData.depthAll]
          exact Nat.max_le.mpr ⟨k1, k2⟩
    cases r with
    | non => simp only [toP, Option.some.injEq] at e; subst e; exact ⟨.non, rfl, by simp [PyData.depth]⟩
    | bl b => simp only [toP, Option.some.injEq] at e; subst e; exact ⟨.bl b, rfl, by simp [PyData.depth]⟩
    | int b => simp only [toP, Option.some.injEq] at e; subst e; exact ⟨.int b, rfl, by simp [PyData.depth]⟩
    | str hb =>
      rename_i l
      simp only [toP, Option.some.injEq] at e
      subst e
      refine ⟨.str _, ?_, by simp [PyData.depth]⟩
      simp only [PyData.canLay0, PyData.strOk]
      unfold okS at hb
      simpa using hb
    | tup h1 h2 =>
      simp only [toP] at e
      split at e
      · rename_i l hl
        cases e
        obtain ⟨a, b, c⟩ := each _ _ l h2 hl
        exact ⟨.tup h1.sq a, by simp only [PyData.canLay0, b], by simp only [PyData.depth]; omega⟩
      · cases e
    | fls h1 h2 =>
      simp only [toP] at e
      split at e
      · rename_i l hl
        cases e
        obtain ⟨a, b, c⟩ := each _ _ l h2 hl
        exact ⟨.lst h1.seq a, by simp only [PyData.canLay0, b], by simp only [PyData.depth]; omega⟩
      · cases e
    | ref hk =>
      simp only [toP] at e
      split at e
      · rename_i xs hx
        obtain ⟨_, vs, a1, b1⟩ := s.lst hx
        split at e
        · rename_i l hl
          cases e
          obtain ⟨a, b, c⟩ := each _ _ l b1 hl
          exact ⟨.lst (.of a1) a, by simp only [PyData.canLay0, b], by simp only [PyData.depth]; omega⟩
        · cases e
      · cases e
    | fdc _ _ _ _ => simp [toP] at e
    | ty _ => simp [toP] at e
    | adr _ => simp [toP] at e
theorem dp_deep {K : PySem.W.Frag} {m : Nat → Addr} {h : VH} {H : Hp} (s : Sim K g m h H) {d : D} {v : V} {p : PyData} (r : RD K m h.length H d v) (e : toP deep h d = some p) : Dp K H v p ∧ SeqAt.shaped p = true := by
  obtain ⟨a, b, c⟩ := dp_of s deep d v p r e
  refine ⟨a, ?_⟩
  unfold SeqAt.shaped
  rw [b, Bool.true_and]
  exact decide_eq_true (Nat.le_trans c (by decide))
theorem dps_deep {K : PySem.W.Frag} {m : Nat → Addr} {h : VH} {H : Hp} (s : Sim K g m h H) : ∀ {xs : List D} {vs : List V} {l : List PyData}, RDs K m h.length H xs vs → allS (xs.map (toP deep h)) = some l → DpAll K H vs l ∧ PyData.canLayAll0 l = true ∧ PyData.depthAll l ≤ deep
  | [], vs, l, r, e => by
    cases r
    simp only [List.map_nil, allS, Option.some.injEq] at e
    subst e
    exact ⟨.nil, rfl, Nat.zero_le _⟩
  | x :: xs, vs, l, r, e => by
    cases r with
    | cons r1 r2 =>
      rw [List.map_cons] at e
      obtain ⟨a, l', e1, e2, rfl⟩ := allS_cons e
      obtain ⟨d1, c1, k1⟩ := dp_of s deep x _ a r1 e1
      obtain ⟨d2, c2, k2⟩ := dps_deep s r2 e2
      refine ⟨.cons d1 d2, by simp only [PyData.canLayAll0, c1, c2] <;> rfl, ?_⟩
      simp only [PyData.depthAll]
      exact Nat.max_le.mpr ⟨k1, k2⟩
theorem eq_deep (hu : X.A.units + 64 < cLine) {pins : List (Addr × Obj)} {st : Shared} {σ : L2.St} {H : Hp} {x y : V} {v u : Value} {Q : VK} (I : Inv X pins σ H st) (rx : RelV x v) (ry : RelV y u) {m : Nat → Addr} {h : VH} {d e : D} {b : Bool}
    (s : Sim X.K g m h H) (r1 : RD X.K m h.length H d x) (r2 : RD X.K m h.length H e y) (ed : eqD d e h = some b) (q : Q (.bl b) H) : wpAny (model X.prog X.w) X.A (compareOp .Eq v u) (EP X pins σ Q) X.xe st := by
  unfold eqD at ed
  split at ed
  · rename_i a c h1 h2
    cases ed
    obtain ⟨d1, sh1⟩ := dp_deep s r1 h1
    obtain ⟨d2, sh2⟩ := dp_deep s r2 h2
    exact op_eqD hu pins st σ H x y v u Q I rx ry ⟨a, c, d1, d2, sh1, sh2, q⟩
  · cases ed
theorem ne_deep (hu : X.A.units + 64 < cLine) {pins : List (Addr × Obj)} {st : Shared} {σ : L2.St} {H : Hp} {x y : V} {v u : Value} {Q : VK} (I : Inv X pins σ H st) (rx : RelV x v) (ry : RelV y u) {m : Nat → Addr} {h : VH} {d e : D} {b : Bool}
    (s : Sim X.K g m h H) (r1 : RD X.K m h.length H d x) (r2 : RD X.K m h.length H e y) (ed : eqD d e h = some b) (q : Q (.bl (!b)) H) : wpAny (model X.prog X.w) X.A (compareOp .NotEq v u) (EP X pins σ Q) X.xe st := by
  unfold eqD at ed
  split at ed
  · rename_i a c h1 h2
    cases ed
    obtain ⟨d1, sh1⟩ := dp_deep s r1 h1
    obtain ⟨d2, sh2⟩ := dp_deep s r2 h2
    exact op_neD hu pins st σ H x y v u Q I rx ry ⟨a, c, d1, d2, sh1, sh2, q⟩
  · cases ed
theorem dec_strs {a b : List Nat} : decide (V.str ⟨a.toArray⟩ = V.str ⟨b.toArray⟩) = decide (a = b) := by
  by_cases e : a = b
  · subst e; simp
  · have : ¬ (V.str ⟨a.toArray⟩ = V.str ⟨b.toArray⟩) := fun z => e (str_inj.mp (V.str.inj z))
    rw [decide_eq_false e, decide_eq_false this]
theorem dec_ints {a b : Int} : decide (V.int a = V.int b) = decide (a = b) := by
  by_cases e : a = b
  · subst e; simp
  · have : ¬ (V.int a = V.int b) := fun z => e (V.int.inj z)
    rw [decide_eq_false e, decide_eq_false this]
theorem dec_bls {a b : Bool} : decide (V.bl a = V.bl b) = decide (a = b) := by
  by_cases e : a = b
  · subst e; simp
  · have : ¬ (V.bl a = V.bl b) := fun z => e (V.bl.inj z)
    rw [decide_eq_false e, decide_eq_false this]
theorem or_eq (hu : X.A.units + 64 < cLine) : OpR X (compareOp .Eq) (rO2 X.K g cEq) := by
  rintro pins st σ H x y v u Q I rx ry ⟨m, h, d, e, s, r1, r2, q⟩
  have gen : (match eqD d e h with | some b => some (D.bl b, h) | none => none) = cEq d e h → wpAny (model X.prog X.w) X.A (compareOp .Eq v u) (EP X pins σ Q) X.xe st := by
    intro z
    rw [← z] at q
    split at q
    · rename_i b hb
      exact eq_deep hu I rx ry s r1 r2 hb (q m H _ Ext.refl s (.bl b))
    · exact q.elim
  cases r1 with
  | int i => cases r2 with
    | int j =>
      refine op_eq pins st σ H _ _ v u Q I rx ry ⟨rfl, ?_⟩
      rw [dec_ints]
      exact q m H _ Ext.refl s (.bl _)
    | _ => exact gen rfl
  | str ha => cases r2 with
    | str hb =>
      refine op_eq pins st σ H _ _ v u Q I rx ry ⟨rfl, ?_⟩
      rw [dec_strs]
      exact q m H _ Ext.refl s (.bl _)
    | _ => exact gen rfl
  | bl i => cases r2 with
    | bl j =>
      refine op_eq pins st σ H _ _ v u Q I rx ry ⟨rfl, ?_⟩
      rw [dec_bls]
      exact q m H _ Ext.refl s (.bl _)
    | _ => exact gen rfl
  | _ => cases r2 <;> exact gen rfl
theorem or_ne (hu : X.A.units + 64 < cLine) : OpR X (compareOp .NotEq) (rO2 X.K g cNe) := by
  rintro pins st σ H x y v u Q I rx ry ⟨m, h, d, e, s, r1, r2, q⟩
  have gen : (match eqD d e h with | some b => some (D.bl (!b), h) | none => none) = cNe d e h → wpAny (model X.prog X.w) X.A (compareOp .NotEq v u) (EP X pins σ Q) X.xe st := by
    intro z
    rw [← z] at q
    split at q
    · rename_i b hb
      exact ne_deep hu I rx ry s r1 r2 hb (q m H _ Ext.refl s (.bl _))
    · exact q.elim
  cases r1 with
  | int i => cases r2 with
    | int j =>
      refine op_ne pins st σ H _ _ v u Q I rx ry ⟨rfl, ?_⟩
      rw [dec_ints]
      exact q m H _ Ext.refl s (.bl _)
    | _ => exact gen rfl
  | str ha => cases r2 with
    | str hb =>
      refine op_ne pins st σ H _ _ v u Q I rx ry ⟨rfl, ?_⟩
      rw [dec_strs]
      exact q m H _ Ext.refl s (.bl _)
    | _ => exact gen rfl
  | bl i => cases r2 with
    | bl j =>
      refine op_ne pins st σ H _ _ v u Q I rx ry ⟨rfl, ?_⟩
      rw [dec_bls]
      exact q m H _ Ext.refl s (.bl _)
    | _ => exact gen rfl
  | _ => cases r2 <;> exact gen rfl
end
end FL
set_option Elab.async false
set_option linter.all false
set_option maxRecDepth 100000
set_option maxHeartbeats 2000000
/-! FL4: in, subscripts, slices, built-in functions, methods. -/
namespace FL
open PySem PySem.Spec PyProof.Rows L2

section
variable {X : Cx} {g : Gc}

/-! ### dicts by keys -/
theorem key_of {K : PySem.W.Frag} {m : Nat → Addr} {n : Nat} {H : Hp} {d : D} {v : V} (r : RD K m n H d v) (e : isKey d = true) : ∃ k : Key, d = kD k ∧ v = kV k ∧ okK k = true := by
  cases r with
  | int i => exact ⟨.inl i, rfl, rfl, rfl⟩
  | str h =>
    rename_i l
    exact ⟨.inr ⟨l.toArray⟩, by simp [kD], rfl, h⟩
  | _ => simp [isKey] at e
theorem kD_eq (a b : Key) : keyEq (kD a) (kD b) = decide (a = b) := by
  cases a with
  | inl i => cases b with
    | inl j =>
      simp only [kD, keyEq]
      by_cases e : i = j
      · subst e; simp
      · rw [decide_eq_false e, decide_eq_false (fun z => e (Sum.inl.inj z))]
    | inr y => rfl
  | inr x => cases b with
    | inl j => rfl
    | inr y =>
      simp only [kD, keyEq]
      by_cases e : x = y
      · subst e; simp
      · rw [decide_eq_false (fun z => e (Sum.inr.inj z)), decide_eq_false (fun z => e (TL.ext_tl z))]
theorem rks_get {K : PySem.W.Frag} {m : Nat → Addr} {n : Nat} {H : Hp} : ∀ {kvs : List (D × D)} {vs : List (Key × V)} (k : Key), RKs K m n H kvs vs → (∀ d, dGet kvs (kD k) = some d → ∃ v, valV vs k = some v ∧ RD K m n H d v) ∧ (dGet kvs (kD k) = none → valV vs k = none)
  | _, _, k, .nil => ⟨fun d e => by simp [dGet] at e, fun _ => rfl⟩
  | _, _, k, .cons (k := k') (v := v) (vs := vs) _ r1 r2 => by
    have ih := rks_get k r2
    by_cases e : k' = k
    · subst e
      refine ⟨fun d h => ?_, fun h => ?_⟩
      · simp only [dGet, kD_eq, decide_true, if_true, Option.some.injEq] at h
        subst h
        exact ⟨v, valV_pos (by rfl), r1⟩
      · simp [dGet, kD_eq] at h
    · have e1 : valV ((k', v) :: vs) k = valV vs k := valV_neg (by exact e)
      refine ⟨fun d h => ?_, fun h => ?_⟩
      · simp only [dGet, kD_eq, decide_eq_false e, Bool.false_eq_true, if_false] at h
        rw [e1]
        exact ih.1 d h
      · simp only [dGet, kD_eq, decide_eq_false e, Bool.false_eq_true, if_false] at h
        rw [e1]
        exact ih.2 h
theorem rks_some {K : PySem.W.Frag} {m : Nat → Addr} {n : Nat} {H : Hp} {kvs : List (D × D)} {vs : List (Key × V)} (k : Key) (r : RKs K m n H kvs vs) : (dGet kvs (kD k)).isSome = (valV vs k).isSome := by
  obtain ⟨h1, h2⟩ := rks_get k r
  cases e : dGet kvs (kD k) with
  | none => rw [h2 e] <;> rfl
  | some d =>
    obtain ⟨v, hv, _⟩ := h1 d e
    rw [hv] <;> rfl
theorem rks_len {K : PySem.W.Frag} {m : Nat → Addr} {n : Nat} {H : Hp} : ∀ {kvs : List (D × D)} {vs : List (Key × V)}, RKs K m n H kvs vs → kvs.length = vs.length
  | _, _, .nil => rfl
  | _, _, .cons _ _ r => by rw [List.length_cons, List.length_cons, rks_len r]
theorem rks_rest {K : PySem.W.Frag} {m : Nat → Addr} {n : Nat} {H : Hp} (k : Key) {d : D} {v : V} (rd : RD K m n H d v) : ∀ {kvs : List (D × D)} {vs : List (Key × V)}, RKs K m n H kvs vs → (∀ p ∈ vs, p.1 ≠ k) → RKs K m n H kvs (vs.map fun kv => if kv.1 = k then (kv.1, v) else kv)
  | _, _, .nil, _ => .nil
  | _, _, .cons (k := k') r0 r1 r2, h => by
    have e : ¬ k' = k := h _ List.mem_cons_self
    rw [List.map_cons]
    simp only [e, if_false]
    exact .cons r0 r1 (rks_rest k rd r2 fun p hp => h p (List.mem_cons_of_mem _ hp))
/-- keys stand once -/
def KNd (vs : List (Key × V)) : Prop := (vs.map (·.1)).Nodup
theorem rks_put {K : PySem.W.Frag} {m : Nat → Addr} {n : Nat} {H : Hp} (k : Key) (hk : okK k = true) {d : D} {v : V} (rd : RD K m n H d v) : ∀ {kvs : List (D × D)} {vs : List (Key × V)}, RKs K m n H kvs vs → KNd vs → RKs K m n H (dPut kvs (kD k) d) (putK vs k v)
  | _, _, .nil, _ => by
    show RKs K m n H [(kD k, d)] (putK [] k v)
    exact .cons hk rd .nil
  | _, _, .cons (k := k') (x := x) (v := w) (vs := vs) r0 r1 r2, nd => by
    have nd' : k' ∉ vs.map (·.1) ∧ KNd vs := List.nodup_cons.mp nd
    by_cases e : k' = k
    · subst e
      have hp : putK ((k', w) :: vs) k' v = (k', v) :: (vs.map fun kv => if kv.1 = k' then (kv.1, v) else kv) := by
        unfold putK
        simp
      rw [hp]
      simp only [dPut, kD_eq, decide_true, if_true]
      exact .cons r0 rd (rks_rest k' rd r2 fun p hp z => nd'.1 (by rw [← z]; exact List.mem_map.mpr ⟨p, hp, rfl⟩))
    · have hp : putK ((k', w) :: vs) k v = (k', w) :: putK vs k v := by
        unfold putK
        by_cases ha : (vs.any fun kv => decide (kv.1 = k)) = true
        · simp [e, ha]
        · simp [e, ha]
      rw [hp]
      simp only [dPut, kD_eq, decide_eq_false e, Bool.false_eq_true, if_false]
      exact .cons r0 r1 (rks_put k hk rd r2 nd'.2)
/-- a tracked dict's keys stand once -/
theorem knd_of {pins : List (Addr × Obj)} {σ : L2.St} {H : Hp} {s : Shared} {a : Addr} {vs : List (Key × V)} (I : Inv X pins σ H s) (h : H a = some (.dK vs)) : KNd vs := by
  obtain ⟨_, _, us, rel, dd⟩ := dk_of I.hok h
  unfold KNd
  rw [rel.keys]
  obtain ⟨_, _, _, _, _, _, _, nd⟩ := dd
  first | exact nd | exact nd.1 | exact nd.2

theorem any_kD {k : Key} : ∀ {kvs : List (Key × V)}, ((kvs.map fun p => kD p.1).any fun z => keyEq z (kD k)) = (valV kvs k).isSome
  | [] => rfl
  | (k', v) :: kvs => by
    have ih := any_kD (k := k) (kvs := kvs)
    rw [List.map_cons, List.any_cons, ih, kD_eq]
    by_cases e : k' = k
    · subst e
      rw [valV_pos (by rfl)]
      simp
    · have e1 : valV ((k', v) :: kvs) k = valV kvs k := valV_neg (by exact e)
      rw [e1, decide_eq_false e] <;> rfl
theorem fdc_get {K : PySem.W.Frag} {m : Nat → Addr} {n : Nat} {H : Hp} {k : Key} {d : D} : ∀ {kvs : List (Key × V)} {ds : List D}, RDs K m n H ds (kvs.map (·.2)) → fGet (kvs.map fun p => kD p.1) ds (kD k) = some d → ∃ v, valV kvs k = some v ∧ RD K m n H d v
  | [], _, r, e => by simp [fGet] at e
  | (k', v) :: kvs, ds, r, e => by
    rw [List.map_cons] at r
    cases r with
    | cons r1 r2 =>
      rw [List.map_cons] at e
      unfold fGet at e
      rw [kD_eq] at e
      by_cases h : k' = k
      · subst h
        simp only [decide_true, if_true, Option.some.injEq] at e
        subst e
        exact ⟨v, valV_pos (by rfl), r1⟩
      · simp only [decide_eq_false h, Bool.false_eq_true, if_false] at e
        have e1 : valV ((k', v) :: kvs) k = valV kvs k := valV_neg (by exact h)
        rw [e1]
        exact fdc_get r2 e
/-! ### in -/
theorem or_in_gen (hu : X.A.units + 65 < cLine) {pins : List (Addr × Obj)} {st : Shared} {σ : L2.St} {H : Hp} {x y : V} {v u : Value} (I : Inv X pins σ H st) (rx : RelV x v) (ry : RelV y u) {m : Nat → Addr} {h : VH} {d e : D} {b : Bool}
    (s : Sim X.K g m h H) (r1 : RD X.K m h.length H d x) (r2 : RD X.K m h.length H e y) (ed : inD d e h = some b) {Q : VK} :
    (Q (.bl b) H → wpAny (model X.prog X.w) X.A (compareOp .In v u) (EP X pins σ Q) X.xe st) ∧ (Q (.bl (!b)) H → wpAny (model X.prog X.w) X.A (compareOp .NotIn v u) (EP X pins σ Q) X.xe st) := by
  have lst : ∀ (ys : List D) (a : Addr) (ws : List V), y = .ref a → SqL X.K H a ws → RDs X.K m h.length H ys ws → (match toP deep h d, allS (ys.map (toP deep h)) with | some a, some l => some (l.any fun z => PyData.eqv z a) | _, _ => none) = some b →
      (Q (.bl b) H → wpAny (model X.prog X.w) X.A (compareOp .In v u) (EP X pins σ Q) X.xe st) ∧ (Q (.bl (!b)) H → wpAny (model X.prog X.w) X.A (compareOp .NotIn v u) (EP X pins σ Q) X.xe st) := by
    intro ys a ws ey hs rs z
    subst ey
    split at z
    · rename_i p l h1 h2
      cases z
      obtain ⟨d1, sh1⟩ := dp_deep s r1 h1
      obtain ⟨d2, c2, k2⟩ := dps_deep s rs h2
      have sh2 : SeqAt.shaped (.list l) = true := by
        unfold SeqAt.shaped
        rw [Bool.and_eq_true]
        refine ⟨by simp only [PyData.canLay0]; exact c2, decide_eq_true ?_⟩
        simp only [PyData.depth]
        have : deep = 12 := rfl
        omega
      exact ⟨fun q => op_inD hu pins st σ H _ _ v u Q I rx ry ⟨p, l, d1, .lst hs d2, sh1, sh2, q⟩, fun q => op_notInD hu pins st σ H _ _ v u Q I rx ry ⟨p, l, d1, .lst hs d2, sh1, sh2, q⟩⟩
    · cases z
  have tup : ∀ (ys : List D) (a : Addr) (ws : List V), y = .ref a → SqT X.K H a ws → RDs X.K m h.length H ys ws → (match toP deep h d, allS (ys.map (toP deep h)) with | some a, some l => some (l.any fun z => PyData.eqv z a) | _, _ => none) = some b →
      (Q (.bl b) H → wpAny (model X.prog X.w) X.A (compareOp .In v u) (EP X pins σ Q) X.xe st) ∧ (Q (.bl (!b)) H → wpAny (model X.prog X.w) X.A (compareOp .NotIn v u) (EP X pins σ Q) X.xe st) := by
    intro ys a ws ey hs rs z
    subst ey
    split at z
    · rename_i p l h1 h2
      cases z
      obtain ⟨d1, sh1⟩ := dp_deep s r1 h1
      obtain ⟨d2, c2, k2⟩ := dps_deep s rs h2
      obtain ⟨as, q1⟩ := Dp.reads I p x v d1 rx
      obtain ⟨bs, q2⟩ := Dp.reads I (.tuple l) _ u (.tup hs d2) ry
      have room : X.A.units + 1 + min (PyData.depthAll l) p.depth < cLine := PyProof.Rows.room_in_shaped sh1 hu
      exact ⟨fun q => SeqAt.in_tuple_reads q2 q1 c2 (SeqAt.canLay_of_shaped sh1) room ⟨.bl _, H, I, rfl, q⟩, fun q => SeqAt.notIn_tuple_reads q2 q1 c2 (SeqAt.canLay_of_shaped sh1) room ⟨.bl _, H, I, rfl, q⟩⟩
    · cases z
  cases r2 with
  | str hb =>
    rename_i z
    cases r1 with
    | str ha =>
      rename_i w
      match w, ed with
      | [c], ed =>
        cases (show some (decide (c ∈ z)) = some b from ed)
        exact ⟨fun q => op_in_sign pins st σ H _ _ v u Q I rx ry ⟨c, _, rfl, rfl, q⟩, fun q => op_notIn_sign pins st σ H _ _ v u Q I rx ry ⟨c, _, rfl, rfl, q⟩⟩
      | [], ed => cases (show none = some b from ed)
      | _ :: _ :: _, ed => cases (show none = some b from ed)
    | _ => cases (show none = some b from ed)
  | tup h1 h2 =>
    refine tup _ _ _ rfl h1.sq h2 ?_
    cases r1 with
    | str ha =>
      rename_i w
      match w, ed with
      | [c], ed => exact ed
      | [], ed => exact ed
      | _ :: _ :: _, ed => exact ed
    | _ => exact ed
  | fls h1 h2 =>
    refine lst _ _ _ rfl h1.seq h2 ?_
    cases r1 with
    | str ha =>
      rename_i w
      match w, ed with
      | [c], ed => exact ed
      | [], ed => exact ed
      | _ :: _ :: _, ed => exact ed
    | _ => exact ed
  | fdc h1 h2 h3 h4 =>
    rename_i a ks ds o kvs
    have ed' : (if isKey d = true then some (ks.any fun k => keyEq k d) else none) = some b := by
      cases r1 with
      | str ha =>
        rename_i w
        match w, ed with
        | [c], ed => exact ed
        | [], ed => exact ed
        | _ :: _ :: _, ed => exact ed
      | _ => exact ed
    split at ed'
    · rename_i hkey
      obtain ⟨kk, rfl, rfl, hok⟩ := key_of r1 hkey
      rw [h2, any_kD] at ed'
      cases ed'
      have g0 : DGet H a (kV kk) (valV kvs kk) := .inl ⟨kvs, kk, .inr ⟨o, h1⟩, rfl, rfl⟩
      have hu1 : X.A.units + 1 < cLine := by omega
      cases (show u = Value.ref a from ry)
      exact ⟨fun q => d_in hu1 I g0 rx fun s' I' => ⟨.bl _, H, I', rfl, q⟩, fun q => d_notIn hu1 I g0 rx fun s' I' => ⟨.bl _, H, I', rfl, q⟩⟩
    · cases ed'
  | ref hk =>
    rename_i k
    have ed' : (match h[k]? with
        | some (.lst ys) => (match toP deep h d, allS (ys.map (toP deep h)) with | some a, some l => some (l.any fun z => PyData.eqv z a) | _, _ => none)
        | some (.dct kvs) => if isKey d = true then some (dGet kvs d).isSome else none
        | _ => none) = some b := by
      cases r1 with
      | str ha =>
        rename_i w
        match w, ed with
        | [c], ed => exact ed
        | [], ed => exact ed
        | _ :: _ :: _, ed => exact ed
      | _ => exact ed
    split at ed'
    · rename_i ys hy
      obtain ⟨_, ws, a1, b1⟩ := s.lst hy
      exact lst ys _ ws rfl (.of a1) b1 ed'
    · rename_i kvs hy
      obtain ⟨ws, a1, b1⟩ := s.obj k _ hy
      split at ed'
      · rename_i hkey
        cases ed'
        obtain ⟨kk, rfl, rfl, hok⟩ := key_of r1 hkey
        rw [rks_some kk b1]
        have g0 : DGet H (m k) (kV kk) (valV ws kk) := .k a1
        have hu1 : X.A.units + 1 < cLine := by omega
        cases (show u = Value.ref (m k) from ry)
        exact ⟨fun q => d_in hu1 I g0 rx fun s' I' => ⟨.bl _, H, I', rfl, q⟩, fun q => d_notIn hu1 I g0 rx fun s' I' => ⟨.bl _, H, I', rfl, q⟩⟩
      · cases ed'
    · cases ed'
  | non => cases r1 <;> first | cases (show none = some b from ed) | (rename_i w _; match w, ed with | [c], ed => cases (show none = some b from ed) | [], ed => cases (show none = some b from ed) | _ :: _ :: _, ed => cases (show none = some b from ed))
  | bl _ => cases r1 <;> first | cases (show none = some b from ed) | (rename_i w _; match w, ed with | [c], ed => cases (show none = some b from ed) | [], ed => cases (show none = some b from ed) | _ :: _ :: _, ed => cases (show none = some b from ed))
  | int _ => cases r1 <;> first | cases (show none = some b from ed) | (rename_i w _; match w, ed with | [c], ed => cases (show none = some b from ed) | [], ed => cases (show none = some b from ed) | _ :: _ :: _, ed => cases (show none = some b from ed))
  | ty _ => cases r1 <;> first | cases (show none = some b from ed) | (rename_i w _; match w, ed with | [c], ed => cases (show none = some b from ed) | [], ed => cases (show none = some b from ed) | _ :: _ :: _, ed => cases (show none = some b from ed))
  | adr _ => cases r1 <;> first | cases (show none = some b from ed) | (rename_i w _; match w, ed with | [c], ed => cases (show none = some b from ed) | [], ed => cases (show none = some b from ed) | _ :: _ :: _, ed => cases (show none = some b from ed))
theorem or_in (hu : X.A.units + 65 < cLine) : OpR X (compareOp .In) (rO2 X.K g cIn) := by
  rintro pins st σ H x y v u Q I rx ry ⟨m, h, d, e, s, r1, r2, q⟩
  unfold cIn at q
  split at q
  · rename_i b hb
    exact (or_in_gen hu I rx ry s r1 r2 hb).1 (q m H _ Ext.refl s (.bl b))
  · exact q.elim
theorem or_nin (hu : X.A.units + 65 < cLine) : OpR X (compareOp .NotIn) (rO2 X.K g cNin) := by
  rintro pins st σ H x y v u Q I rx ry ⟨m, h, d, e, s, r1, r2, q⟩
  unfold cNin at q
  split at q
  · rename_i b hb
    exact (or_in_gen hu I rx ry s r1 r2 hb).2 (q m H _ Ext.refl s (.bl _))
  · exact q.elim
end
end FL
set_option Elab.async false
set_option linter.all false
set_option maxRecDepth 100000
set_option maxHeartbeats 2000000
/-! FL5: subscripts, slices, built-in functions, methods. -/
namespace FL
open PySem PySem.Spec PyProof.Rows L2

section
variable {X : Cx} {g : Gc} {W : WX} {a b e : Expr} {es : List Expr} {fa fb : FE} {fl fh : FO} {r : FA} {pos p2 : Pos}
theorem atI_eq {α : Type} (xs : List α) (i : Int) : FL.atI xs i = L2.atI xs i := by
  unfold FL.atI L2.atI
  have e : FL.ixN xs.length i = L2.ixN xs.length i := rfl
  rw [e]
  cases L2.ixN xs.length i <;> rfl
theorem rds_at {K : PySem.W.Frag} {m : Nat → Addr} {n : Nat} {H : Hp} {xs : List D} {vs : List V} {i : Int} {d : D} (r : RDs K m n H xs vs) (h : FL.atI xs i = some d) : ∃ v, L2.atI vs i = some v ∧ RD K m n H d v := by
  rw [atI_eq] at h
  unfold L2.atI at h ⊢
  rw [← r.length]
  cases e : L2.ixN xs.length i with
  | none => rw [e] at h; cases h
  | some j =>
    rw [e] at h
    exact r.get h
def rIxD : R2 := fun x y H Q => ∃ a v, x = .ref a ∧ DGet H a y (some v) ∧ Q v H
theorem ix_dict (hu : X.A.units + 1 < cLine) : IxR X rIxD := by
  intro value slice pins s σ H x y v u Q I rx ry h hs
  obtain ⟨a, z, rfl, hg, q⟩ := h
  cases rx
  exact tail_any (dict_typeIs I hg) PySem.F.slot_dict_getitem.lookup (d_getItem hu I hg ry fun w' s3 I3 rw' => ⟨z, H, I3, rw', q⟩) hs
theorem ixr_weak {r r' : R2} (h : IxR X r) (hw : ∀ x y H Q, r' x y H Q → r x y H Q) : IxR X r' := fun value slice pins s σ H x y v u Q I rx ry q hs => h value slice pins s σ H x y v u Q I rx ry (hw _ _ _ _ q) hs
theorem or_ix (hu : X.A.units + 1 < cLine) : IxR X (rO2 X.K g oIx) := by
  refine ixr_weak (ix_seq.or (ix_dict hu)) ?_
  rintro x y H Q ⟨m, h, d, e, s, r1, r2, q⟩
  cases r1 with
  | str ha => cases r2 with
    | int i =>
      simp only [oIx] at q
      split at q
      · rename_i hz
        split at q
        · rename_i c hc
          refine .inl (.inr (.inr ⟨_, i, c, rfl, rfl, by rw [sizeLine_eq, str_len]; exact hz, ?_, ?_⟩))
          · rw [← atI_eq]; exact hc
          · have hm : okS [c] = true := okS.sub ha fun z hz => by
              have e : z = c := by simpa using hz
              subst e
              rw [atI_eq] at hc
              obtain ⟨j, _, h2, _⟩ := atI_get hc
              exact List.mem_of_getElem? h2
            exact q m H _ Ext.refl s (.str hm)
        · exact q.elim
      · exact q.elim
    | _ => exact q.elim
  | tup h1 h2 => cases r2 with
    | int i =>
      simp only [oIx] at q
      split at q
      · rename_i d hd
        obtain ⟨v, hv, rv⟩ := rds_at h2 hd
        exact .inl (.inr (.inl ⟨_, _, i, v, rfl, rfl, h1.sq, hv, q m H _ Ext.refl s rv⟩))
      · exact q.elim
    | _ => exact q.elim
  | fls h1 h2 => cases r2 with
    | int i =>
      simp only [oIx] at q
      split at q
      · rename_i d hd
        obtain ⟨v, hv, rv⟩ := rds_at h2 hd
        exact .inl (.inl ⟨_, _, i, v, rfl, rfl, h1.seq, hv, q m H _ Ext.refl s rv⟩)
      · exact q.elim
    | _ => exact q.elim
  | fdc h1 h2 h3 h4 =>
    rename_i a ks ds o kvs
    simp only [oIx] at q
    split at q
    · rename_i hkey
      split at q
      · rename_i d hd
        obtain ⟨kk, rfl, rfl, hok⟩ := key_of r2 hkey
        rw [h2] at hd
        obtain ⟨v, hv, rv⟩ := fdc_get h4 hd
        refine .inr ⟨_, v, rfl, ?_, q m H _ Ext.refl s rv⟩
        rw [← hv]
        exact .inl ⟨kvs, kk, .inr ⟨o, h1⟩, rfl, rfl⟩
      · exact q.elim
    · exact q.elim
  | ref hk =>
    rename_i k
    simp only [oIx] at q
    split at q
    · rename_i d hd
      cases hx : h[k]? with
      | none => rw [hx] at hd; cases hd
      | some o =>
        cases o with
        | lst xs =>
          obtain ⟨_, vs, a1, b1⟩ := s.lst hx
          rw [hx] at hd
          cases r2 with
          | int i =>
            obtain ⟨v, hv, rv⟩ := rds_at b1 hd
            exact .inl (.inl ⟨_, _, i, v, rfl, rfl, .of a1, hv, q m H _ Ext.refl s rv⟩)
          | _ => cases hd
        | dct kvs =>
          obtain ⟨ws, a1, b1⟩ := s.obj k _ hx
          rw [hx] at hd
          have fin : isKey e = true → dGet kvs e = some d → rIx X.K (.ref (m k)) y H Q ∨ rIxD (.ref (m k)) y H Q := by
            intro hkey hd
            obtain ⟨kk, rfl, rfl, hok⟩ := key_of r2 hkey
            obtain ⟨v, hv, rv⟩ := (rks_get kk b1).1 d hd
            refine .inr ⟨_, v, rfl, ?_, q m H _ Ext.refl s rv⟩
            rw [← hv]
            exact .k a1
          cases r2 with
          | int i => exact fin rfl hd
          | str i => exact fin rfl hd
          | _ => cases hd
        | ins c fs => rw [hx] at hd; cases r2 <;> cases hd
    · exact q.elim
  | _ => cases r2 <;> exact q.elim
theorem fe_ix (hu : X.A.units + 1 < cLine) (ha : PE X a (rd X.K g W fa)) (hb : PE X b (rd X.K g W fb)) (hs : PlainIx b := by exact fun _ _ => rfl) : PE X (.Subscript a b pos) (rd X.K g W (e2 oIx fa fb)) := pe_weak (pe_ix (or_ix hu) ha hb hs) rd_e2

/-! ### slices -/
theorem cut_rel {K : PySem.W.Frag} {m : Nat → Addr} {n : Nat} {H : Hp} {xs : List D} {vs : List V} (lo hi : Option Int) (r : RDs K m n H xs vs) : RDs K m n H (cut xs lo hi) (cutV vs lo hi) := by
  unfold cut cutV
  rw [r.length]
  exact (r.drop _).take _
theorem cut_whole {α : Type} {xs : List α} {lo hi : Option Int} (h : HT.sIx xs.length 0 lo = 0 ∧ HT.sIx xs.length xs.length hi = xs.length) : cut xs lo hi = xs := by
  unfold cut
  have e1 : FL.sIx xs.length 0 lo = 0 := h.1
  have e2 : FL.sIx xs.length xs.length hi = xs.length := h.2
  rw [e1, e2, List.drop_zero, Nat.sub_zero, List.take_length]
def rSlF (K : PySem.W.Frag) : V → Option Int → Option Int → Hp → VK → Prop := fun x lo hi H Q => ∃ a xs, x = .ref a ∧ SqT K H a xs ∧
  (HT.sIx xs.length 0 lo = 0 ∧ HT.sIx xs.length xs.length hi = xs.length → Q (.ref a) H) ∧ (¬ (HT.sIx xs.length 0 lo = 0 ∧ HT.sIx xs.length xs.length hi = xs.length) → ∀ p o, H p = none → o.dict = none → Q (.ref p) (upd H p (.frz o (.tup (cutV xs lo hi)))))
theorem sl_tupF : SlR X (rSlF X.K) := by
  intro pins s σ H x v vl vu lo hi sl Q I rx hs pl pu h
  obtain ⟨a, xs, rfl, hx, q1, q2⟩ := h
  cases rx
  obtain ⟨its, r, ht, hz⟩ := I.tuple hx
  have hlen : its.toArray.size = xs.length := by rw [List.size_toArray]; exact r.length.symm
  refine ⟨"tuple", _, PyProof.Rows.slot_tuple_getitem.lookup, ht.typeIs, ?_⟩
  by_cases hw : HT.sIx xs.length 0 lo = 0 ∧ HT.sIx xs.length xs.length hi = xs.length
  · exact getItem_tuple_whole ht hs pl pu (by rw [hlen]; exact hw) ⟨.ref a, H, I, rfl, q1 hw⟩
  · refine HT.getItem_tuple_cut ht hs pl pu (by rw [hlen]; exact hw) ?_ (by rw [hlen]; exact hz)
    rw [hlen]
    exact laid_tup I ((r.drop (HT.sIx xs.length 0 lo)).take (HT.sIx xs.length xs.length hi - HT.sIx xs.length 0 lo)) (Nat.le_trans (cutV_length xs lo hi) hz) (q2 hw)
def rSl (K : PySem.W.Frag) (g : Gc) : V → Option Int → Option Int → Hp → VK → Prop := fun v lo hi H Q => ∃ m h x, Sim K g m h H ∧ RD K m h.length H x v ∧ GoodO K g m h.length H Q (oSl x lo hi h)
theorem slr_weak {r r' : V → Option Int → Option Int → Hp → VK → Prop} (h : SlR X r) (hw : ∀ x lo hi H Q, r' x lo hi H Q → r x lo hi H Q) : SlR X r' := fun pins s σ H x v vl vu lo hi sl Q I rx hs pl pu q => h pins s σ H x v vl vu lo hi sl Q I rx hs pl pu (hw _ _ _ _ _ q)
theorem sr_all : SlR X (rSl X.K g) := by
  refine slr_weak (((slr_fz sl_list).or sl_tupF).or sl_str) ?_
  rintro v lo hi H Q ⟨m, h, d, s, r1, q⟩
  cases r1 with
  | str ha =>
    rename_i l
    simp only [oSl] at q
    split at q
    · rename_i hz
      refine .inr ⟨_, rfl, by rw [sizeLine_eq, str_len]; exact hz, ?_⟩
      have e : cutS ⟨l.toArray⟩ lo hi = ⟨(cut l lo hi).toArray⟩ := by
        unfold cutS cut
        rw [str_len] <;> rfl
      rw [e]
      refine q m H _ Ext.refl s (.str (okS.sub ha fun c hc => ?_))
      exact List.mem_of_mem_drop (List.mem_of_mem_take hc)
    · exact q.elim
  | tup h1 h2 =>
    refine .inl (.inr ⟨_, _, rfl, h1.sq, fun hw => ?_, fun _ p o hp ho => ?_⟩)
    · rw [← h2.length] at hw
      refine q m H _ Ext.refl s ?_
      rw [cut_whole hw]
      exact .tup h1 h2
    · obtain ⟨e2, s2⟩ := s.tup (o := .frz o (.tup (cutV _ lo hi))) hp
      exact q m _ _ e2 s2 (.tup (.of upd_same ho) (e2.rds (cut_rel lo hi h2)))
  | fls h1 h2 => exact .inl (.inl ⟨_, _, rfl, h1.seq, fun p hp => s.fls hp (cut_rel lo hi h2) q⟩)
  | ref hk =>
    rename_i kr
    simp only [oSl, lsOf] at q
    cases hx : h[kr]? with
    | none => simp only [hx] at q; exact q.elim
    | some ob =>
      cases ob with
      | lst xs =>
        simp only [hx] at q
        obtain ⟨_, vs, a1, b1⟩ := s.lst hx
        exact .inl (.inl ⟨_, _, rfl, .of a1, fun p hp => s.fls hp (cut_rel lo hi b1) q⟩)
      | _ => simp only [hx] at q; exact q.elim
  | _ => exact q.elim
/-- a slice's part -/
def ro (K : PySem.W.Frag) (g : Gc) (W : WX) (f : FO) : TO := fun σ H Q => ∃ δ m h, RS K m h.length H δ σ ∧ Sim K g m h H ∧ Gd K g (fun c d H' => W c d σ H') m h.length H (fun o _ _ H' => Q o H') (f δ h)
theorem fo_none : PO X none (ro X.K g W pNo) := po_weak po_none (by
  rintro σ H Q ⟨δ, m, h, r, s, q⟩
  exact q m H Ext.refl s)
theorem fo_some (ha : PE X a (rd X.K g W fa)) : PO X (some a) (ro X.K g W (pSo fa)) := po_weak (po_some ha) (by
  rintro σ H Q ⟨δ, m, h, r, s, q⟩
  refine ⟨δ, m, h, r, s, Gd.bind q fun x h1 m1 H1 e1 s1 q1 v r1 => ?_⟩
  cases r1 with
  | int i => exact ⟨i, rfl, q1 m1 H1 Ext.refl s1⟩
  | _ => exact q1.elim)
theorem fe_sl {lo hi : Option Expr} (ha : PE X a (rd X.K g W fa)) (hl : PO X lo (ro X.K g W fl)) (hh : PO X hi (ro X.K g W fh)) : PE X (.Subscript a (.Slice lo hi none p2) pos) (rd X.K g W (eSl fa fl fh)) := pe_weak (pe_slice sr_all ha hl hh) (by
  rintro σ H Q ⟨δ, m, h, r, s, q⟩
  refine ⟨δ, m, h, r, s, Gd.bind q fun x h1 m1 H1 e1 s1 q1 v r1 => ?_⟩
  refine ⟨δ, m1, h1, e1.rs r, s1, Gd.bind q1 fun l h2 m2 H2 e2 s2 q2 => ?_⟩
  refine ⟨δ, m2, h2, (e1.trans e2).rs r, s2, Gd.bind q2 fun u h3 m3 H3 e3 s3 q3 => ?_⟩
  exact ⟨m3, h3, x, s3, (e2.trans e3).rd r1, Gd.of q3⟩)

/-! ### built-in functions -/
theorem sim_seq {m : Nat → Addr} {h : VH} {H : Hp} {d : D} {v : V} {xs : List D} (s : Sim X.K g m h H) (r : RD X.K m h.length H d v) (e : seqOf d h = some xs) : ∃ p vs, v = .ref p ∧ (SqL X.K H p vs ∨ SqT X.K H p vs) ∧ RDs X.K m h.length H xs vs := by
  cases r with
  | tup h1 h2 => cases e; exact ⟨_, _, rfl, .inr h1.sq, h2⟩
  | fls h1 h2 => cases e; exact ⟨_, _, rfl, .inl h1.seq, h2⟩
  | ref hk =>
    simp only [seqOf] at e
    split at e
    · rename_i xs hx
      cases e
      obtain ⟨_, vs, a1, b1⟩ := s.lst hx
      exact ⟨_, vs, rfl, .inl (.of a1), b1⟩
    · cases e
  | _ => cases e
theorem rds1 {K : PySem.W.Frag} {m : Nat → Addr} {n : Nat} {H : Hp} {x : D} {vs : List V} (r : RDs K m n H [x] vs) : ∃ v, vs = [v] ∧ RD K m n H x v := by
  cases r with
  | cons r1 r2 => cases r2; exact ⟨_, rfl, r1⟩
theorem rds2 {K : PySem.W.Frag} {m : Nat → Addr} {n : Nat} {H : Hp} {x y : D} {vs : List V} (r : RDs K m n H [x, y] vs) : ∃ v w, vs = [v, w] ∧ RD K m n H x v ∧ RD K m n H y w := by
  cases r with
  | cons r1 r2 =>
    cases r2 with
    | cons r2 r3 => cases r3; exact ⟨_, _, rfl, r1, r2⟩
theorem cr_len : CallR X (.builtin "len") (rB X.K g bLen) := by
  have hd : CallR X (.builtin "len") (fun xs H Q => ∃ a kvs, xs = [V.ref a] ∧ Rd H a (.dK kvs) ∧ Q (.int (kvs.length : Nat)) H) := by
    intro pins s σ H xs us Q I r h
    obtain ⟨a, kvs, rfl, ha, q⟩ := h
    rw [Vals.ref1 r]
    exact d_len I ha fun t s' I' => ⟨.int (kvs.length : Nat), H, I', ⟨t, rfl⟩, q⟩
  refine callr_weak (call_len.or hd) ?_
  rintro vs H Q ⟨m, h, xs, s, rs, q⟩
  unfold bLen at q
  split at q
  · obtain ⟨v, rfl, r1⟩ := rds1 rs
    split at q
    · rename_i l hz
      cases r1 with
      | str ha => exact .inl ⟨_, l.length, rfl, ⟨by rw [sizeLine_eq, str_len]; exact hz, (str_len l).symm⟩, q m H _ Ext.refl s (.int _)⟩
    · exact q.elim
  · obtain ⟨v, rfl, r1⟩ := rds1 rs
    cases r1 with
    | tup h1 h2 => exact .inl ⟨_, _, rfl, .inr ⟨_, h1.sq, h2.length⟩, q m H _ Ext.refl s (.int _)⟩
  · obtain ⟨v, rfl, r1⟩ := rds1 rs
    cases r1 with
    | fls h1 h2 => exact .inl ⟨_, _, rfl, .inl ⟨_, h1.seq, h2.length⟩, q m H _ Ext.refl s (.int _)⟩
  · obtain ⟨v, rfl, r1⟩ := rds1 rs
    cases r1 with
    | fdc h1 h2 h3 h4 =>
      rename_i a ds o kvs
      subst h2
      refine .inr ⟨_, kvs, rfl, .inr ⟨o, h1⟩, ?_⟩
      have q' := q m H _ Ext.refl s (.int _)
      rw [List.length_map] at q'
      exact q'
  · obtain ⟨v, rfl, r1⟩ := rds1 rs
    cases r1 with
    | ref hk =>
      split at q
      · rename_i xs hx
        obtain ⟨_, ws, a1, b1⟩ := s.lst hx
        exact .inl ⟨_, _, rfl, .inl ⟨ws, .of a1, b1.length⟩, q m H _ Ext.refl s (.int _)⟩
      · rename_i xs hx
        obtain ⟨ws, a1, b1⟩ := s.obj _ _ hx
        refine .inr ⟨_, ws, rfl, .inl a1, ?_⟩
        rw [← rks_len b1]
        exact q m H _ Ext.refl s (.int _)
      · exact q.elim
  · exact q.elim
theorem cr_abs : CallR X (.builtin "abs") (rB X.K g bAbs) := callr_weak call_abs (by
  rintro vs H Q ⟨m, h, xs, s, rs, q⟩
  unfold bAbs at q
  split at q
  · obtain ⟨v, rfl, r1⟩ := rds1 rs
    cases r1
    exact ⟨_, rfl, q m H _ Ext.refl s (.int _)⟩
  · exact q.elim)
theorem cr_max2 (hc : X.calm = true) : CallR X (.builtin "max") (rB X.K g bMax2) := callr_weak (call_max2 hc) (by
  rintro vs H Q ⟨m, h, xs, s, rs, q⟩
  unfold bMax2 at q
  split at q
  · obtain ⟨v, w, rfl, r1, r2⟩ := rds2 rs
    cases r1
    cases r2
    exact ⟨_, _, rfl, q m H _ Ext.refl s (.int _)⟩
  · exact q.elim)
theorem cr_min2 (hc : X.calm = true) : CallR X (.builtin "min") (rB X.K g bMin2) := callr_weak (call_min2 hc) (by
  rintro vs H Q ⟨m, h, xs, s, rs, q⟩
  unfold bMin2 at q
  split at q
  · obtain ⟨v, w, rfl, r1, r2⟩ := rds2 rs
    cases r1
    cases r2
    exact ⟨_, _, rfl, q m H _ Ext.refl s (.int _)⟩
  · exact q.elim)
theorem cr_int : CallR X (.type "int") (rB X.K g bInt) := callr_weak call_int1 (by
  rintro vs H Q ⟨m, h, xs, s, rs, q⟩
  unfold bInt at q
  split at q
  · obtain ⟨v, rfl, r1⟩ := rds1 rs
    cases r1
    exact .inl ⟨_, rfl, q m H _ Ext.refl s (.int _)⟩
  · obtain ⟨v, rfl, r1⟩ := rds1 rs
    cases r1
    exact .inr ⟨_, rfl, q m H _ Ext.refl s (.int _)⟩
  · exact q.elim)
theorem rks_keys {K : PySem.W.Frag} {m : Nat → Addr} {n : Nat} {H : Hp} : ∀ {kvs : List (D × D)} {vs : List (Key × V)}, RKs K m n H kvs vs → RDs K m n H (kvs.map (·.1)) (vs.map fun kv => kV kv.1)
  | _, _, .nil => .nil
  | _, _, .cons (k := k) r0 r1 r2 => by
    refine .cons ?_ (rks_keys r2)
    cases k with
    | inl i => exact .int i
    | inr x =>
      show RD K m n H (.str x.cps.toList) (.str x)
      have : x = ⟨x.cps.toList.toArray⟩ := by cases x; rfl
      conv => rhs; rw [this]
      exact .str r0
theorem call_tupF : CallR X (.type "tuple") (fun xs H Q => ∃ p ys, xs = [.ref p] ∧ ((SqL X.K H p ys ∧ ∀ l o, H l = none → o.dict = none → Q (.ref l) (upd H l (.frz o (.tup ys)))) ∨ (SqT X.K H p ys ∧ Q (.ref p) H))) := by
  intro pins s σ H xs us Q I r h
  obtain ⟨p, ys, rfl, h⟩ := h
  obtain ⟨u, rfl, rx⟩ := vals1 r
  cases rx
  rcases h with ⟨hq, q⟩ | ⟨hq, q⟩
  · obtain ⟨its, r', pl, hz⟩ := I.list hq
    have hlen := r'.length
    have hsl := sizeLine_eq
    refine call_tuple_list pl.isList (fun h' kp => ?_) (by simp only [List.size_toArray] <;> omega)
    exact laid_tup (s := { s with heap := h' }) (I.kept (t' := s.toks) kp) r' hz q
  · obtain ⟨its, r', pl, hz⟩ := I.tuple hq
    exact call_tuple_same pl ⟨.ref p, H, I, rfl, q⟩
theorem cr_tup : CallR X (.type "tuple") (rB X.K g bTup) := callr_weak call_tupF (by
  rintro vs H Q ⟨m, h, xs, s, rs, q⟩
  unfold bTup at q
  split at q
  · obtain ⟨v, rfl, r1⟩ := rds1 rs
    rename_i d
    cases r1 with
    | tup h1 h2 =>
      refine ⟨_, _, rfl, .inr ⟨h1.sq, q m H _ Ext.refl s (.tup h1 h2)⟩⟩
    | fls h1 h2 =>
      refine ⟨_, _, rfl, .inl ⟨h1.seq, fun l o hl ho => ?_⟩⟩
      obtain ⟨e2, s2⟩ := s.tup (o := .frz o (.tup _)) hl
      exact q m _ _ e2 s2 (.tup (.of upd_same ho) (e2.rds h2))
    | ref hk =>
      rename_i k
      simp only [seqOf] at q
      cases hx : h[k]? with
      | none => rw [hx] at q; exact q.elim
      | some o =>
        cases o with
        | lst ys =>
          rw [hx] at q
          obtain ⟨_, ws, a1, b1⟩ := s.lst hx
          refine ⟨_, _, rfl, .inl ⟨.of a1, fun l o hl ho => ?_⟩⟩
          obtain ⟨e2, s2⟩ := s.tup (o := .frz o (.tup ws)) hl
          exact q m _ _ e2 s2 (.tup (.of upd_same ho) (e2.rds b1))
        | _ => rw [hx] at q; exact q.elim
    | _ => exact q.elim
  · exact q.elim)
theorem allI_rel {K : PySem.W.Frag} {m : Nat → Addr} {n : Nat} {H : Hp} : ∀ {xs : List D} {vs : List V} {l : List Int}, RDs K m n H xs vs → allI xs = some l → vs = l.map V.int
  | [], _, l, r, e => by
    cases r
    simp only [allI, Option.some.injEq] at e
    subst e
    rfl
  | x :: xs, _, l, r, e => by
    cases r with
    | cons r1 r2 =>
      cases r1 with
      | int i =>
        simp only [allI] at e
        split at e
        · rename_i l' hl
          cases e
          rw [allI_rel r2 hl]
          rfl
        · cases e
      | _ => simp [allI] at e
theorem allT_rel {K : PySem.W.Frag} {m : Nat → Addr} {n : Nat} {H : Hp} : ∀ {xs : List D} {vs : List V} {l : List (List Nat)}, RDs K m n H xs vs → allT xs = some l → vs = (l.map fun c => (⟨c.toArray⟩ : Str)).map V.str ∧ ∀ c ∈ l, okS c = true
  | [], _, l, r, e => by
    cases r
    simp only [allT, Option.some.injEq] at e
    subst e
    exact ⟨rfl, by simp⟩
  | x :: xs, _, l, r, e => by
    cases r with
    | cons r1 r2 =>
      cases r1 with
      | str hi =>
        simp only [allT] at e
        split at e
        · rename_i l' hl
          cases e
          obtain ⟨h1, h2⟩ := allT_rel r2 hl
          refine ⟨by rw [h1]; rfl, fun c hc => ?_⟩
          rcases List.mem_cons.mp hc with e | e
          · rw [e]; exact hi
          · exact h2 c e
        · cases e
      | _ => simp [allT] at e
theorem cr_sumF (hc : X.calm = true) : CallR X (.builtin "sum") (rB X.K g bSum) := callr_weak (cr_sum hc) (by
  rintro vs H Q ⟨m, h, xs, s, rs, q⟩
  unfold bSum at q
  split at q
  · obtain ⟨v, rfl, r1⟩ := rds1 rs
    split at q
    · rename_i xs hx
      obtain ⟨a, ws, rfl, a1, b1⟩ := ls_of s r1 hx
      split at q
      · rename_i l hl
        have e := allI_rel b1 hl
        subst e
        exact ⟨_, l, rfl, a1, q m H _ Ext.refl s (.int _)⟩
      · exact q.elim
    · exact q.elim
  · exact q.elim)
theorem leastI_of : ∀ (l : List Int) (k : Int), k ∈ l → (∀ y ∈ l, k ≤ y) → leastI l = k
  | [], k, h, _ => by simp at h
  | [a], k, h, _ => by simp at h; subst h; rfl
  | a :: b :: r, k, h, hk => by
    show (let z := leastI (b :: r); if z < a then z else a) = k
    have hm : ∀ l : List Int, l ≠ [] → leastI l ∈ l ∧ ∀ y ∈ l, leastI l ≤ y := by
      intro l
      induction l with
      | nil => intro h; exact absurd rfl h
      | cons x l ih =>
        intro _
        cases l with
        | nil => exact ⟨by simp [leastI], by simp [leastI]⟩
        | cons y l =>
          obtain ⟨i1, i2⟩ := ih (by simp)
          have e : leastI (x :: y :: l) = if leastI (y :: l) < x then leastI (y :: l) else x := rfl
          rw [e]
          split
          · rename_i hlt
            refine ⟨List.mem_cons_of_mem _ i1, fun z hz => ?_⟩
            rcases List.mem_cons.mp hz with e | e
            · omega
            · exact i2 z e
          · rename_i hlt
            refine ⟨List.mem_cons_self, fun z hz => ?_⟩
            rcases List.mem_cons.mp hz with e | e
            · omega
            · have := i2 z e
              omega
    obtain ⟨m1, m2⟩ := hm (a :: b :: r) (by simp)
    have e : (let z := leastI (b :: r); if z < a then z else a) = leastI (a :: b :: r) := rfl
    rw [e]
    have h1 := m2 k h
    have h2 := hk _ m1
    omega
theorem greatI_of : ∀ (l : List Int) (k : Int), k ∈ l → (∀ y ∈ l, y ≤ k) → greatI l = k
  | [], k, h, _ => by simp at h
  | [a], k, h, _ => by simp at h; subst h; rfl
  | a :: b :: r, k, h, hk => by
    have hm : ∀ l : List Int, l ≠ [] → greatI l ∈ l ∧ ∀ y ∈ l, y ≤ greatI l := by
      intro l
      induction l with
      | nil => intro h; exact absurd rfl h
      | cons x l ih =>
        intro _
        cases l with
        | nil => exact ⟨by simp [greatI], by simp [greatI]⟩
        | cons y l =>
          obtain ⟨i1, i2⟩ := ih (by simp)
          have e : greatI (x :: y :: l) = if x < greatI (y :: l) then greatI (y :: l) else x := rfl
          rw [e]
          split
          · rename_i hlt
            refine ⟨List.mem_cons_of_mem _ i1, fun z hz => ?_⟩
            rcases List.mem_cons.mp hz with e | e
            · omega
            · exact i2 z e
          · rename_i hlt
            refine ⟨List.mem_cons_self, fun z hz => ?_⟩
            rcases List.mem_cons.mp hz with e | e
            · omega
            · have := i2 z e
              omega
    obtain ⟨m1, m2⟩ := hm (a :: b :: r) (by simp)
    have h1 := m2 k h
    have h2 := hk _ m1
    omega
theorem cr_minF (hc : X.calm = true) : CallR X (.builtin "min") (rB X.K g bMin) := callr_weak (cr_min hc) (by
  rintro vs H Q ⟨m, h, xs, s, rs, q⟩
  unfold bMin at q
  split at q
  · obtain ⟨v, rfl, r1⟩ := rds1 rs
    split at q
    · rename_i xs hx
      obtain ⟨a, ws, rfl, a1, b1⟩ := ls_of s r1 hx
      split at q
      · rename_i l hl
        have e := allI_rel b1 hl
        subst e
        split at q
        · exact q.elim
        · rename_i hne
          refine ⟨_, l, rfl, a1, by cases l <;> simp_all, fun k hk hle => ?_⟩
          have e := leastI_of l k hk hle
          have q' := q m H _ Ext.refl s (.int _)
          rw [e] at q'
          exact q'
      · exact q.elim
    · exact q.elim
  · exact q.elim)
theorem cr_maxF (hc : X.calm = true) : CallR X (.builtin "max") (rB X.K g bMax) := callr_weak (cr_max hc) (by
  rintro vs H Q ⟨m, h, xs, s, rs, q⟩
  unfold bMax at q
  split at q
  · obtain ⟨v, rfl, r1⟩ := rds1 rs
    split at q
    · rename_i xs hx
      obtain ⟨a, ws, rfl, a1, b1⟩ := ls_of s r1 hx
      split at q
      · rename_i l hl
        have e := allI_rel b1 hl
        subst e
        split at q
        · exact q.elim
        · rename_i hne
          refine ⟨_, l, rfl, a1, by cases l <;> simp_all, fun k hk hle => ?_⟩
          have e := greatI_of l k hk hle
          have q' := q m H _ Ext.refl s (.int _)
          rw [e] at q'
          exact q'
      · exact q.elim
    · exact q.elim
  · exact q.elim)
end
end FL
set_option Elab.async false
set_option linter.all false
set_option maxRecDepth 100000
set_option maxHeartbeats 2000000
/-! FL6: methods of built-in types. -/
namespace FL
open PySem PySem.Spec PyProof.Rows L2

section
variable {X : Cx} {g : Gc} {W : WX} {a b e : Expr} {es : List Expr} {fa fb : FE} {r : FA} {pos p2 : Pos}
/-- the layer's test of a type tells the machine's -/
def TyOk (X : Cx) (g : Gc) (T : String) (ty : D → VH → Bool) : Prop := ∀ (pins : List (Addr × Obj)) (s : Shared) (σ : L2.St) (H : Hp) (m : Nat → Addr) (h : VH) (x : D) (v : V) (u : Value), Inv X pins σ H s → Sim X.K g m h H → RD X.K m h.length H x v → ty x h = true → RelV v u →
  s.TypeIs u T ∧ ∀ a, u = .ref a → ∃ ob, s.heap.get? a = some ob ∧ ob.dict = none
theorem ty_str : TyOk X g "str" isS := by
  intro pins s σ H m h x v u I S r e rv
  cases r with
  | str hl =>
    obtain ⟨t, rfl⟩ := rv
    exact ⟨typeIs_str s _ t, fun _ e => nomatch e⟩
  | _ => cases e
theorem ty_list : TyOk X g "list" isL := by
  intro pins s σ H m h x v u I S r e rv
  cases r with
  | ref hk =>
    rename_i k
    simp only [isL] at e
    split at e
    · rename_i xs hx
      obtain ⟨_, vs, a1, b1⟩ := S.lst hx
      exact tyV_is I rv (.inl ⟨rfl, vs, .of a1⟩)
    · cases e
  | _ => cases e
theorem ty_lists : TyOk X g "list" isLs := by
  intro pins s σ H m h x v u I S r e rv
  unfold isLs at e
  cases el : lsOf x h with
  | none => rw [el] at e; cases e
  | some xs =>
    obtain ⟨a, vs, rfl, a1, b1⟩ := ls_of S r el
    exact tyV_is I rv (.inl ⟨rfl, vs, a1⟩)
theorem ty_tup : TyOk X g "tuple" isT := by
  intro pins s σ H m h x v u I S r e rv
  cases r with
  | tup h1 h2 =>
    cases rv
    rcases h1 with ⟨o, ho, hd⟩ | ⟨o, its, n, ho, hc, hd, _⟩
    · obtain ⟨h3, h4⟩ := I.hok _ _ ho
      obtain ⟨_, its, _, o', e1, e2, _⟩ := h4
      refine ⟨⟨o', e1, e2⟩, fun b e => ?_⟩
      cases e
      exact ⟨o, h3, hd⟩
    · have h3 := I.kIn _ o ho
      refine ⟨⟨o, h3, hc⟩, fun b e => ?_⟩
      cases e
      exact ⟨o, h3, hd⟩
  | _ => cases e
/-- o.m(e, ..) -/
theorem fe_M {T id : String} {name : Str} {ty : D → VH → Bool} {o : D → List D → VH → Option (D × VH)} {apos cpos : Pos} (pa : PlainAttrs T) (slot : Slot T name id) (hty : typeOf (.builtin id) = pure (.type "method_descriptor")) (hm : MtR X id (rM X.K g o)) (hT : TyOk X g T ty) (ho : PE X a (rd X.K g W fa))
    (ha : PA X (e :: es) (FL.ra X.K g W r)) (hbase : attributeBase a name X.env (eval a X.env) = eval a X.env := by rfl)
    (hfew : ((backTo cpos (starEach (e :: es) X.env)).all (fun x => !x.1) && (backToKw cpos (keywordEach [] X.env)).all (fun x => x.1.isSome)
      && decide ((e :: es).length + ([] : List Keyword).length + (if ([] : List Keyword).isEmpty then 0 else 1) < 30)) = true := by rfl)
    (hline : (apos.endLine == cpos.line) = true := by rfl) (hs : starEach (e :: es) X.env = (false, eval e X.env) :: starEach es X.env := by rfl) (hplain : (backTo cpos (starEach es X.env)).any (·.1) = false := by rfl) :
    PE X (.Call (.Attribute a name apos) (e :: es) [] cpos) (rd X.K g W (eM ty o fa r)) := by
  refine ⟨fun pins s σ H Q I h => ?_⟩
  obtain ⟨δ, m, vh, rs, sm, q⟩ := h
  have h1 : rd X.K g W fa σ H (fun v H1 => ∃ m1 vh1 x, RS X.K m1 vh1.length H1 δ σ ∧ Sim X.K g m1 vh1 H1 ∧ RD X.K m1 vh1.length H1 x v ∧ ty x vh1 = true ∧ GoodE X.K g (fun c d H' => W c d σ H') m1 vh1.length H1 Q ((r δ vh1).bind fun xs h => Out.of (o x xs h))) :=
    ⟨δ, m, vh, rs, sm, Gd.bind q fun x h1 m1 H1 e1 s1 q1 v r1 => by
      by_cases hx : ty x h1 = true
      · simp only [hx, if_true] at q1
        exact ⟨m1, h1, x, e1.rs rs, s1, r1, hx, q1⟩
      · simp only [hx, if_false] at q1
        exact q1.elim⟩
  refine wpAny_Call_method_late hbase hfew hline rfl (thn (ho.run pins s σ H _ I h1) fun v s1 ⟨x, H1, I1, r1, m1, vh1, d, rs1, sm1, rd1, hx, q1⟩ => ?_)
  obtain ⟨t1, t2⟩ := hT pins s1 σ H1 m1 vh1 d x v I1 sm1 rd1 hx r1
  refine ⟨T, id, pa, slot, hty, t1, t2, ?_⟩
  have h2 : FL.ra X.K g W r σ H1 (fun vs H2 => rM X.K g o x vs H2 Q) := ⟨δ, m1, vh1, rs1, sm1, Gd.bind q1 fun xs h2 m2 H2 e2 s2 q2 vs r2 => ⟨m2, h2, d, xs, s2, e2.rd rd1, r2, Gd.of q2⟩⟩
  have hA := ha.run cpos pins s1 σ H1 _ I1 h2
  rw [hs] at hA ⊢
  refine Calls.callWith_builtin (by show (false || (backTo cpos (starEach es X.env)).any (·.1)) = false; rw [hplain] <;> rfl) (Calls.evalArgs_plain ?_)
  exact thn hA fun us s2 ⟨vs, H2, I2, r2, q2⟩ => hm pins s2 σ H2 x vs v us Q I2 r1 r2 q2
/-- o.m() -/
theorem fe_M0 {T id : String} {name : Str} {ty : D → VH → Bool} {o : D → List D → VH → Option (D × VH)} {apos cpos : Pos} (pa : PlainAttrs T) (slot : Slot T name id) (hty : typeOf (.builtin id) = pure (.type "method_descriptor")) (hm : MtR X id (rM X.K g o)) (hT : TyOk X g T ty) (ho : PE X a (rd X.K g W fa))
    (hbase : attributeBase a name X.env (eval a X.env) = eval a X.env := by rfl) (hline : (apos.endLine == cpos.line) = true := by rfl) :
    PE X (.Call (.Attribute a name apos) [] [] cpos) (rd X.K g W (eM ty o fa aNil)) := by
  refine ⟨fun pins s σ H Q I h => ?_⟩
  obtain ⟨δ, m, vh, rs, sm, q⟩ := h
  have h1 : rd X.K g W fa σ H (fun v H1 => ∃ m1 vh1 x, Sim X.K g m1 vh1 H1 ∧ RD X.K m1 vh1.length H1 x v ∧ ty x vh1 = true ∧ GoodO X.K g m1 vh1.length H1 Q (o x [] vh1)) :=
    ⟨δ, m, vh, rs, sm, Gd.bind q fun x h1 m1 H1 e1 s1 q1 v r1 => by
      by_cases hx : ty x h1 = true
      · simp only [hx, if_true] at q1
        exact ⟨m1, h1, x, s1, r1, hx, Gd.of q1⟩
      · simp only [hx, if_false] at q1
        exact q1.elim⟩
  refine wpAny_Call_method0_late hbase hline (thn (ho.run pins s σ H _ I h1) fun v s1 ⟨x, H1, I1, r1, m1, vh1, d, sm1, rd1, hx, q1⟩ => ?_)
  obtain ⟨t1, t2⟩ := hT pins s1 σ H1 m1 vh1 d x v I1 sm1 rd1 hx r1
  exact ⟨T, id, pa, slot, hty, t1, t2, Calls.callWith_builtin rfl (PySem.evalArgs_none (hm pins s1 σ H1 x [] v [] Q I1 r1 .nil ⟨m1, vh1, d, [], sm1, rd1, .nil, q1⟩))⟩

/-! ### lists -/
theorem mr_append : MtR X "list.append" (rM X.K g mAppend) := mtr_weak (X := X) (id := "list.append") (show MtR X "list.append" rAppend from mt_append) (by
  rintro v vs H Q ⟨m, h, d, xs, s, r1, rs, q⟩
  unfold mAppend at q
  split at q
  · rename_i k y
    obtain ⟨w, rfl, rw'⟩ := rds1 rs
    cases r1 with
    | ref hk =>
      split at q
      · rename_i xs hx
        split at q
        · rename_i hz
          obtain ⟨_, ws, a1, b1⟩ := s.lst hx
          obtain ⟨e2, s2⟩ := s.write_lst hx (b1.append (.cons rw' .nil))
          exact ⟨_, ws, w, rfl, rfl, a1, by rw [sizeLine_eq, ← b1.length]; exact hz, q m _ _ e2 s2 .non⟩
        · exact q.elim
      · exact q.elim
  · exact q.elim)
section
open Builtin PySem.AutoSeq1
theorem ext_any (l : Addr) (xs : Array Value) (n : Nat) (b : Addr) (ys : Array Value) (n2 : Nat) (dd : Option Addr) (sl : Array (Option Value)) (h0 : ¬(!xs.isEmpty && Builtin.List.listTooLong (xs.size + ys.size)) = true) (h1 : xs.size ≤ sizeLine) (h2 : xs.size + ys.size ≤ sizeLine + 1) :
    Meets (Builtin.«list.extend» ⟨[.ref l, .ref b], []⟩) (fun _ R s => s.heap.get? l = some { cls := .type "list", dict := none, data := .seq xs n, slots := #[] } ∧ s.heap.get? b = some { cls := .type "list", dict := dd, data := .seq ys n2, slots := sl } ∧
      R (.ok (.ret Value.none)) { s with heap := s.heap.update l (Obj.mapSeq fun x => x ++ ys), toks := s.toks }) :=
  .of_wp fun prog w A R s h => by
    obtain ⟨hp, g, d, tk, os⟩ := s
    obtain ⟨hl, hb, h⟩ := h
    have f1 := PySem.AutoSeq1.idx_int
    have f3 := PySem.AutoSeq1.sub_list_list
    have f4 := PySem.AutoSeq1.sub_tuple_list
    have hz : (xs ++ ys).size ≤ sizeLine + 1 := by rw [Array.size_append]; exact h2
    wp_walk using (wpAny_updateSeq hl rfl (hz := h1) (_hz' := hz)), wpAny_loadPart' hl, wpAny_loadPart' hb
    exact ⟨_, rfl, h⟩
end
/-- xs.extend(ys), ys read -/
def rExtendL (K : PySem.W.Frag) : V → List V → Hp → VK → Prop := fun x vs H Q => ∃ l b xs zs, x = .ref l ∧ vs = [.ref b] ∧ H l = some (.lst xs) ∧ SqL K H b zs ∧ xs.length + zs.length ≤ sizeLine ∧ Q .non (upd H l (.lst (xs ++ zs)))
theorem mt_extendL : MtM X "list.extend" (rExtendL X.K) := by
  intro pins s σ H x vs v us Q I rx rv h
  obtain ⟨l, b, xs, zs, rfl, rfl, hH, hB, hz, q⟩ := h
  cases rx
  obtain ⟨u, rfl, ru⟩ := rv.one
  cases ru
  obtain ⟨z, its, n, r, hl, e⟩ := I.lstM hH
  obtain ⟨its2, r2, p2, z2⟩ := I.list hB
  obtain ⟨⟨cls2, dd2, data2, sl2⟩, e2, hc2, n2, hd2⟩ := p2.isList
  simp only at hc2 hd2
  subst hc2 hd2
  have hl2 := r2.length
  have hsz : its.toArray.size + its2.toArray.size ≤ sizeLine := by rw [List.size_toArray, List.size_toArray]; omega
  have hlong : ¬ (!its.toArray.isEmpty && Builtin.List.listTooLong (its.toArray.size + its2.toArray.size)) = true := by
    rw [notLongL hsz, Bool.and_false]
    exact Bool.false_ne_true
  refine call_meets PySem.F.slot_list_extend ⟨_, e, rfl⟩ PySem.F.entry_list_extend (PySem.F.args_list_extend_2 _ _) (ext_any l its.toArray n b its2.toArray n2 dd2 sl2 hlong (by rw [List.size_toArray]; omega) (by omega)) ⟨e, e2, ?_⟩
  refine ⟨.non, _, I.lset (its' := its ++ its2) hH e (by simp) (r.append r2) ?_, rfl, q⟩
  rw [List.length_append]
  omega
theorem mr_extend : MtR X "list.extend" (rM X.K g mExtend) := mtr_weak (X := X) (id := "list.extend") (show MtR X "list.extend" (rExtendL X.K) from mt_extendL) (by
  rintro v vs H Q ⟨m, h, d, xs, s, r1, rs, q⟩
  unfold mExtend at q
  split at q
  · rename_i k y
    obtain ⟨w, rfl, rw'⟩ := rds1 rs
    cases r1 with
    | ref hk =>
      split at q
      · rename_i xs ys hx hy
        split at q
        · rename_i hz
          obtain ⟨_, ws, a1, b1⟩ := s.lst hx
          obtain ⟨b, zs, rfl, a2, b2⟩ := ls_of s rw' hy
          obtain ⟨e2, s2⟩ := s.write_lst hx (b1.append b2)
          exact ⟨_, _, ws, zs, rfl, rfl, a1, a2, by rw [sizeLine_eq, ← b1.length, ← b2.length]; exact hz, q m _ _ e2 s2 .non⟩
        · exact q.elim
      · exact q.elim
  · exact q.elim)
theorem mtm_or {id : String} {r r' : V → List V → Hp → VK → Prop} (h : MtR X id r) (h' : MtR X id r') : MtR X id (fun x xs H Q => r x xs H Q ∨ r' x xs H Q) := MtR.or h h'
theorem rds_lastE {K : PySem.W.Frag} {m : Nat → Addr} {n : Nat} {H : Hp} {xs : List D} {vs : List V} {y : D} (r : RDs K m n H xs vs) (h : xs[xs.length - 1]? = some y) : ∃ v, vs[vs.length - 1]? = some v ∧ RD K m n H y v := by
  rw [← r.length]
  exact r.get h
theorem mr_pop : MtR X "list.pop" (rM X.K g mPop) := mtr_weak (X := X) (id := "list.pop") (mtm_or (show MtR X "list.pop" rPop from mt_pop) (show MtR X "list.pop" rPopAt from mt_popAt)) (by
  rintro v vs H Q ⟨m, h, d, xs, s, r1, rs, q⟩
  unfold mPop at q
  split at q
  · rename_i k
    cases rs
    cases r1 with
    | ref hk =>
      split at q
      · rename_i xs hx
        obtain ⟨_, ws, a1, b1⟩ := s.lst hx
        split at q
        · rename_i y hy
          obtain ⟨w, hw, rw'⟩ := rds_lastE b1 hy
          obtain ⟨e2, s2⟩ := s.write_lst hx b1.dropLast
          exact .inl ⟨_, ws, w, rfl, rfl, a1, hw, q m _ _ e2 s2 (e2.rd rw')⟩
        · exact q.elim
      · exact q.elim
  · rename_i k i
    obtain ⟨w, rfl, rw'⟩ := rds1 rs
    cases rw'
    cases r1 with
    | ref hk =>
      split at q
      · rename_i xs hx
        obtain ⟨_, ws, a1, b1⟩ := s.lst hx
        split at q
        · rename_i hz
          split at q
          · rename_i y hy
            obtain ⟨w, hw, rw'⟩ := b1.get hy
            obtain ⟨e2, s2⟩ := s.write_lst hx (b1.erase i.toNat)
            have hlt : i.toNat < ws.length := (List.getElem?_eq_some_iff.mp hw).1
            exact .inr ⟨_, ws, i, i.toNat, w, rfl, rfl, a1, by omega, by omega, seqIndex_of hz.1 (by omega), hw, q m _ _ e2 s2 (e2.rd rw')⟩
          · exact q.elim
        · exact q.elim
      · exact q.elim
  · exact q.elim)
theorem findE_some {l : List PyData} {a : PyData} {j : Nat} (e : findE l a = some j) : ∃ z, l[j]? = some z ∧ PyData.eqv z a = true ∧ ∀ (k : Nat) (z' : PyData), k < j → l[k]? = some z' → PyData.eqv z' a = false := by
  unfold findE at e
  obtain ⟨hj, h1, h2⟩ := List.findIdx?_eq_some_iff_getElem.mp e
  refine ⟨l[j], by simp [hj], h1, fun k z' hk hz => ?_⟩
  have := h2 k hk
  obtain ⟨hk', rfl⟩ := List.getElem?_eq_some_iff.mp hz
  simpa using this
theorem findD_some {xs : List D} {y : D} {h : VH} {j : Nat} (e : findD xs y h = some j) : ∃ p l, toP deep h y = some p ∧ allS (xs.map (toP deep h)) = some l ∧ findE l p = some j := by
  unfold findD at e
  split at e
  · rename_i p l h1 h2
    exact ⟨p, l, h1, h2, e⟩
  · cases e
theorem mr_indexL (hu : X.A.units + 65 < cLine) : MtR X "list.index" (rM X.K g mIndexL) := mtr_weak (mt_indexD hu) (by
  rintro v vs H Q ⟨m, h, d, xs, s, r1, rs, q⟩
  unfold mIndexL at q
  split at q
  · rename_i x y
    obtain ⟨w, rfl, rw'⟩ := rds1 rs
    split at q
    · rename_i xs hx
      obtain ⟨a, ws, rfl, a1, b1⟩ := ls_of s r1 hx
      split at q
      · rename_i j hj
        obtain ⟨p, l, h1, h2, h3⟩ := findD_some hj
        obtain ⟨d1, sh1⟩ := dp_deep s rw' h1
        obtain ⟨d2, c2, k2⟩ := dps_deep s b1 h2
        obtain ⟨z, hz, hz1, hz2⟩ := findE_some h3
        have sh2 : SeqAt.shaped (.list l) = true := by
          unfold SeqAt.shaped
          rw [Bool.and_eq_true]
          refine ⟨by simp only [PyData.canLay0]; exact c2, decide_eq_true ?_⟩
          simp only [PyData.depth]
          have : deep = 12 := rfl
          omega
        exact ⟨_, w, p, l, j, z, rfl, rfl, .lst a1 d2, d1, sh2, sh1, hz, hz1, hz2, q m H _ Ext.refl s (.int _)⟩
      · exact q.elim
    · exact q.elim
  · exact q.elim)
theorem mr_indexT (hu : X.A.units + 65 < cLine) : MtR X "tuple.index" (rM X.K g mIndexT) := by
  rintro pins st σ H v vs u us Q I rx rs0 ⟨m, h, d, xs, s, r1, rs, q⟩
  unfold mIndexT at q
  split at q
  · rename_i ys y
    obtain ⟨w, rfl, rw'⟩ := rds1 rs
    cases r1 with
    | tup h1 h2 =>
      rename_i a ws
      split at q
      · rename_i j hj
        obtain ⟨p, l, e1, e2, e3⟩ := findD_some hj
        obtain ⟨d1, sh1⟩ := dp_deep s rw' e1
        obtain ⟨d2, c2, k2⟩ := dps_deep s h2 e2
        obtain ⟨z, hz, hz1, hz2⟩ := findE_some e3
        cases rx
        obtain ⟨uy, rfl, ry⟩ := vals1 rs0
        obtain ⟨bs, r1'⟩ := Dp.reads I p _ uy d1 ry
        obtain ⟨its, rv, ⟨⟨cls, dd, dt, sl⟩, ho, hc, n, hdt⟩, hlen⟩ := I.tuple h1.sq
        simp only at hc hdt
        subst hc hdt
        obtain ⟨as, h4⟩ := Dp.readsAll I l ws its d2 rv
        have hn : its.length = l.length := SeqAt.ReadsAll.length l its as h4
        have hmap : its.map (SeqAt.readOf st.heap) = l := SeqAt.readsAll_map l its as c2 h4
        obtain ⟨hjd, _⟩ := List.getElem?_eq_some_iff.mp hz
        have hj' : j < its.toArray.size := by rw [List.size_toArray]; omega
        have at_ : ∀ (k : Nat) (hk : k < its.toArray.size) (z' : PyData), l[k]? = some z' → SeqAt.readOf st.heap its.toArray[k] = z' := by
          intro k hk z' hz'
          have hkl : k < its.length := by simpa using hk
          rw [← hmap, List.getElem?_map, List.getElem?_eq_getElem hkl] at hz'
          have e1 : SeqAt.readOf st.heap its[k] = z' := Option.some.inj (show some (SeqAt.readOf st.heap its[k]) = some z' from hz')
          simpa using e1
        refine call_meets PySem.F.slot_tuple_index ⟨_, ho, rfl⟩ PySem.F.entry_tuple_index (PySem.F.args_tuple_index_2 _ _)
          (TI.tuple_indexAt _ its.toArray n dd sl uy (fun u => PyData.eqv (SeqAt.readOf st.heap u) p) j hj' ?_ ?_) ⟨ho, SeqAt.items_eqAt (vs := its.toArray) (show ReadsAll st.heap its.toArray.toList l as from h4) r1' c2 (SeqAt.canLay_of_shaped sh1) (PyProof.Rows.room_in_shaped sh1 hu), ⟨.int (j : Nat), H, I.tok _, ⟨_, rfl⟩, q m H _ Ext.refl s (.int _)⟩⟩
        · show PyData.eqv (SeqAt.readOf st.heap its.toArray[j]) p = true
          rw [at_ j hj' z hz]
          exact hz1
        · intro k hk hkj
          have hkd : k < l.length := by simp at hk; omega
          have hz' : l[k]? = some l[k] := List.getElem?_eq_getElem hkd
          show PyData.eqv (SeqAt.readOf st.heap its.toArray[k]) p = false
          rw [at_ k hk _ hz']
          exact hz2 k _ hkj hz'
      · exact q.elim
  · exact q.elim

/-! ### texts -/
theorem spl_splitC (c : Nat) : ∀ (l acc : List Nat), TL.spl [c] 0 acc l = (match splitC c l with | a :: r => (acc ++ a) :: r | [] => [acc])
  | [], acc => by simp [TL.spl, splitC]
  | x :: l, acc => by
    by_cases e : x = c
    · subst e
      rw [TL.spl_hit (by simp [TL.pre])]
      simp only [splitC, if_true]
      have ih := spl_splitC x l []
      have hl : ([x] : List Nat).length - 1 = 0 := rfl
      rw [hl, ih]
      have hne : splitC x l ≠ [] := by
        cases l with
        | nil => simp [splitC]
        | cons y l =>
          simp only [splitC]
          split
          · simp
          · split <;> simp
      cases hs : splitC x l with
      | nil => exact absurd hs hne
      | cons a r => simp
    · rw [TL.spl_miss (by simp [TL.pre, e])]
      rw [spl_splitC c l (acc ++ [x])]
      simp only [splitC, e, if_false]
      cases hs : splitC c l with
      | nil => rfl
      | cons a r => simp
theorem splitC_ne (c : Nat) (l : List Nat) : splitC c l ≠ [] := by
  cases l with
  | nil => simp [splitC]
  | cons y l =>
    simp only [splitC]
    split
    · simp
    · split <;> simp
theorem splitC_sub (c : Nat) : ∀ (l : List Nat) (p : List Nat), p ∈ splitC c l → ∀ z ∈ p, z ∈ l
  | [], p, h => by
    simp [splitC] at h
    subst h
    simp
  | x :: l, p, h => by
    simp only [splitC] at h
    split at h
    · rcases List.mem_cons.mp h with e | e
      · subst e; simp
      · exact fun z hz => List.mem_cons_of_mem _ (splitC_sub c l p e z hz)
    · split at h
      · rename_i a r hs
        rcases List.mem_cons.mp h with e | e
        · subst e
          intro z hz
          rcases List.mem_cons.mp hz with e | e
          · rw [e]; exact List.mem_cons_self
          · exact List.mem_cons_of_mem _ (splitC_sub c l a (by rw [hs]; exact List.mem_cons_self) z e)
        · exact fun z hz => List.mem_cons_of_mem _ (splitC_sub c l p (by rw [hs]; exact List.mem_cons_of_mem _ e) z hz)
      · rename_i hs
        exact absurd hs (splitC_ne c l)
theorem split_txt {c : Nat} {l : List Nat} (hc : c < 256) : Txt.split ⟨l.toArray⟩ ⟨#[c]⟩ = (splitC c l).map fun p => (⟨p.toArray⟩ : Str) := by
  refine TL.map_tl_inj ?_
  have hk : (⟨#[c]⟩ : Str).cps.all (· < 256) = true := by simpa using hc
  rw [TL.split_spl _ _ (by simp [TL.tl]) (TL.kind_ok hk)]
  show TL.spl [c] 0 [] l = _
  rw [spl_splitC, List.map_map]
  cases hs : splitC c l with
  | nil => exact absurd hs (splitC_ne c l)
  | cons a r =>
    simp only [List.nil_append, List.map_cons]
    have : (r.map (TL.tl ∘ fun p => (⟨p.toArray⟩ : Str))) = r := by
      have : (TL.tl ∘ fun p => (⟨p.toArray⟩ : Str)) = id := by funext p; rfl
      rw [this, List.map_id]
    rw [this]
    rfl
theorem mr_split : MtR X "str.split" (rM X.K g mSplit) := mtr_weak (mtr_fz mt_split) (by
  rintro v vs H Q ⟨m, h, d, xs, s, r1, rs, q⟩
  unfold mSplit at q
  split at q
  · rename_i l c
    obtain ⟨w, rfl, rw'⟩ := rds1 rs
    cases r1 with
    | str h1 =>
      cases rw' with
      | str h2 =>
        split at q
        · rename_i hz
          refine ⟨_, _, rfl, rfl, rfl, by rw [sizeLine_eq, str_len]; exact hz.2, fun p hp => ?_⟩
          have e : Txt.split ⟨l.toArray⟩ ⟨[c].toArray⟩ = (splitC c l).map fun p => (⟨p.toArray⟩ : Str) := split_txt hz.1
          rw [e]
          have rr : RDs X.K m h.length H ((splitC c l).map D.str) (((splitC c l).map fun p => (⟨p.toArray⟩ : Str)).map V.str) := by
            rw [List.map_map]
            exact RDs.strs _ fun p hp => okS.sub h1 (splitC_sub c l p hp)
          exact s.fls hp rr q
        · exact q.elim
  · exact q.elim)
theorem joinL_eq (S : List Nat) : ∀ l : List (List Nat), FL.joinL S l = TL.joinL S l
  | [] => rfl
  | [_] => rfl
  | a :: b :: r => by
    show a ++ (S ++ FL.joinL S (b :: r)) = a ++ (S ++ TL.joinL S (b :: r))
    rw [joinL_eq S (b :: r)]
theorem joinL_ok {S : List Nat} (hS : okS S = true) : ∀ {l : List (List Nat)}, (∀ c ∈ l, okS c = true) → okS (FL.joinL S l) = true
  | [], _ => rfl
  | [a], h => h a (by simp)
  | a :: b :: r, h => by
    show okS (a ++ (S ++ FL.joinL S (b :: r))) = true
    exact okS.append (h a (by simp)) (okS.append hS (joinL_ok hS fun c hc => h c (List.mem_cons_of_mem _ hc)))
theorem join_txt (S : List Nat) (l : List (List Nat)) : Txt.join ⟨S.toArray⟩ (l.map fun c => (⟨c.toArray⟩ : Str)) = ⟨(FL.joinL S l).toArray⟩ := by
  refine TL.ext_tl ?_
  rw [TL.join_eq, TL.tl_join, List.map_map, joinL_eq]
  have : (TL.tl ∘ fun p => (⟨p.toArray⟩ : Str)) = id := by funext p; rfl
  rw [this, List.map_id] <;> rfl
theorem mr_join : MtR X "str.join" (rM X.K g mJoin) := mtr_weak mt_join (by
  rintro v vs H Q ⟨m, h, d, xs, s, r1, rs, q⟩
  unfold mJoin at q
  split at q
  · rename_i S x
    obtain ⟨w, rfl, rw'⟩ := rds1 rs
    cases r1 with
    | str h1 =>
      split at q
      · rename_i ys hy
        split at q
        · rename_i l hl
          split at q
          · rename_i hz
            obtain ⟨p, ws, rfl, hs, b1⟩ := sim_seq s rw' hy
            obtain ⟨e1, e2⟩ := allT_rel b1 hl
            subst e1
            refine ⟨_, p, l.map fun c => (⟨c.toArray⟩ : Str), rfl, rfl, hs, ?_, ?_⟩
            · rw [List.map_map, List.length_map, str_len]
              have : (Str.length ∘ fun c : List Nat => (⟨c.toArray⟩ : Str)) = List.length := by funext c; exact str_len c
              rw [this]
              exact hz
            · rw [join_txt]
              exact q m H _ Ext.refl s (.str (joinL_ok h1 e2))
          · exact q.elim
        · exact q.elim
      · exact q.elim
  · exact q.elim)
end
end FL
set_option Elab.async false
set_option linter.all false
set_option maxRecDepth 100000
set_option maxHeartbeats 2000000
/-! FL7: statements, targets, loops. -/
namespace FL
open PySem PySem.Spec PyProof.Rows L2

section
variable {K : PySem.W.Frag} {g : Gc} {W : WX} {m m1 : Nat → Addr} {n n1 : Nat} {H H1 : Hp} {E : Ends}
theorem GoodS.thn {α : Type} {P : α → (Nat → Addr) → Nat → Hp → Prop} {δ : DS} {σ : L2.St} {o : Out α} {k : α → VH → OutS} (r : RS K m n H δ σ) (q : GoodS K g W m n H E (thenS δ o k))
    (hk : ∀ x h1 m1 H1, Ext m n H m1 h1.length H1 → Sim K g m1 h1 H1 → GoodS K g W m1 h1.length H1 E (k x h1) → P x m1 h1.length H1) : Gd K g (fun c d H' => W c d σ H') m n H P o := by
  cases o with
  | ok x h =>
    have q : GoodS K g W m n H E (k x h) := q
    exact fun m' H' e s => hk _ _ _ _ e s (q.from e)
  | err c p h =>
    have q : GoodS K g W m n H E (.err c p δ h) := q
    exact fun m' H' cls dd e s rx => q m' H' σ cls dd e s (e.rs r) rx
  | bad => exact q
theorem GoodS.next {o : OutS} {k : DS → VH → OutS} {t : L2.St → Hp → Prop} (q : GoodS K g W m n H E (nextS o k)) (hk : ∀ δ h m1 H1 σ, Ext m n H m1 h.length H1 → Sim K g m1 h H1 → RS K m1 h.length H1 δ σ → GoodS K g W m1 h.length H1 E (k δ h) → t σ H1) :
    GoodS K g W m n H { E with nx := t } o := by
  cases o with
  | nx δ h =>
    have q : GoodS K g W m n H E (k δ h) := q
    exact fun m' H' σ e s r => hk _ _ _ _ _ e s r (q.from e)
  | ret d h => exact q
  | brk d h => exact q
  | ct d h => exact q
  | err c p d h => exact q
  | bad => exact q
theorem GoodS.loop {o : OutS} {k : DS → VH → OutS} {N : L2.St → Hp → Prop} (q : GoodS K g W m n H E (loopS o k)) (hk : ∀ δ h m1 H1 σ, Ext m n H m1 h.length H1 → Sim K g m1 h H1 → RS K m1 h.length H1 δ σ → GoodS K g W m1 h.length H1 E (k δ h) → N σ H1) :
    GoodS K g W m n H { E with nx := N, ct := N, bk := E.nx } o := by
  cases o with
  | nx δ h =>
    have q : GoodS K g W m n H E (k δ h) := q
    exact fun m' H' σ e s r => hk _ _ _ _ _ e s r (q.from e)
  | ct δ h =>
    have q : GoodS K g W m n H E (k δ h) := q
    exact fun m' H' σ e s r => hk _ _ _ _ _ e s r (q.from e)
  | ret d h => exact q
  | brk d h => exact q
  | err c p d h => exact q
  | bad => exact q
end

section
variable {X : Cx} {g : Gc} {W : WX} {a b e : Expr} {es : List Expr} {fa fb fc : FE} {r : FA} {pos p2 : Pos} {st : Stmt} {rest body : List Stmt} {sa sb : FSt} {tc : FT}

/-! ### blocks, small statements -/
theorem fss_nil : PSs X [] (rs X.K g W sNil) := pss_weak pss_nil (by
  rintro D σ H ⟨δ, m, h, r, s, q⟩
  exact q m H σ Ext.refl s r)
theorem fss_cons (h1 : PS X st (rs X.K g W sa)) (h2 : PSs X rest (rs X.K g W sb)) : PSs X (st :: rest) (rs X.K g W (sSeq sa sb)) := pss_weak (pss_cons h1 h2) (by
  rintro D σ H ⟨δ, m, h, r, s, q⟩
  exact ⟨δ, m, h, r, s, GoodS.next q fun δ1 h1 m1 H1 σ1 e1 s1 r1 q1 => ⟨δ1, m1, h1, r1, s1, q1⟩⟩)
theorem fss_one (h1 : PS X st (rs X.K g W sa)) : PSs X [st] (rs X.K g W sa) := pss_one h1
theorem fs_ex (ha : PE X a (rd X.K g W fa)) (hs : swapsWith a none pos.line X.env = pure false := by rfl) : PS X (.Expr a pos) (rs X.K g W (sEx fa)) := ps_weak (ps_expr ha hs) (by
  rintro D σ H ⟨δ, m, h, r, s, q⟩
  exact ⟨δ, m, h, r, s, GoodS.thn r q fun x h1 m1 H1 e1 s1 q1 v r1 => q1 m1 H1 σ Ext.refl s1 (e1.rs r)⟩)
theorem fs_ret (ha : PE X a (rd X.K g W fa)) : PS X (.Return (some a) pos) (rs X.K g W (sRet fa)) := ps_weak (ps_ret ha) (by
  rintro D σ H ⟨δ, m, h, r, s, q⟩
  exact ⟨δ, m, h, r, s, GoodS.thn r q fun x h1 m1 H1 e1 s1 q1 v r1 => q1 m1 H1 v Ext.refl s1 r1⟩)
theorem fs_retN : PS X (.Return none pos) (rs X.K g W sRetN) := ps_weak ps_retN (by
  rintro D σ H ⟨δ, m, h, r, s, q⟩
  exact q m H _ Ext.refl s .non)
theorem fs_if {c : Expr} {x y : List Stmt} (hc : PT X c (rt X.K g W tc)) (ha : PSs X x (rs X.K g W sa)) (hb : PSs X y (rs X.K g W sb)) : PS X (.If c x y pos) (rs X.K g W (sIf tc sa sb)) := ps_weak (ps_if hc ha hb) (by
  rintro D σ H ⟨δ, m, h, r, s, q⟩
  refine ⟨δ, m, h, r, s, GoodS.thn r q fun c h1 m1 H1 e1 s1 q1 => ?_⟩
  cases c with
  | true => exact ⟨δ, m1, h1, e1.rs r, s1, q1⟩
  | false => exact ⟨δ, m1, h1, e1.rs r, s1, q1⟩)
theorem fs_ct : PS X (.Continue pos) (rs X.K g W sCt) := ps_weak ps_continue (by
  rintro D σ H ⟨δ, m, h, r, s, q⟩
  exact q m H σ Ext.refl s r)
theorem fs_br : PS X (.Break pos) (rs X.K g W sBr) := ps_weak ps_break (by
  rintro D σ H ⟨δ, m, h, r, s, q⟩
  exact q m H σ Ext.refl s r)
theorem fs_pass : PS X (.Pass pos) (rs X.K g W sNil) := ps_weak ps_pass (by
  rintro D σ H ⟨δ, m, h, r, s, q⟩
  exact q m H σ Ext.refl s r)

/-! ### targets; own: the slots that they may store to -/
def rg (K : PySem.W.Frag) (g : Gc) (own : List Nat) (f : FG) : TG := fun v σ H Q => ∃ δ m h d, RS K m h.length H δ σ ∧ Sim K g m h H ∧ RD K m h.length H d v ∧
  (match f d δ h with
    | some (δ', h') => ∀ m' H' σ', Ext m h.length H m' h'.length H' → Sim K g m' h' H' → RS K m' h'.length H' δ' σ' → L2.wipe σ' own = L2.wipe σ own → Q σ' H'
    | none => False)
def rgs (K : PySem.W.Frag) (g : Gc) (own : List Nat) (f : FGs) : TGs := fun v σ H Q => ∃ δ m h d, RS K m h.length H δ σ ∧ Sim K g m h H ∧ RDs K m h.length H d v ∧
  (match f d δ h with
    | some (δ', h') => ∀ m' H' σ', Ext m h.length H m' h'.length H' → Sim K g m' h' H' → RS K m' h'.length H' δ' σ' → L2.wipe σ' own = L2.wipe σ own → Q σ' H'
    | none => False)
theorem wipe_get {σ : L2.St} (j : Nat) : ∀ vs : List Nat, (L2.wipe σ vs)[j]? = if j ∈ vs then (if j < σ.length then some none else none) else σ[j]?
  | [] => by simp [L2.wipe]
  | v :: vs => by
    show ((L2.wipe σ vs).set v none)[j]? = _
    by_cases hj : v = j
    · subst hj
      rw [if_pos List.mem_cons_self]
      by_cases hl : v < σ.length
      · rw [if_pos hl, List.getElem?_set_self (by rw [wipe_length]; exact hl)]
      · rw [if_neg hl, List.getElem?_eq_none (by rw [List.length_set, wipe_length]; omega)]
    · rw [List.getElem?_set_ne hj, wipe_get j vs]
      by_cases hm : j ∈ vs
      · rw [if_pos hm, if_pos (List.mem_cons_of_mem _ hm)]
      · rw [if_neg hm, if_neg (fun z => (List.mem_cons.mp z).elim (fun e => hj e.symm) hm)]
theorem wipe_set {σ : L2.St} {i : Nat} {x : Option V} {own : List Nat} (h : i ∈ own) : L2.wipe (σ.set i x) own = L2.wipe σ own := by
  refine List.ext_getElem? fun j => ?_
  rw [wipe_get, wipe_get, List.length_set]
  by_cases hj : j ∈ own
  · rw [if_pos hj, if_pos hj]
  · rw [if_neg hj, if_neg hj, List.getElem?_set_ne (fun e => hj (by rw [← e]; exact h))]
theorem fg_name {own : List Nat} {i : Nat} {x : Str} (hN : X.N.Nodup) (hi : X.N[i]? = some x) (hx : Loc X.env.scope x) (ho : i ∈ own := by decide) (hf : X.fn x = true ∨ X.env.scope.names.lookup x = some .local := by first | exact .inl rfl | exact .inr rfl | assumption) : PG X (.Name x pos) (rg X.K g own (gN i)) :=
  pg_weak (pg_name hN hi hx hf) (by
    rintro v σ H Q ⟨δ, m, h, d, r, s, rv, q⟩
    exact q m H _ Ext.refl s (r.set i rv) (wipe_set ho))
theorem fgs_nil {own : List Nat} : PGs X [] (rgs X.K g own FL.gNil) := pgs_weak pgs_nil (by
  rintro v σ H Q ⟨δ, m, h, d, r, s, rv, q⟩
  unfold FL.gNil at q
  cases rv with
  | nil => exact ⟨rfl, q m H σ Ext.refl s r rfl⟩
  | cons _ _ => exact q.elim)
theorem fgs_cons {own : List Nat} {f : FG} {fs : FGs} (h1 : PG X e (rg X.K g own f)) (h2 : PGs X es (rgs X.K g own fs)) (hs : (assignEach (e :: es) X.env).map (·.2) = assign e X.env :: (assignEach es X.env).map (·.2) := by rfl) : PGs X (e :: es) (rgs X.K g own (FL.gCons f fs)) :=
  pgs_weak (pgs_cons h1 h2 hs) (by
    rintro v σ H Q ⟨δ, m, h, d, r, s, rv, q⟩
    cases rv with
    | nil => exact q.elim
    | cons r1 r2 =>
      rename_i x v xs vs
      refine ⟨v, vs, rfl, δ, m, h, x, r, s, r1, ?_⟩
      have q : (match (match f x δ h with | some (δ, h) => fs xs δ h | none => none) with
        | some (δ', h') => ∀ m' H' σ', Ext m h.length H m' h'.length H' → Sim X.K g m' h' H' → RS X.K m' h'.length H' δ' σ' → L2.wipe σ' own = L2.wipe σ own → Q σ' H'
        | none => False) := q
      cases ef : f x δ h with
      | none => rw [ef] at q; exact q.elim
      | some p =>
        obtain ⟨δ1, h1⟩ := p
        rw [ef] at q
        intro m1 H1 σ1 e1 s1 r3 w1
        refine ⟨δ1, m1, h1, xs, r3, s1, e1.rds r2, ?_⟩
        cases eg : fs xs δ1 h1 with
        | none => simp only [eg] at q
        | some p2 =>
          obtain ⟨δ2, h2⟩ := p2
          simp only [eg] at q
          exact fun m2 H2 σ2 e2 s2 r4 w2 => q m2 H2 σ2 (e1.trans e2) s2 r4 (w2.trans w1))
theorem pg_or {tg : Expr} {t u : TG} (h1 : PG X tg t) (h2 : PG X tg u) : PG X tg (fun v σ H Q => t v σ H Q ∨ u v σ H Q) := ⟨fun pins s σ H v w Q I r q => by
  rcases q with q | q
  · exact h1.run pins s σ H v w Q I r q
  · exact h2.run pins s σ H v w Q I r q⟩
theorem fg_tup {own : List Nat} {k n : Nat} {fs : FGs} (hc : X.calm = true) (h : PGs X es (rgs X.K g own fs)) (hn : (assignEach es X.env).length = n := by rfl) (hst : (assignEach es X.env).findIdx? (·.1) = none := by rfl) : PG X (.Tuple es k pos) (rg X.K g own (FL.gT n fs)) :=
  pg_weak (pg_or (pg_tup hc h hn hst) (pg_lst hc h hn hst)) (by
    rintro v σ H Q ⟨δ, m, h, d, r, s, rv, q⟩
    unfold FL.gT at q
    cases es : seqOf d h with
    | none => rw [es] at q; exact q.elim
    | some xs =>
      rw [es] at q
      by_cases hl : xs.length = n
      · simp only [hl, if_true] at q
        cases rv with
        | tup h1 h2 =>
          cases es
          exact .inl ⟨_, _, rfl, h1.sq, by rw [← h2.length]; exact hl, δ, m, h, _, r, s, h2, q⟩
        | fls h1 h2 =>
          cases es
          exact .inr ⟨_, _, rfl, h1.seq, by rw [← h2.length]; exact hl, δ, m, h, _, r, s, h2, q⟩
        | ref hk =>
          simp only [seqOf] at es
          split at es
          · rename_i ys hx
            cases es
            obtain ⟨_, vs, a1, b1⟩ := s.lst hx
            exact .inr ⟨_, vs, rfl, .of a1, by rw [← b1.length]; exact hl, δ, m, h, _, r, s, b1, q⟩
          · cases es
        | _ => cases es
      · simp only [hl, if_false] at q)
/-- a value stored -/
theorem GoodS.tgt {own : List Nat} {f : FG} {m : Nat → Addr} {H : Hp} {δ : DS} {h : VH} {d : D} {v : V} {σ : L2.St} {E : Ends} {k : DS → VH → OutS} {Q : L2.St → Hp → Prop} (r : RS X.K m h.length H δ σ) (s : Sim X.K g m h H) (rv : RD X.K m h.length H d v) (q : GoodS X.K g W m h.length H E (tgS (f d δ h) k))
    (hk : ∀ δ1 h1 m1 H1 σ1, Ext m h.length H m1 h1.length H1 → Sim X.K g m1 h1 H1 → RS X.K m1 h1.length H1 δ1 σ1 → GoodS X.K g W m1 h1.length H1 E (k δ1 h1) → Q σ1 H1) : rg X.K g own f v σ H Q := by
  refine ⟨δ, m, h, d, r, s, rv, ?_⟩
  cases ef : f d δ h with
  | none => rw [ef] at q; exact q
  | some p =>
    obtain ⟨δ1, h1⟩ := p
    rw [ef] at q
    have q : GoodS X.K g W m h.length H E (k δ1 h1) := q
    exact fun m1 H1 σ1 e1 s1 r1 _ => hk _ _ _ _ _ e1 s1 r1 (q.from e1)
theorem fs_as {own : List Nat} {tg : Expr} {f : FG} (ha : PE X a (rd X.K g W fa)) (hg : PG X tg (rg X.K g own f)) (hs : swapsWithSole [tg] a pos.line X.env = pure false := by rfl) (hw : swappedStores [tg] a X.env = pure none := by rfl)
    (h1 : (assignEach [tg] X.env).map (·.2) = [assign tg X.env] := by rfl) : PS X (.Assign [tg] a pos) (rs X.K g W (sAs fa f)) := ps_weak (ps_asg ha hg hs hw h1) (by
  rintro D σ H ⟨δ, m, h, r, s, q⟩
  refine ⟨δ, m, h, r, s, GoodS.thn r q fun x h1 m1 H1 e1 s1 q1 v r1 => ?_⟩
  exact GoodS.tgt (e1.rs r) s1 r1 q1 fun δ2 h2 m2 H2 σ2 e2 s2 r2 q2 => q2 m2 H2 σ2 Ext.refl s2 r2)
/-- name = e -/
theorem rs_set {i : Nat} {te : TE} (hw : ∀ σ H Q, rd X.K g W fa σ H Q → te σ H Q) : ∀ D σ H, rs X.K g W (sAs fa (gN i)) D σ H → tAsg te (gName i) D σ H := by
  rintro D σ H ⟨δ, m, h, r, s, q⟩
  refine hw σ H _ ⟨δ, m, h, r, s, GoodS.thn r q fun x h1 m1 H1 e1 s1 q1 v r1 => ?_⟩
  exact q1 m1 H1 _ Ext.refl s1 ((e1.rs r).set i r1)
theorem fs_set {i : Nat} {x : Str} {pos' : Pos} (hN : X.N.Nodup) (hi : X.N[i]? = some x) (hx : Loc X.env.scope x) (ha : PE X a (rd X.K g W fa)) (hs : swapsWith a (some (.Name x pos')) pos.line X.env = pure false := by rfl)
    (hf : X.fn x = true ∨ X.env.scope.names.lookup x = some .local := by first | exact .inl rfl | exact .inr rfl | assumption) : PS X (.Assign [.Name x pos'] a pos) (rs X.K g W (sAs fa (gN i))) := ps_weak (ps_set hN hi hx ha hs hf) (rs_set fun _ _ _ q => q)
theorem fs_par {i j : Nat} {x y : Str} {px py pt : Pos} {kt k2 pt2} (hc : X.calm = true) (hN : X.N.Nodup) (hi : X.N[i]? = some x) (hj : X.N[j]? = some y) (hij : i ≠ j) (hx : X.env.scope.names.lookup x = some .local) (hy : X.env.scope.names.lookup y = some .local) (ha : PA X [a, b] (FL.ra X.K g W r))
    (hw : swappedStores [.Tuple [.Name x px, .Name y py] kt pt] (.Tuple [a, b] k2 pt2) X.env = pure (some [x, y])) (hs : swapsWithSole [.Tuple [.Name x px, .Name y py] kt pt] (.Tuple [a, b] k2 pt2) pos.line X.env = pure false := by rfl) :
    PS X (.Assign [.Tuple [.Name x px, .Name y py] kt pt] (.Tuple [a, b] k2 pt2) pos) (rs X.K g W (sPar i j r)) := ps_weak (ps_par hc hN hi hj hij hx hy ha hw hs) (by
  rintro D σ H ⟨δ, m, h, r, s, q⟩
  refine ⟨δ, m, h, r, s, GoodS.thn r q fun xs h1 m1 H1 e1 s1 q1 v r1 => ?_⟩
  split at q1
  · obtain ⟨v1, v2, rfl, r2, r3⟩ := rds2 r1
    exact ⟨v1, v2, rfl, q1 m1 H1 _ Ext.refl s1 (((e1.rs r).set i r2).set j r3)⟩
  · exact q1.elim)
/-- name op= e -/
theorem pip_of {op : Operator} {o : Op2} (ho : OpR X (inplaceOp op) (rO2 X.K g o)) : PIp X op (rO2 X.K g o) := fun pins s σ H x y v u Q I r1 r2 q => ho pins s σ H x y v u Q I r1 r2 q
theorem fs_aug {i : Nat} {x : Str} {op : Operator} {o : Op2} {pos' : Pos} (hN : X.N.Nodup) (hi : X.N[i]? = some x) (hx : Loc X.env.scope x) (ha : PE X a (rd X.K g W fa)) (ho : OpR X (inplaceOp op) (rO2 X.K g o))
    (hf : X.fn x = true ∨ X.env.scope.names.lookup x = some .local := by first | exact .inl rfl | exact .inr rfl | assumption) : PS X (.AugAssign (.Name x pos') op a pos) (rs X.K g W (sAug i o fa)) := ps_weak (ps_aug hN hi hx ha (pip_of ho) hf) (by
  rintro D σ H ⟨δ, m, h, r, s, q⟩
  have q : GoodS X.K g W m h.length H D (match δ[i]? with
    | some (some x) => thenS δ (fa δ h) fun y h => match o x y h with
      | some (z, h) => .nx (δ.set i (some z)) h
      | none => .bad
    | _ => .bad) := q
  cases ei : δ[i]? with
  | none => rw [ei] at q; exact q.elim
  | some od =>
    cases od with
    | none => rw [ei] at q; exact q.elim
    | some d =>
      rw [ei] at q
      obtain ⟨v, hv, rv⟩ := r.2 i d ei
      refine ⟨v, hv, δ, m, h, r, s, GoodS.thn r q fun y h1 m1 H1 e1 s1 q1 u r1 => ?_⟩
      refine ⟨m1, h1, d, y, s1, e1.rd rv, r1, ?_⟩
      cases eo : o d y h1 with
      | none => simp only [eo] at q1; exact q1.elim
      | some p =>
        obtain ⟨z, h2⟩ := p
        simp only [eo] at q1
        exact fun m2 H2 w e2 s2 r2 => q1 m2 H2 _ e2 s2 ((e2.rs (e1.rs r)).set i r2))

/-! ### o[i] = e -/
def rP (K : PySem.W.Frag) (g : Gc) (f : D → D → D → VH → Option VH) : TSet := fun o i v H Q => ∃ m h x y z, Sim K g m h H ∧ RD K m h.length H x o ∧ RD K m h.length H y i ∧ RD K m h.length H z v ∧
  (match f x y z h with
    | some h' => ∀ m' H', Ext m h.length H m' h'.length H' → Sim K g m' h' H' → Q H'
    | none => False)
theorem fs_sub {o i : Expr} {fo fi : FE} {f : D → D → D → VH → Option VH} {ps : Pos} (hp : PSet X (rP X.K g f)) (ha : PE X a (rd X.K g W fa)) (ho : PE X o (rd X.K g W fo)) (hi : PE X i (rd X.K g W fi))
    (hsub : ∀ v, assign (.Subscript o i ps) X.env v = (do
      let ov ← holding [v] (eval o X.env)
      let iv ← holding [v, ov] (eval i X.env)
      standAt ps
      holding [v, ov, iv] (setItem ov iv v)
      release [v, ov, iv] []) := by intro _; rfl)
    (hs : swapsWithSole [.Subscript o i ps] a pos.line X.env = pure false := by rfl) (hw : swappedStores [.Subscript o i ps] a X.env = pure none := by rfl) (h1 : (assignEach [.Subscript o i ps] X.env).map (·.2) = [assign (.Subscript o i ps) X.env] := by rfl) :
    PS X (.Assign [.Subscript o i ps] a pos) (rs X.K g W (FL.sSub f fa fo fi)) := ps_weak (ps_asg ha (pg_sub ho hi hp hsub) hs hw h1) (by
  rintro D σ H ⟨δ, m, h, r, s, q⟩
  refine ⟨δ, m, h, r, s, GoodS.thn r q fun x h1 m1 H1 e1 s1 q1 v r1 => ?_⟩
  refine ⟨δ, m1, h1, e1.rs r, s1, GoodS.thn (e1.rs r) q1 fun y h2 m2 H2 e2 s2 q2 u r2 => ?_⟩
  refine ⟨δ, m2, h2, (e1.trans e2).rs r, s2, GoodS.thn ((e1.trans e2).rs r) q2 fun z h3 m3 H3 e3 s3 q3 w r3 => ?_⟩
  refine ⟨m3, h3, y, z, x, s3, e3.rd r2, r3, (e2.trans e3).rd r1, ?_⟩
  cases ef : f y z x h3 with
  | none => simp only [ef] at q3; exact q3
  | some h4 =>
    simp only [ef] at q3
    exact fun m4 H4 e4 s4 => q3 m4 H4 σ e4 s4 ((e1.trans (e2.trans (e3.trans e4))).rs r))
theorem ps_setL : PSet X (rP X.K g setL) := by
  rintro pins st σ H o i v ov iv u Q I ro ri rv ⟨m, h, x, y, z, s, r1, r2, r3, q⟩
  unfold setL at q
  split at q
  · rename_i h' hf
    split at hf
    · rename_i k i0
      cases r1 with
      | ref hk =>
        cases r2
        split at hf
        · rename_i xs hx
          obtain ⟨_, vs, a1, b1⟩ := s.lst hx
          split at hf
          · rename_i j hj
            cases hf
            obtain ⟨e2, s2⟩ := s.write_lst hx (b1.set j r3)
            exact set_list pins st σ H _ _ v ov iv u Q I ro ri rv ⟨_, vs, i0, j, rfl, rfl, a1, by rw [← b1.length]; exact hj, q m _ e2 s2⟩
          · cases hf
        · cases hf
    · cases hf
  · exact q.elim
theorem dict_new_ne {H : Hp} {a c : Addr} {vs : List (Key × V)} {q : Str} (h : H a = some (.dK vs)) : H a ≠ some (LamX.CodeO c q) := fun z => by
  rw [h] at z
  have z' := Option.some.inj z
  unfold LamX.CodeO at z'
  cases z'
theorem Sim.write_dct {m : Nat → Addr} {h : VH} {H : Hp} (s : Sim X.K g m h H) {i : Nat} {kvs kvs' : List (D × D)} {vs' : List (Key × V)} (e : h[i]? = some (.dct kvs)) (r : RKs X.K m h.length H kvs' vs') :
    Ext m h.length H m (h.set i (.dct kvs')).length (upd H (m i) (.dK vs')) ∧ Sim X.K g m (h.set i (.dct kvs')) (upd H (m i) (.dK vs')) := by
  obtain ⟨ws, hw, _⟩ := s.obj i _ e
  exact s.write (List.getElem?_eq_some_iff.mp e).1 (fun im => ⟨vs', upd_same, r.mono (Nat.le_refl _) (fun _ _ => rfl) im⟩) (fun q => dict_new_ne hw)
theorem ps_setD (hu : X.A.units + 1 < cLine) : PSet X (rP X.K g setD) := by
  rintro pins st σ H o i v ov iv u Q I ro ri rv ⟨m, h, x, y, z, s, r1, r2, r3, q⟩
  unfold setD at q
  split at q
  · rename_i h' hf
    split at hf
    · rename_i k
      cases r1 with
      | ref hk =>
        split at hf
        · rename_i kvs hx
          obtain ⟨vs, a1, b1⟩ := s.obj k _ hx
          split at hf
          · rename_i hz
            cases hf
            obtain ⟨kk, rfl, rfl, hok⟩ := key_of r2 hz.1
            obtain ⟨e2, s2⟩ := Sim.write_dct s hx (rks_put kk hok r3 b1 (knd_of I a1))
            cases ro
            exact d_setItem hu I (DPut.k (k := kk) (v := v) a1 (by rw [sizeLine_eq, ← rks_len b1]; exact hz.2)) ri rv fun s' I' => ⟨_, I', q m _ e2 s2⟩
          · cases hf
        · cases hf
    · cases hf
  · exact q.elim

/-! ### while -/
theorem fs_while {c : Expr} {n : Nat} (hp : PassesOwn (model X.prog X.w) X.A X.env X.xe) (hc : PT X c (rt X.K g W tc)) (hb : PSs X body (rs X.K g W sb)) : PS X (.While c body [] pos) (rs X.K g W (FL.sWhile n tc sb)) := ps_weak (ps_while hp hc hb) (by
  rintro D σ H ⟨δ, m, h, r, s, q⟩
  refine ⟨fun f σ H => ∃ δ m h, RS X.K m h.length H δ σ ∧ Sim X.K g m h H ∧ GoodS X.K g W m h.length H D (whl tc sb f δ h), ⟨n, δ, m, h, r, s, q⟩, ?_⟩
  rintro f σ H ⟨δ, m, h, r, s, q⟩
  cases f with
  | zero => exact q.elim
  | succ f =>
    refine ⟨δ, m, h, r, s, GoodS.thn r q fun c h1 m1 H1 e1 s1 q1 => ?_⟩
    cases c with
    | true =>
      rw [if_pos rfl]
      refine ⟨_, fun σ' H' x => ⟨f, Nat.lt_succ_self _, x⟩, δ, m1, h1, e1.rs r, s1, ?_⟩
      exact GoodS.loop q1 fun δ2 h2 m2 H2 σ2 e2 s2 r2 q2 => ⟨δ2, m2, h2, r2, s2, q2⟩
    | false =>
      rw [if_neg Bool.false_ne_true]
      exact q1 m1 H1 σ Ext.refl s1 (e1.rs r))

/-! ### for -/
theorem pi_or {tg it : Expr} {t u : TI} (h1 : PI X tg it t) (h2 : PI X tg it u) : PI X tg it (fun σ H R => t σ H R ∨ u σ H R) := ⟨fun pins s σ H R I q => by
  rcases q with q | q
  · exact h1.run pins s σ H R I q
  · exact h2.run pins s σ H R I q⟩
theorem str_get (l : List Nat) (i : Nat) : (⟨l.toArray⟩ : Str).cps[i]? = l[i]? := by simp
end
end FL
set_option Elab.async false
set_option linter.all false
set_option maxRecDepth 100000
set_option maxHeartbeats 2000000
/-! FL8: for, list comprehensions. -/
namespace FL
open PySem PySem.Spec PyProof.Rows L2

/-- an iterator that walks vs, while C holds -/
structure TreeIt (J : It) (C : Hp → Prop) (vs : List V) : Prop where
  go : ∀ i H x, C H → vs[i]? = some x → J.go i H
  yld : ∀ i H x H' y, C H → J.yld i H x H' → vs[i]? = some y → H' = H ∧ x = y
  stop : ∀ i H, C H → vs.length ≤ i → J.stop i H
  st : ∀ H H', Imm H H' → C H → C H'
theorem tree_tup {K : PySem.W.Frag} {a : Addr} {vs : List V} : TreeIt (Itt K a) (fun H => Plt K H a vs) vs where
  go := fun i H x c e => ⟨vs, x, c.sq, e⟩
  yld := fun i H x H' y c h e => ⟨h.1, Option.some.inj ((h.2 vs c.sq).symm.trans e)⟩
  stop := fun i H c e => ⟨vs, c.sq, e⟩
  st := fun _ _ i c => i.plt c
theorem tree_fls {K : PySem.W.Frag} {a : Addr} {vs : List V} : TreeIt (Itl K a) (fun H => Frz K H a vs) vs where
  go := fun i H x c e => ⟨vs, x, c.seq, e⟩
  yld := fun i H x H' y c h e => ⟨h.1, Option.some.inj ((h.2 vs c.seq).symm.trans e)⟩
  stop := fun i H c e => ⟨vs, c.seq, e⟩
  st := fun _ _ i c => i.fz c
theorem tree_keys {d : Addr} {o : Obj} {kvs : List (Key × V)} : TreeIt (Itk d o kvs) (fun H => H d = some (.frz o (.dK kvs))) (kvs.map fun p => kV p.1) where
  go := fun i H x c e => ⟨c, by
    have := (List.getElem?_eq_some_iff.mp e).1
    simpa using this⟩
  yld := fun i H x H' y c h e => by
    obtain ⟨h1, k, w, h2, h3⟩ := h
    refine ⟨h1, ?_⟩
    rw [List.getElem?_map, h2] at e
    rw [h3]
    exact Option.some.inj e
  stop := fun i H c e => ⟨c, by simpa using e⟩
  st := fun _ _ i c => i.frz _ _ _ c
theorem keys_rel {K : PySem.W.Frag} {m : Nat → Addr} {n : Nat} {H : Hp} : ∀ {kvs : List (Key × V)}, (∀ p ∈ kvs, okK p.1 = true) → RDs K m n H (kvs.map fun p => kD p.1) (kvs.map fun p => kV p.1)
  | [], _ => .nil
  | (k, v) :: kvs, h => .cons (by
    have h0 := h _ List.mem_cons_self
    cases k with
    | inl i => exact .int i
    | inr x =>
      show RD K m n H (.str x.cps.toList) (.str x)
      have : x = ⟨x.cps.toList.toArray⟩ := by cases x; rfl
      conv => rhs; rw [this]
      exact .str h0) (keys_rel fun p hp => h p (List.mem_cons_of_mem _ hp))
theorem tree_str {l : List Nat} : TreeIt (Its ⟨l.toArray⟩) (fun _ => True) (l.map fun c => V.str ⟨#[c]⟩) where
  go := fun i H x c e => by
    have : i < (l.map fun c => V.str ⟨#[c]⟩).length := (List.getElem?_eq_some_iff.mp e).1
    simpa [Its] using this
  yld := fun i H x H' y c h e => by
    obtain ⟨h1, c', h2, h3⟩ := h
    refine ⟨h1, ?_⟩
    have e2 : l[i]? = some c' := by simpa using h2
    rw [List.getElem?_map, e2] at e
    rw [h3]
    exact Option.some.inj e
  stop := fun i H c e => by simpa [Its] using e
  st := fun _ _ _ c => c
theorem rng_rel {K : PySem.W.Frag} {m : Nat → Addr} {n : Nat} {H : Hp} (lo : Int) (k : Nat) : RDs K m n H ((List.range k).map fun (j : Nat) => D.int (lo + j)) ((List.range k).map fun (j : Nat) => V.int (lo + j)) := by
  have : ∀ l : List Nat, RDs K m n H (l.map fun (j : Nat) => D.int (lo + j)) (l.map fun (j : Nat) => V.int (lo + j)) := by
    intro l
    induction l with
    | nil => exact .nil
    | cons x l ih => exact .cons (.int _) ih
  exact this _
theorem tree_rng {lo : Int} {n : Nat} : TreeIt (Itr lo n) (fun _ => True) ((List.range n).map fun (j : Nat) => V.int (lo + j)) where
  go := fun i H x c e => by
    have : i < ((List.range n).map fun (j : Nat) => V.int (lo + j)).length := (List.getElem?_eq_some_iff.mp e).1
    simpa [Itr] using this
  yld := fun i H x H' y c h e => by
    obtain ⟨h1, h2⟩ := h
    refine ⟨h1, ?_⟩
    obtain ⟨hl, he⟩ := List.getElem?_eq_some_iff.mp e
    rw [h2, ← he]
    simp
  stop := fun i H c e => by simpa [Itr] using e
  st := fun _ _ _ c => c
theorem sign_rel {K : PySem.W.Frag} {m : Nat → Addr} {n : Nat} {H : Hp} : ∀ {l : List Nat}, okS l = true → RDs K m n H (l.map fun c => D.str [c]) (l.map fun c => V.str ⟨#[c]⟩)
  | [], _ => .nil
  | c :: l, h => .cons (.str (okS.sub h fun z hz => List.mem_cons.mpr (.inl (List.mem_singleton.mp hz)))) (sign_rel (okS.sub h fun z hz => List.mem_cons_of_mem _ hz))

section
variable {X : Cx} {g : Gc} {W : WX} {sb : FSt} {f : FG} {own : List Nat} {D : Ends}
abbrev ForW (K : PySem.W.Frag) (g : Gc) (W : WX) (own : List Nat) (f : FG) (sb : FSt) (D : Ends) (J : It) (σ : L2.St) (H : Hp) : Prop :=
  ∃ W' : Nat → Nat → L2.St → Hp → Prop, (∃ m, W' 0 m σ H) ∧ ∀ i m σ H, W' i m σ H →
    (J.stop i H ∧ D.nx σ H) ∨ (J.go i H ∧ ∃ N : L2.St → Hp → Prop, (∀ σ' H', N σ' H' → ∃ m', m' < m ∧ W' (i + 1) m' σ' H') ∧ ∀ x H', J.yld i H x H' → rg K g own f x σ H' fun σ2 H2 => rs K g W sb { D with nx := N, ct := N, bk := D.nx } σ2 H2)
theorem for_tree {J : It} {C : Hp → Prop} {vs : List V} {xs : List FL.D} {m : Nat → Addr} {h : VH} {H : Hp} {δ : DS} {σ : L2.St} (T : TreeIt J C vs) (c0 : C H) (r : RS X.K m h.length H δ σ) (s : Sim X.K g m h H) (rx : RDs X.K m h.length H xs vs)
    (q : GoodS X.K g W m h.length H D (forT f sb xs δ h)) : ForW X.K g W own f sb D J σ H := by
  refine ⟨fun i k σ H => ∃ δ m h rest, C H ∧ RS X.K m h.length H δ σ ∧ Sim X.K g m h H ∧ RDs X.K m h.length H rest (vs.drop i) ∧ k = rest.length ∧ GoodS X.K g W m h.length H D (forT f sb rest δ h), ⟨_, δ, m, h, xs, c0, r, s, rx, rfl, q⟩, ?_⟩
  rintro i k σ H ⟨δ, m, h, rest, c, r, s, rx, rfl, q⟩
  cases rest with
  | nil =>
    have hl := rx.length
    rw [List.length_drop] at hl
    exact .inl ⟨T.stop i H c (by simp at hl; omega), q m H σ Ext.refl s r⟩
  | cons x rest =>
    have hi : ∃ v, vs[i]? = some v ∧ RD X.K m h.length H x v ∧ RDs X.K m h.length H rest (vs.drop (i + 1)) := by
      have hl := rx.length
      rw [List.length_drop] at hl
      have hlt : i < vs.length := by simp at hl; omega
      rw [List.drop_eq_getElem_cons hlt] at rx
      cases rx with
      | cons r1 r2 => exact ⟨vs[i], by simp [hlt], r1, r2⟩
    obtain ⟨v, hv, r1, r2⟩ := hi
    refine .inr ⟨T.go i H v c hv, _, fun σ' H' z => ⟨rest.length, by simp, z⟩, fun y H' hy => ?_⟩
    obtain ⟨e1, e2⟩ := T.yld i H y H' v c hy hv
    subst e1
    subst e2
    refine GoodS.tgt r s r1 q fun δ1 h1 m1 H1 σ1 e1 s1 rr1 q1 => ?_
    refine ⟨δ1, m1, h1, rr1, s1, GoodS.loop q1 fun δ2 h2 m2 H2 σ2 e2 s2 rr2 q2 => ?_⟩
    exact ⟨δ2, m2, h2, rest, T.st _ _ (e1.trans e2).im c, rr2, s2, (e1.trans e2).rds r2, rfl, q2⟩
theorem for_live {k : Nat} {n : Nat} {m : Nat → Addr} {h : VH} {H : Hp} {δ : DS} {σ : L2.St} (hk : k < h.length) (r : RS X.K m h.length H δ σ) (s : Sim X.K g m h H)
    (q : GoodS X.K g W m h.length H D (forL k f sb n 0 δ h)) : ForW X.K g W own f sb D (Itl X.K (m k)) σ H := by
  refine ⟨fun i c σ H => ∃ δ m' h, k < h.length ∧ m' k = m k ∧ RS X.K m' h.length H δ σ ∧ Sim X.K g m' h H ∧ GoodS X.K g W m' h.length H D (forL k f sb c i δ h), ⟨n, δ, m, h, hk, rfl, r, s, q⟩, ?_⟩
  rintro i c σ H ⟨δ, m', h, hk, hm, r, s, q⟩
  cases c with
  | zero => exact q.elim
  | succ c =>
    unfold forL at q
    split at q
    · rename_i xs hx
      obtain ⟨_, vs, a1, b1⟩ := s.lst hx
      rw [hm] at a1
      cases hxi : xs[i]? with
      | none =>
        rw [hxi] at q
        have hl := b1.length
        have : xs.length ≤ i := List.getElem?_eq_none_iff.mp hxi
        exact .inl ⟨⟨vs, .of a1, by omega⟩, q m' H σ Ext.refl s r⟩
      | some x =>
        rw [hxi] at q
        obtain ⟨v, hv, r1⟩ := b1.get hxi
        refine .inr ⟨⟨vs, v, .of a1, hv⟩, _, fun σ' H' z => ⟨c, Nat.lt_succ_self _, z⟩, fun y H' hy => ?_⟩
        obtain ⟨e1, e2⟩ := hy
        subst e1
        have e3 := e2 vs (.of a1)
        rw [hv] at e3
        cases e3
        refine GoodS.tgt r s r1 q fun δ1 h1 m1 H1 σ1 e1 s1 rr1 q1 => ?_
        refine ⟨δ1, m1, h1, rr1, s1, GoodS.loop q1 fun δ2 h2 m2 H2 σ2 e2 s2 rr2 q2 => ?_⟩
        have e := e1.trans e2
        exact ⟨δ2, m2, h2, Nat.lt_of_lt_of_le hk e.le, (e.eq k hk).trans hm, rr2, s2, q2⟩
    · exact q.elim
variable {tg iter : Expr} {body : List Stmt} {pos : Pos} {fa : FE}
theorem fs_for (hp : PassesOwn (model X.prog X.w) X.A X.env X.xe) (hc : X.calm = true) (ha : PE X iter (rd X.K g W fa)) (hg : PG X tg (rg X.K g own f)) (hb : PSs X body (rs X.K g W sb)) (hs : ∀ x, foldedSetIterable iter X.env x = pure x := by intro _; rfl) :
    PS X (.For tg iter body [] pos) (rs X.K g W (FL.sFor fa f sb)) := ps_weak (ps_for hp hc (pi_or (pi_or (pi_or (pi_list ha) (pi_tup ha)) (pi_str ha)) (pi_keys ha)) hg hb hs) (by
  rintro D σ H ⟨δ, m, h, r, s, q⟩
  show ((iList X.K (rd X.K g W fa) σ H _ ∨ iTup X.K (rd X.K g W fa) σ H _) ∨ iStr (rd X.K g W fa) σ H _) ∨ iKeys (rd X.K g W fa) σ H _
  have q : GoodS X.K g W m h.length H D (thenS δ (fa δ h) fun x h => forX f sb x δ h) := q
  cases ea : fa δ h with
  | bad => rw [ea] at q; exact q.elim
  | err c p h1 =>
    rw [ea] at q
    refine .inl (.inr ⟨δ, m, h, r, s, ?_⟩)
    rw [ea]
    exact GoodS.thn (P := fun _ _ _ _ => True) r q (fun _ _ _ _ _ _ _ => trivial)
  | ok d h1 =>
    have go : ∀ {R : V → Hp → Prop}, (∀ m1 H1 v, Ext m h.length H m1 h1.length H1 → Sim X.K g m1 h1 H1 → RD X.K m1 h1.length H1 d v → GoodS X.K g W m1 h1.length H1 D (forX f sb d δ h1) → R v H1) → rd X.K g W fa σ H R := fun {R} hR => by
      refine ⟨δ, m, h, r, s, ?_⟩
      rw [ea] at q ⊢
      have q : GoodS X.K g W m h.length H D (forX f sb d δ h1) := q
      exact fun m1 H1 e1 s1 v r1 => hR m1 H1 v e1 s1 r1 (q.from e1)
    cases d with
    | tup xs =>
      refine .inl (.inl (.inr (go fun m1 H1 v e1 s1 r1 q1 => ?_)))
      cases r1 with
      | tup h2 h3 => exact ⟨_, rfl, ⟨_, h2.sq⟩, for_tree tree_tup h2 (e1.rs r) s1 h3 q1⟩
    | fls xs =>
      refine .inl (.inl (.inl (go fun m1 H1 v e1 s1 r1 q1 => ?_)))
      cases r1 with
      | fls h2 h3 => exact ⟨_, rfl, ⟨_, h2.seq⟩, for_tree tree_fls h2 (e1.rs r) s1 h3 q1⟩
    | str l =>
      refine .inl (.inr (go fun m1 H1 v e1 s1 r1 q1 => ?_))
      cases r1 with
      | str h2 => exact ⟨_, rfl, for_tree tree_str trivial (e1.rs r) s1 (sign_rel h2) q1⟩
    | fdc ks vs =>
      refine .inr (go fun m1 H1 v e1 s1 r1 q1 => ?_)
      cases r1 with
      | fdc h1 h2 h3 h4 =>
        subst h2
        exact ⟨_, _, rfl, .inl ⟨_, h1, for_tree tree_keys h1 (e1.rs r) s1 (keys_rel h3) q1⟩⟩
    | ref k =>
      refine .inl (.inl (.inl (go fun m1 H1 v e1 s1 r1 q1 => ?_)))
      cases r1 with
      | ref hk =>
        have q1 : GoodS X.K g W m1 h1.length H1 D (match h1[k]? with
          | some (.lst xs) => forL k f sb (xs.length + 1) 0 δ h1
          | _ => .bad) := q1
        split at q1
        · rename_i xs hx
          obtain ⟨_, vs, a1, b1⟩ := s1.lst hx
          exact ⟨_, rfl, ⟨vs, .of a1⟩, for_live hk (e1.rs r) s1 q1⟩
        · exact q1.elim
    | _ =>
      refine .inl (.inr (go fun m1 H1 v e1 s1 r1 q1 => ?_))
      exact q1.elim)
variable {r : FA} {a b : Expr}
theorem rEnds1 {xs : List FL.D} {i j : Int} {K : PySem.W.Frag} {m : Nat → Addr} {n : Nat} {H : Hp} {vs : List V} (h : RDs K m n H xs vs) (e : rEnds xs = some (i, j)) (hl : xs.length = 1) : vs = [.int j] ∧ i = 0 ∧ -(2 ^ 62) ≤ j ∧ j < 2 ^ 62 := by
  unfold rEnds at e
  split at e
  · obtain ⟨v, rfl, r1⟩ := rds1 h
    cases r1
    split at e
    · rename_i ho
      cases e
      unfold okR at ho
      have := of_decide_eq_true ho
      exact ⟨rfl, rfl, by omega, by omega⟩
    · cases e
  · cases hl
  · cases e
theorem rEnds2 {xs : List FL.D} {i j : Int} {K : PySem.W.Frag} {m : Nat → Addr} {n : Nat} {H : Hp} {vs : List V} (h : RDs K m n H xs vs) (e : rEnds xs = some (i, j)) (hl : xs.length = 2) : vs = [.int i, .int j] ∧ (-(2 ^ 62) ≤ i ∧ i < 2 ^ 62 ∧ -(2 ^ 62) ≤ j ∧ j < 2 ^ 62) := by
  unfold rEnds at e
  split at e
  · cases hl
  · obtain ⟨v, w, rfl, r1, r2⟩ := rds2 h
    cases r1
    cases r2
    split at e
    · rename_i ho
      cases e
      unfold okR at ho
      have := of_decide_eq_true ho
      exact ⟨rfl, by omega, by omega, by omega, by omega⟩
    · cases e
  · cases e
/-- arguments' number -/
def ALen (r : FA) (n : Nat) : Prop := ∀ δ h xs h', r δ h = .ok xs h' → xs.length = n
theorem aLen_nil : ALen aNil 0 := fun δ h xs h' e => by cases e; rfl
theorem aLen_cons {n : Nat} {fa : FE} {r : FA} (hr : ALen r n) : ALen (aCons fa r) (n + 1) := fun δ h xs h' e => by
  unfold aCons at e
  cases ea : fa δ h with
  | ok x h1 =>
    rw [ea] at e
    simp only [Out.bind] at e
    cases er : r δ h1 with
    | ok ys h2 =>
      rw [er] at e
      cases e
      rw [List.length_cons, hr _ _ _ _ er]
    | err c p h2 => rw [er] at e; cases e
    | bad => rw [er] at e; cases e
  | err c p h1 => rw [ea] at e; cases e
  | bad => rw [ea] at e; cases e
theorem for_rng {δ : DS} {σ : L2.St} {m : Nat → Addr} {h : VH} {H : Hp} {n : Nat} (hn : ALen r n) (rr : RS X.K m h.length H δ σ) (s : Sim X.K g m h H) (q : GoodS X.K g W m h.length H D (FL.sForR r f sb δ h)) {R : List V → Hp → Prop}
    (hR : ∀ xs vs h1 m1 H1 i j, Ext m h.length H m1 h1.length H1 → Sim X.K g m1 h1 H1 → RDs X.K m1 h1.length H1 xs vs → xs.length = n → rEnds xs = some (i, j) → ForW X.K g W own f sb D (Itr i (j - i).toNat) σ H1 → R vs H1) : FL.ra X.K g W r σ H R := by
  have q : GoodS X.K g W m h.length H D (thenS δ (r δ h) fun xs h => match rEnds xs with
    | some (i, j) => forT f sb (rng i j) δ h
    | none => .bad) := q
  refine ⟨δ, m, h, rr, s, ?_⟩
  cases er : r δ h with
  | bad => rw [er] at q; exact q
  | err c p h1 =>
    rw [er] at q
    exact GoodS.thn (P := fun _ _ _ _ => True) rr q (fun _ _ _ _ _ _ _ => trivial)
  | ok xs h1 =>
    rw [er] at q
    intro m1 H1 e1 s1 vs r1
    have q : GoodS X.K g W m h.length H D (match rEnds xs with
      | some (i, j) => forT f sb (rng i j) δ h1
      | none => .bad) := q
    cases ee : rEnds xs with
    | none => rw [ee] at q; exact q.elim
    | some p =>
      obtain ⟨i, j⟩ := p
      rw [ee] at q
      exact hR xs vs h1 m1 H1 i j e1 s1 r1 (hn _ _ _ _ er) ee (for_tree tree_rng trivial (e1.rs rr) s1 (rng_rel i _) (q.from e1))
theorem fs_forR1 {p pos' : Pos} (hp : PassesOwn (model X.prog X.w) X.A X.env X.xe) (hc : X.calm = true) (hm : X.mg "range" = none) (ha : PA X [a] (FL.ra X.K g W r)) (hn : ALen r 1) (hg : PG X tg (rg X.K g own f)) (hb : PSs X body (rs X.K g W sb))
    (hgl : Gl X "range" := by rfl) (hst : starEach [a] X.env = [(false, eval a X.env)] := by rfl) (hs : ∀ x, foldedSetIterable (.Call (.Name "range" p) [a] [] pos') X.env x = pure x := by intro _; rfl) :
    PS X (.For tg (.Call (.Name "range" p) [a] [] pos') body [] pos) (rs X.K g W (FL.sForR r f sb)) := ps_weak (ps_for hp hc (pi_range1 hgl hm ha hst) hg hb hs) (by
  rintro D σ H ⟨δ, m, h, rr, s, q⟩
  refine for_rng (own := own) hn rr s q fun xs vs h1 m1 H1 i j e1 s1 r1 hl ee w => ?_
  obtain ⟨e2, e3, e4, e5⟩ := rEnds1 r1 ee hl
  subst e3
  exact ⟨j, e2, e4, e5, by simpa using w⟩)
theorem fs_forR2 {p pos' : Pos} (hp : PassesOwn (model X.prog X.w) X.A X.env X.xe) (hc : X.calm = true) (hm : X.mg "range" = none) (ha : PA X [a, b] (FL.ra X.K g W r)) (hn : ALen r 2) (hg : PG X tg (rg X.K g own f)) (hb : PSs X body (rs X.K g W sb))
    (hgl : Gl X "range" := by rfl) (hst : starEach [a, b] X.env = [(false, eval a X.env), (false, eval b X.env)] := by rfl) (hst2 : starEach [b] X.env = [(false, eval b X.env)] := by rfl) (hs : ∀ x, foldedSetIterable (.Call (.Name "range" p) [a, b] [] pos') X.env x = pure x := by intro _; rfl) :
    PS X (.For tg (.Call (.Name "range" p) [a, b] [] pos') body [] pos) (rs X.K g W (FL.sForR r f sb)) := ps_weak (ps_for hp hc (pi_range2 hgl hm ha hst hst2) hg hb hs) (by
  rintro D σ H ⟨δ, m, h, rr, s, q⟩
  refine for_rng (own := own) hn rr s q fun xs vs h1 m1 H1 i j e1 s1 r1 hl ee w => ?_
  obtain ⟨e2, e3⟩ := rEnds2 r1 ee hl
  exact ⟨i, j, e2, e3, w⟩)
end
end FL
set_option Elab.async false
set_option linter.all false
set_option maxRecDepth 100000
set_option maxHeartbeats 2000000
/-! FL9: list comprehensions. -/
namespace FL
open PySem PySem.Spec PyProof.Rows L2

/-- no exception is wished for -/
abbrev W0 : WX := fun _ _ _ _ => False
theorem wipeD_get {δ : DS} (j : Nat) : ∀ vs : List Nat, (FL.wipe δ vs)[j]? = if j ∈ vs then (if j < δ.length then some none else none) else δ[j]?
  | [] => by simp [FL.wipe]
  | v :: vs => by
    have hlen : ∀ ws : List Nat, (FL.wipe δ ws).length = δ.length := by
      intro ws
      induction ws with
      | nil => rfl
      | cons w ws ih => show ((FL.wipe δ ws).set w none).length = _; rw [List.length_set, ih]
    show ((FL.wipe δ vs).set v none)[j]? = _
    by_cases hj : v = j
    · subst hj
      rw [if_pos List.mem_cons_self]
      by_cases hl : v < δ.length
      · rw [if_pos hl, List.getElem?_set_self (by rw [hlen]; exact hl)]
      · rw [if_neg hl, List.getElem?_eq_none (by rw [List.length_set, hlen]; omega)]
    · rw [List.getElem?_set_ne hj, wipeD_get j vs]
      by_cases hm : j ∈ vs
      · rw [if_pos hm, if_pos (List.mem_cons_of_mem _ hm)]
      · rw [if_neg hm, if_neg (fun z => (List.mem_cons.mp z).elim (fun e => hj e.symm) hm)]
theorem wipeD_len (δ : DS) : ∀ vs : List Nat, (FL.wipe δ vs).length = δ.length
  | [] => rfl
  | v :: vs => by show ((FL.wipe δ vs).set v none).length = _; rw [List.length_set, wipeD_len δ vs]
theorem RS.wipe {K : PySem.W.Frag} {m : Nat → Addr} {n : Nat} {H : Hp} {δ : DS} {σ : L2.St} (r : RS K m n H δ σ) (own : List Nat) : RS K m n H (FL.wipe δ own) (L2.wipe σ own) := by
  refine ⟨by rw [wipeD_len, wipe_length]; exact r.1, fun i d hd => ?_⟩
  rw [wipeD_get] at hd
  by_cases hi : i ∈ own
  · rw [if_pos hi] at hd
    split at hd <;> cases hd
  · rw [if_neg hi] at hd
    obtain ⟨v, h1, h2⟩ := r.2 i d hd
    exact ⟨v, by rw [wipe_get, if_neg hi]; exact h1, h2⟩
theorem wipe_wipe (σ : L2.St) (own : List Nat) : L2.wipe (L2.wipe σ own) own = L2.wipe σ own := by
  refine List.ext_getElem? fun j => ?_
  rw [wipe_get, wipe_length]
  by_cases hj : j ∈ own
  · rw [if_pos hj, wipe_get, if_pos hj]
  · rw [if_neg hj]

/-- an object that the virtual heap does not hold is changed -/
theorem Sim.own {K : PySem.W.Frag} {g : Gc} {m : Nat → Addr} {h : VH} {H : Hp} {D : Addr} {ws : List V} (s : Sim K g m h H) (hD : H D = some (.lst ws)) (nD : ∀ k, k < h.length → m k ≠ D) (u : HO) : Imm H (upd H D u) ∧ Sim K g m h (upd H D u) := by
  have im : Imm H (upd H D u) := ⟨fun a xs e => by
    rw [upd_ne (fun z => by rw [z, hD] at e; cases e)]
    exact e, fun a o u e => by
    rw [upd_ne (fun z => by rw [z, hD] at e; cases e)]
    exact e⟩
  refine ⟨im, ⟨s.inj, fun i o hi => ?_, tabs_upd s.tab (fun ps z => by rw [hD] at z; cases z) (fun q z => by rw [hD] at z; exact LamX_code_lst ws (Option.some.inj z).symm)⟩⟩
  have hl := (List.getElem?_eq_some_iff.mp hi).1
  exact (s.obj i o hi).mono (Nat.le_refl _) (fun _ _ => rfl) im (upd_ne (nD i hl))
theorem Ext.own {m0 m : Nat → Addr} {n0 n : Nat} {H0 H : Hp} {D : Addr} (e : Ext m0 n0 H0 m n H) (h0 : H0 D = none) (u : HO) : Ext m0 n0 H0 m n (upd H D u) :=
  ⟨e.le, e.eq, ⟨fun a xs z => by
    rw [upd_ne (fun y => by rw [y, h0] at z; cases z)]
    exact e.im.tup a xs z, fun a o u z => by
    rw [upd_ne (fun y => by rw [y, h0] at z; cases z)]
    exact e.im.frz a o u z⟩, fun a o ha z hf => by
    rw [upd_ne (fun y => by rw [y, h0] at z; cases z)]
    exact e.fr a o ha z hf, e.nw, fun a z => by
    by_cases h : a = D
    · exact .non (by rw [h]; exact h0)
    · rw [upd_ne h] at z
      exact e.al a z⟩
/-- a list that the virtual heap does not hold: where it stands, what it holds -/
structure Acc (K : PySem.W.Frag) (g : Gc) (m0 : Nat → Addr) (n0 : Nat) (H0 : Hp) (D : Addr) (m : Nat → Addr) (h : VH) (H : Hp) (acc : List FL.D) : Prop where
  ex : Ext m0 n0 H0 m h.length H
  sm : Sim K g m h H
  nD : ∀ k, k < h.length → m k ≠ D
  at_ : ∃ vs, H D = some (.lst vs) ∧ RDs K m h.length H acc vs
theorem Acc.from {K : PySem.W.Frag} {g : Gc} {m0 m m1 : Nat → Addr} {n0 : Nat} {H0 H H1 : Hp} {D : Addr} {h h1 : VH} {acc : List FL.D} (a : Acc K g m0 n0 H0 D m h H acc) (e : Ext m h.length H m1 h1.length H1) (s : Sim K g m1 h1 H1) : Acc K g m0 n0 H0 D m1 h1 H1 acc := by
  obtain ⟨vs, hD, r⟩ := a.at_
  refine ⟨a.ex.trans e, s, fun k hk z => ?_, vs, e.fr D _ a.nD hD trivial, e.rds r⟩
  by_cases hn : k < h.length
  · rw [e.eq k hn] at z
    exact a.nD k hn z
  · have := e.nw k (by omega) hk
    rw [z, hD] at this
    exact this.elim
theorem Acc.put {K : PySem.W.Frag} {g : Gc} {m0 m : Nat → Addr} {n0 : Nat} {H0 H : Hp} {D : Addr} {h : VH} {acc : List FL.D} {x : FL.D} {v : V} (a : Acc K g m0 n0 H0 D m h H acc) (h0 : H0 D = none) (r : RD K m h.length H x v) :
    ∃ vs, H D = some (.lst vs) ∧ acc.length = vs.length ∧ Imm H (upd H D (.lst (vs ++ [v]))) ∧ Acc K g m0 n0 H0 D m h (upd H D (.lst (vs ++ [v]))) (acc ++ [x]) := by
  obtain ⟨vs, hD, ra⟩ := a.at_
  obtain ⟨im, s⟩ := a.sm.own hD a.nD (.lst (vs ++ [v]))
  exact ⟨vs, hD, ra.length, im, a.ex.own h0 _, s, a.nD, vs ++ [v], upd_same, RDs.mono (Nat.le_refl _) (fun _ _ => rfl) im _ _ (ra.append (.cons r .nil))⟩
section
variable {X : Cx} {g : Gc} {f : FG} {ft : FT} {fe : FE} {own : List Nat} {δ : DS} {σ : L2.St} {D : Addr} {Q : VK} {m0 : Nat → Addr} {n0 : Nat} {H0 : Hp}
/-- what is left of the comprehension, good -/
abbrev FinL (K : PySem.W.Frag) (g : Gc) (m0 : Nat → Addr) (n0 : Nat) (H0 : Hp) (Q : VK) (o : Out (List FL.D)) : Prop := GoodE K g (fun _ _ _ => False) m0 n0 H0 Q (lcEnd o)
/-- one turn, as the functions lcT and lcL do it -/
def turnL (g : FG) (t : FT) (e : FE) (own : List Nat) (δ : DS) (x : FL.D) (h : VH) (acc : List FL.D) (go : VH → List FL.D → Out (List FL.D)) : Out (List FL.D) := match g x (FL.wipe δ own) h with
  | none => .bad
  | some (δ1, h) => match t δ1 h with
    | .ok false h => go h acc
    | .ok true h => match e δ1 h with
      | .ok y h => if acc.length < 16777216 then go h (acc ++ [y]) else .bad
      | _ => .bad
    | _ => .bad
theorem turn_ok {m : Nat → Addr} {h : VH} {H : Hp} {x : FL.D} {v : V} {acc : List FL.D} {go : VH → List FL.D → Out (List FL.D)} {Nx : Hp → Prop} (h0 : H0 D = none) (a : Acc X.K g m0 n0 H0 D m h H acc) (r : RS X.K m h.length H δ σ) (rx : RD X.K m h.length H x v) (q : FinL X.K g m0 n0 H0 Q (turnL f ft fe own δ x h acc go))
    (hN : ∀ h1 m1 H1 acc1, h.length ≤ h1.length → (∀ k, k < h.length → m1 k = m k) → Imm H H1 → Acc X.K g m0 n0 H0 D m1 h1 H1 acc1 → FinL X.K g m0 n0 H0 Q (go h1 acc1) → Nx H1) :
    rg X.K g own f v (L2.wipe σ own) H fun σ2 H2 => L2.wipe σ2 own = L2.wipe σ own ∧ rt X.K g W0 ft σ2 H2 fun b H3 =>
      if b = true then rd X.K g W0 fe σ2 H3 fun y H4 => ∃ acc, H4 D = some (.lst acc) ∧ acc.length < sizeLine ∧ Nx (upd H4 D (.lst (acc ++ [y]))) else Nx H3 := by
  refine ⟨FL.wipe δ own, m, h, x, r.wipe own, a.sm, rx, ?_⟩
  unfold turnL at q
  cases eg : f x (FL.wipe δ own) h with
  | none => rw [eg] at q; exact q
  | some p =>
    obtain ⟨δ1, h1⟩ := p
    rw [eg] at q
    intro m1 H1 σ1 e1 s1 r1 hw
    have a1 := a.from e1 s1
    refine ⟨hw.trans (wipe_wipe σ own), δ1, m1, h1, r1, s1, ?_⟩
    have q : FinL X.K g m0 n0 H0 Q (match ft δ1 h1 with
      | .ok false h => go h acc
      | .ok true h => match fe δ1 h with
        | .ok y h => if acc.length < 16777216 then go h (acc ++ [y]) else .bad
        | _ => .bad
      | _ => .bad) := q
    cases et : ft δ1 h1 with
    | bad => rw [et] at q; exact q
    | err c p h2 => rw [et] at q; exact q.elim
    | ok b h2 =>
      rw [et] at q
      intro m2 H2 e2 s2
      have a2 := a1.from e2 s2
      have e12 := e1.trans e2
      cases b with
      | false => exact hN h2 m2 H2 acc e12.le e12.eq e12.im a2 q
      | true =>
        show rd X.K g W0 fe _ H2 _
        refine ⟨δ1, m2, h2, e2.rs r1, s2, ?_⟩
        have q : FinL X.K g m0 n0 H0 Q (match fe δ1 h2 with
          | .ok y h => if acc.length < 16777216 then go h (acc ++ [y]) else .bad
          | _ => .bad) := q
        cases ee : fe δ1 h2 with
        | bad => rw [ee] at q; exact q
        | err c p h3 => rw [ee] at q; exact q.elim
        | ok y h3 =>
          rw [ee] at q
          intro m3 H3 e3 s3 w rw'
          have q : FinL X.K g m0 n0 H0 Q (if acc.length < 16777216 then go h3 (acc ++ [y]) else .bad) := q
          have a3 := a2.from e3 s3
          have e := e12.trans e3
          split at q
          · rename_i hz
            obtain ⟨vs, hD, hl, im, a4⟩ := a3.put h0 rw'
            exact ⟨vs, hD, by rw [sizeLine_eq, ← hl]; exact hz, hN h3 m3 _ _ e.le e.eq (e.im.trans im) a4 q⟩
          · exact q.elim
abbrev LcW (K : PySem.W.Frag) (g : Gc) (own : List Nat) (f : FG) (ft : FT) (fe : FE) (J : It) (σ : L2.St) (D : Addr) (Q : VK) (H1 : Hp) : Prop :=
  ∃ W : Nat → Nat → Hp → Prop, (∃ m, W 0 m (upd H1 D (.lst []))) ∧ ∀ i m H, W i m H →
    (J.stop i H ∧ Q (.ref D) H) ∨ (J.go i H ∧ ∃ Nx : Hp → Prop, (∀ H', Nx H' → ∃ m', m' < m ∧ W (i + 1) m' H') ∧ ∀ x H', J.yld i H x H' → rg K g own f x (L2.wipe σ own) H' fun σ2 H2 => L2.wipe σ2 own = L2.wipe σ own ∧ rt K g W0 ft σ2 H2 fun b H3 =>
      if b = true then rd K g W0 fe σ2 H3 fun y H4 => ∃ acc, H4 D = some (.lst acc) ∧ acc.length < sizeLine ∧ Nx (upd H4 D (.lst (acc ++ [y]))) else Nx H3)
theorem Acc.end {K : PySem.W.Frag} {m : Nat → Addr} {h : VH} {H : Hp} {acc : List FL.D} (h0 : H0 D = none) (a : Acc K g m0 n0 H0 D m h H acc) (q : FinL K g m0 n0 H0 Q (.ok acc h)) : FzQ Q (.ref D) H := by
  obtain ⟨vs, hD, r⟩ := a.at_
  refine .lock D (.lst vs) hD trivial fun o => .base ?_
  obtain ⟨im, s⟩ := a.sm.own hD a.nD (.frz o (.lst vs))
  exact q m _ (a.ex.own h0 _) s _ (.fls (.inl ⟨o, upd_same⟩) (RDs.mono (Nat.le_refl _) (fun _ _ => rfl) im _ _ r))
theorem Acc.new {K : PySem.W.Frag} {m : Nat → Addr} {h : VH} {H : Hp} (s : Sim K g m h H) (hD : H D = none) : Imm H (upd H D (.lst [])) ∧ Acc K g m h.length H D m h (upd H D (.lst [])) [] := by
  obtain ⟨e, s'⟩ := s.tup (o := .lst []) hD
  have nD : ∀ k, k < h.length → m k ≠ D := fun k hk z => by
    obtain ⟨u, hu, _⟩ := s.there hk
    rw [z, hD] at hu
    cases hu
  exact ⟨e.im, ⟨e, s', nD, [], upd_same, .nil⟩⟩
theorem lc_tree {J : It} {C : Hp → Prop} {vs : List V} {xs : List FL.D} {m : Nat → Addr} {h : VH} {H : Hp} (T : TreeIt J C vs) (c0 : C H) (hD : H D = none) (r : RS X.K m h.length H δ σ) (s : Sim X.K g m h H) (rx : RDs X.K m h.length H xs vs)
    (q : FinL X.K g m h.length H Q (lcT f ft fe own δ xs h [])) : LcW X.K g own f ft fe J σ D (FzQ Q) H := by
  obtain ⟨i0, a0⟩ := Acc.new (D := D) s hD
  have mo : ∀ {m1 : Nat → Addr} {h1 : VH} {H1 : Hp} {m2 : Nat → Addr} {h2 : VH} {H2 : Hp} {xs : List FL.D} {vs : List V}, h1.length ≤ h2.length → (∀ k, k < h1.length → m2 k = m1 k) → Imm H1 H2 → RDs X.K m1 h1.length H1 xs vs → RDs X.K m2 h2.length H2 xs vs := fun a b c d => RDs.mono a b c _ _ d
  have ms : ∀ {m1 : Nat → Addr} {h1 : VH} {H1 : Hp} {m2 : Nat → Addr} {h2 : VH} {H2 : Hp}, h1.length ≤ h2.length → (∀ k, k < h1.length → m2 k = m1 k) → Imm H1 H2 → RS X.K m1 h1.length H1 δ σ → RS X.K m2 h2.length H2 δ σ := fun a b c r => ⟨r.1, fun i d hd => let ⟨v, h1, h2⟩ := r.2 i d hd; ⟨v, h1, RD.mono a b c _ _ h2⟩⟩
  refine ⟨fun i c H1 => ∃ m1 h1 rest acc, C H1 ∧ RS X.K m1 h1.length H1 δ σ ∧ Acc X.K g m h.length H D m1 h1 H1 acc ∧ RDs X.K m1 h1.length H1 rest (vs.drop i) ∧ c = rest.length ∧ FinL X.K g m h.length H Q (lcT f ft fe own δ rest h1 acc), ⟨_, m, h, xs, [], T.st _ _ i0 c0, ms (Nat.le_refl _) (fun _ _ => rfl) i0 r, a0, mo (Nat.le_refl _) (fun _ _ => rfl) i0 rx, rfl, q⟩, ?_⟩
  rintro i c H1 ⟨m1, h1, rest, acc, hc, r, a, rx, rfl, q⟩
  cases rest with
  | nil =>
    have hl := rx.length
    rw [List.length_drop] at hl
    exact .inl ⟨T.stop i H1 hc (by simp at hl; omega), a.end hD q⟩
  | cons x rest =>
    have hi : ∃ v, vs[i]? = some v ∧ RD X.K m1 h1.length H1 x v ∧ RDs X.K m1 h1.length H1 rest (vs.drop (i + 1)) := by
      have hl := rx.length
      rw [List.length_drop] at hl
      have hlt : i < vs.length := by simp at hl; omega
      rw [List.drop_eq_getElem_cons hlt] at rx
      cases rx with
      | cons r1 r2 => exact ⟨vs[i], by simp [hlt], r1, r2⟩
    obtain ⟨v, hv, r1, r2⟩ := hi
    refine .inr ⟨T.go i H1 v hc hv, _, fun H' z => ⟨rest.length, by simp, z⟩, fun y H' hy => ?_⟩
    obtain ⟨e1, e2⟩ := T.yld i H1 y H' v hc hy hv
    subst e1
    subst e2
    refine turn_ok hD a r r1 (go := lcT f ft fe own δ rest) q fun h2 m2 H2 acc2 e1 e2 e3 a2 q2 => ?_
    exact ⟨m2, h2, rest, acc2, T.st _ _ e3 hc, ms e1 e2 e3 r, a2, mo e1 e2 e3 r2, rfl, q2⟩
theorem lc_live {j n : Nat} {m : Nat → Addr} {h : VH} {H : Hp} (hj : j < h.length) (hD : H D = none) (r : RS X.K m h.length H δ σ) (s : Sim X.K g m h H)
    (q : FinL X.K g m h.length H Q (lcL j f ft fe own δ n 0 h [])) : LcW X.K g own f ft fe (Itl X.K (m j)) σ D (FzQ Q) H := by
  obtain ⟨i0, a0⟩ := Acc.new (D := D) s hD
  have ms : ∀ {m1 : Nat → Addr} {h1 : VH} {H1 : Hp} {m2 : Nat → Addr} {h2 : VH} {H2 : Hp}, h1.length ≤ h2.length → (∀ k, k < h1.length → m2 k = m1 k) → Imm H1 H2 → RS X.K m1 h1.length H1 δ σ → RS X.K m2 h2.length H2 δ σ := fun a b c r => ⟨r.1, fun i d hd => let ⟨v, h1, h2⟩ := r.2 i d hd; ⟨v, h1, RD.mono a b c _ _ h2⟩⟩
  refine ⟨fun i c H1 => ∃ m1 h1 acc, j < h1.length ∧ m1 j = m j ∧ RS X.K m1 h1.length H1 δ σ ∧ Acc X.K g m h.length H D m1 h1 H1 acc ∧ FinL X.K g m h.length H Q (lcL j f ft fe own δ c i h1 acc), ⟨n, m, h, [], hj, rfl, ms (Nat.le_refl _) (fun _ _ => rfl) i0 r, a0, q⟩, ?_⟩
  rintro i c H1 ⟨m1, h1, acc, hj1, hmj, r, a, q⟩
  cases c with
  | zero => exact q.elim
  | succ c =>
    unfold lcL at q
    split at q
    · rename_i xs hx
      obtain ⟨_, vs, a1, b1⟩ := a.sm.lst hx
      rw [hmj] at a1
      cases hxi : xs[i]? with
      | none =>
        rw [hxi] at q
        have hl := b1.length
        have : xs.length ≤ i := List.getElem?_eq_none_iff.mp hxi
        exact .inl ⟨⟨vs, .of a1, by omega⟩, a.end hD q⟩
      | some x =>
        rw [hxi] at q
        obtain ⟨v, hv, r1⟩ := b1.get hxi
        refine .inr ⟨⟨vs, v, .of a1, hv⟩, _, fun H' z => ⟨c, Nat.lt_succ_self _, z⟩, fun y H' hy => ?_⟩
        obtain ⟨e1, e2⟩ := hy
        subst e1
        have e3 := e2 vs (.of a1)
        rw [hv] at e3
        cases e3
        refine turn_ok hD a r r1 (go := lcL j f ft fe own δ c (i + 1)) q fun h2 m2 H2 acc2 e1 e2 e3 a2 q2 => ?_
        exact ⟨m2, h2, acc2, Nat.lt_of_lt_of_le hj1 e1, (e2 j hj1).trans hmj, ms e1 e2 e3 r, a2, q2⟩
    · exact q.elim
end

section
variable {X : Cx} {g : Gc} {W : WX} {f : FG} {ft : FT} {fe fa : FE} {sl : List Nat} {elt tg iter : Expr} {ifs : List Expr} {scope : Scope} {own : List (Str × Nat)} {pos spos py : Pos} {r : FA}
theorem fts_nil {X : Cx} : PTs X [] (rt X.K g W tYes) := ⟨fun pins s σ H Q I h => by
  obtain ⟨δ, m, vh, rr, sm, q⟩ := h
  exact pts_nil.run pins s σ H Q I (q m H Ext.refl sm)⟩
theorem fts_one {X : Cx} {c : Expr} (h : PT X c (rt X.K g W ft)) : PTs X [c] (rt X.K g W ft) := pts_one h
/-- what the parts of a comprehension are -/
structure LcP (X : Cx) (g : Gc) (elt tg : Expr) (ifs : List Expr) (scope : Scope) (own : List (Str × Nat)) (f : FG) (ft : FT) (fe : FE) : Prop where
  ok : BlkOk X.N X.env.scope scope own
  hg : ∀ (s : Shared) (H : Hp) (C : Addr) (cl : List (Str × Addr)) (fp : List Addr), PG (X.blk s H scope (compEnvC scope cl C X.env) fp) tg (rg X.K g (own.map (·.2)) f)
  ht : ∀ (s : Shared) (H : Hp) (C : Addr) (cl : List (Str × Addr)) (fp : List Addr), PTs (X.blk s H scope (compEnvC scope cl C X.env) fp) ifs (rt X.K g W0 ft)
  he : ∀ (s : Shared) (H : Hp) (C : Addr) (cl : List (Str × Addr)) (fp : List Addr), PE (X.blk s H scope (compEnvC scope cl C X.env) fp) elt (rd X.K g W0 fe)
theorem rd_lc : ∀ σ H Q, rd X.K g W (FL.eLc fa f ft fe sl) σ H Q →
    tLc (fun σ H R => ((iList X.K (rd X.K g W fa) σ H R ∨ iTup X.K (rd X.K g W fa) σ H R) ∨ iStr (rd X.K g W fa) σ H R) ∨ iKeys (rd X.K g W fa) σ H R) (rg X.K g sl f) (rt X.K g W0 ft) (rd X.K g W0 fe) sl σ H (FzQ Q) := by
  rintro σ H Q ⟨δ, m, h, r, s, q⟩
  have q : GoodE X.K g (fun c d H' => W c d σ H') m h.length H Q ((fa δ h).bind fun x h => lcX f ft fe sl δ x h) := q
  show ((iList X.K (rd X.K g W fa) σ H _ ∨ iTup X.K (rd X.K g W fa) σ H _) ∨ iStr (rd X.K g W fa) σ H _) ∨ iKeys (rd X.K g W fa) σ H _
  cases ea : fa δ h with
  | bad => rw [ea] at q; exact q.elim
  | err c p h1 =>
    rw [ea] at q
    refine .inl (.inr ⟨δ, m, h, r, s, ?_⟩)
    rw [ea]
    exact q
  | ok d h1 =>
    have go : ∀ {R : V → Hp → Prop}, (∀ m1 H1 v, Ext m h.length H m1 h1.length H1 → Sim X.K g m1 h1 H1 → RD X.K m1 h1.length H1 d v → GoodE X.K g (fun c d H' => W c d σ H') m1 h1.length H1 Q (lcX f ft fe sl δ d h1) → R v H1) → rd X.K g W fa σ H R := fun {R} hR => by
      refine ⟨δ, m, h, r, s, ?_⟩
      rw [ea] at q ⊢
      have q : GoodE X.K g (fun c d H' => W c d σ H') m h.length H Q (lcX f ft fe sl δ d h1) := q
      exact fun m1 H1 e1 s1 v r1 => hR m1 H1 v e1 s1 r1 (Gd.from e1 q)
    have fin : ∀ {m1 : Nat → Addr} {H1 : Hp} {o : Out (List FL.D)}, GoodE X.K g (fun c d H' => W c d σ H') m1 h1.length H1 Q (lcEnd o) → FinL X.K g m1 h1.length H1 Q o := fun {m1 H1 o} z => by
      cases o with
      | ok xs h' => exact z
      | _ => exact z
    cases d with
    | tup xs =>
      refine .inl (.inl (.inr (go fun m1 H1 v e1 s1 r1 q1 => ?_)))
      cases r1 with
      | tup h2 h3 => exact ⟨_, rfl, ⟨_, h2.sq⟩, fun D hD => lc_tree tree_tup h2 hD (e1.rs r) s1 h3 (fin q1)⟩
    | fls xs =>
      refine .inl (.inl (.inl (go fun m1 H1 v e1 s1 r1 q1 => ?_)))
      cases r1 with
      | fls h2 h3 => exact ⟨_, rfl, ⟨_, h2.seq⟩, fun D hD => lc_tree tree_fls h2 hD (e1.rs r) s1 h3 (fin q1)⟩
    | str l =>
      refine .inl (.inr (go fun m1 H1 v e1 s1 r1 q1 => ?_))
      cases r1 with
      | str h2 => exact ⟨_, rfl, fun D hD => lc_tree tree_str trivial hD (e1.rs r) s1 (sign_rel h2) (fin q1)⟩
    | fdc ks vs =>
      refine .inr (go fun m1 H1 v e1 s1 r1 q1 => ?_)
      cases r1 with
      | fdc h1 h2 h3 h4 =>
        subst h2
        exact ⟨_, _, rfl, .inl ⟨_, h1, fun D hD => lc_tree tree_keys h1 hD (e1.rs r) s1 (keys_rel h3) (fin q1)⟩⟩
    | ref k =>
      refine .inl (.inl (.inl (go fun m1 H1 v e1 s1 r1 q1 => ?_)))
      cases r1 with
      | ref hk =>
        have q1 : GoodE X.K g (fun c d H' => W c d σ H') m1 h1.length H1 Q (match h1[k]? with
          | some (.lst xs) => lcEnd (lcL k f ft fe sl δ (xs.length + 1) 0 h1 [])
          | _ => .bad) := q1
        split at q1
        · rename_i xs hx
          obtain ⟨_, vs, a1, b1⟩ := s1.lst hx
          exact ⟨_, rfl, ⟨vs, .of a1⟩, fun D hD => lc_live hk hD (e1.rs r) s1 (fin q1)⟩
        · exact q1.elim
    | _ =>
      refine .inl (.inr (go fun m1 H1 v e1 s1 r1 q1 => ?_))
      exact q1.elim
/-- [elt for tg in iter if ..] -/
theorem fe_lc (hc : X.calm = true) (hN : X.N.Nodup) (ha : PE X iter (rd X.K g W fa)) (P : LcP X g elt tg ifs scope own f ft fe) (hsl : own.map (·.2) = sl := by rfl) (hs : ∀ x, foldedSetIterable iter X.env x = pure x := by intro _; rfl) :
    PE X (.ListComp elt [⟨tg, iter, ifs, 0⟩] scope pos) (rd X.K g W (FL.eLc fa f ft fe sl)) := by
  subst hsl
  exact pe_weak (pe_fz (pe_lc hc hN (pi_or (pi_or (pi_or (pi_list ha) (pi_tup ha)) (pi_str ha)) (pi_keys ha)) P.ok P.hg P.ht P.he hs)) rd_lc
/-- y = [..] on one line -/
theorem fs_setLc {i : Nat} {y : Str} (hc : X.calm = true) (hN : X.N.Nodup) (hy : X.N[i]? = some y) (hyl : X.env.scope.names.lookup y = some .local) (hsw : swapsWith (.ListComp elt [⟨tg, iter, ifs, 0⟩] scope pos) (some (.Name y py)) spos.line X.env = pure true)
    (ha : PE X iter (rd X.K g W fa)) (P : LcP X g elt tg ifs scope own f ft fe) (hsl : own.map (·.2) = sl := by rfl) (hs : ∀ x, foldedSetIterable iter X.env x = pure x := by intro _; rfl) :
    PS X (.Assign [.Name y py] (.ListComp elt [⟨tg, iter, ifs, 0⟩] scope pos) spos) (rs X.K g W (FL.sAs (FL.eLc fa f ft fe sl) (gN i))) := by
  subst hsl
  exact ps_weak (ps_fz (ps_setLc hc hN hy hyl hsw (pi_or (pi_or (pi_or (pi_list ha) (pi_tup ha)) (pi_str ha)) (pi_keys ha)) P.ok P.hg P.ht P.he hs)) (fun D σ H q => rs_set (te := fun σ H Q => tLc _ _ _ _ _ σ H (FzQ Q)) rd_lc D σ H q)
/-- over a range -/
theorem lc_rng {δ : DS} {σ : L2.St} {m : Nat → Addr} {h : VH} {H : Hp} {n : Nat} {Q : VK} (hn : ALen r n) (rr : RS X.K m h.length H δ σ) (s : Sim X.K g m h H) (q : GoodE X.K g (fun c d H' => W c d σ H') m h.length H Q (FL.eLcR r f ft fe sl δ h)) {R : List V → Hp → Prop}
    (hR : ∀ xs vs h1 m1 H1 i j, Ext m h.length H m1 h1.length H1 → Sim X.K g m1 h1 H1 → RDs X.K m1 h1.length H1 xs vs → xs.length = n → rEnds xs = some (i, j) → (∀ D, H1 D = none → LcW X.K g sl f ft fe (Itr i (j - i).toNat) σ D (FzQ Q) H1) → R vs H1) : FL.ra X.K g W r σ H R := by
  refine ⟨δ, m, h, rr, s, ?_⟩
  have q : GoodE X.K g (fun c d H' => W c d σ H') m h.length H Q ((r δ h).bind fun xs h => match rEnds xs with
    | some (i, j) => lcEnd (lcT f ft fe sl δ (rng i j) h [])
    | none => .bad) := q
  cases er : r δ h with
  | bad => rw [er] at q; exact q
  | err c p h1 => rw [er] at q; exact q
  | ok xs h1 =>
    rw [er] at q
    intro m1 H1 e1 s1 vs r1
    have q : GoodE X.K g (fun c d H' => W c d σ H') m h.length H Q (match rEnds xs with
      | some (i, j) => lcEnd (lcT f ft fe sl δ (rng i j) h1 [])
      | none => .bad) := q
    cases ee : rEnds xs with
    | none => rw [ee] at q; exact q.elim
    | some p =>
      obtain ⟨i, j⟩ := p
      rw [ee] at q
      refine hR xs vs h1 m1 H1 i j e1 s1 r1 (hn _ _ _ _ er) ee fun D hD => lc_tree tree_rng trivial hD (e1.rs rr) s1 (rng_rel i _) ?_
      have q : GoodE X.K g (fun c d H' => W c d σ H') m h.length H Q (lcEnd (lcT f ft fe sl δ (rng i j) h1 [])) := q
      have q2 := Gd.from e1 q
      cases eo : lcT f ft fe sl δ (rng i j) h1 [] with
      | ok xs h2 =>
        rw [eo] at q2
        show GoodE _ _ _ _ _ _ _ (lcEnd (lcT f ft fe sl δ (rng i j) h1 []))
        rw [eo]
        exact q2
      | _ => rw [eo] at q2; exact q2.elim
variable {a b : Expr}
theorem rd_lcR1 (hn : ALen r 1) : ∀ σ H Q, rd X.K g W (FL.eLcR r f ft fe sl) σ H Q → tLc (iRng1 (FL.ra X.K g W r)) (rg X.K g sl f) (rt X.K g W0 ft) (rd X.K g W0 fe) sl σ H (FzQ Q) := by
  rintro σ H Q ⟨δ, m, h, rr, s, q⟩
  refine lc_rng hn rr s q fun xs vs h1 m1 H1 i j e1 s1 r1 hl ee w => ?_
  obtain ⟨e2, e3, e4, e5⟩ := rEnds1 r1 ee hl
  subst e3
  exact ⟨j, e2, e4, e5, fun D hD => by simpa using w D hD⟩
theorem rd_lcR2 (hn : ALen r 2) : ∀ σ H Q, rd X.K g W (FL.eLcR r f ft fe sl) σ H Q → tLc (iRng2 (FL.ra X.K g W r)) (rg X.K g sl f) (rt X.K g W0 ft) (rd X.K g W0 fe) sl σ H (FzQ Q) := by
  rintro σ H Q ⟨δ, m, h, rr, s, q⟩
  refine lc_rng hn rr s q fun xs vs h1 m1 H1 i j e1 s1 r1 hl ee w => ?_
  obtain ⟨e2, e3⟩ := rEnds2 r1 ee hl
  exact ⟨i, j, e2, e3, w⟩
theorem fe_lcR1 {p pos' : Pos} (hc : X.calm = true) (hN : X.N.Nodup) (hm : X.mg "range" = none) (ha : PA X [a] (FL.ra X.K g W r)) (hn : ALen r 1) (P : LcP X g elt tg ifs scope own f ft fe) (hsl : own.map (·.2) = sl := by rfl) (hgl : Gl X "range" := by rfl) (hst : starEach [a] X.env = [(false, eval a X.env)] := by rfl)
    (hs : ∀ x, foldedSetIterable (.Call (.Name "range" p) [a] [] pos') X.env x = pure x := by intro _; rfl) : PE X (.ListComp elt [⟨tg, .Call (.Name "range" p) [a] [] pos', ifs, 0⟩] scope pos) (rd X.K g W (FL.eLcR r f ft fe sl)) := by
  subst hsl
  exact pe_weak (pe_fz (pe_lc hc hN (pi_range1 hgl hm ha hst) P.ok P.hg P.ht P.he hs)) (rd_lcR1 hn)
theorem fe_lcR2 {p pos' : Pos} (hc : X.calm = true) (hN : X.N.Nodup) (hm : X.mg "range" = none) (ha : PA X [a, b] (FL.ra X.K g W r)) (hn : ALen r 2) (P : LcP X g elt tg ifs scope own f ft fe) (hsl : own.map (·.2) = sl := by rfl) (hgl : Gl X "range" := by rfl) (hst : starEach [a, b] X.env = [(false, eval a X.env), (false, eval b X.env)] := by rfl)
    (hst2 : starEach [b] X.env = [(false, eval b X.env)] := by rfl) (hs : ∀ x, foldedSetIterable (.Call (.Name "range" p) [a, b] [] pos') X.env x = pure x := by intro _; rfl) : PE X (.ListComp elt [⟨tg, .Call (.Name "range" p) [a, b] [] pos', ifs, 0⟩] scope pos) (rd X.K g W (FL.eLcR r f ft fe sl)) := by
  subst hsl
  exact pe_weak (pe_fz (pe_lc hc hN (pi_range2 hgl hm ha hst hst2) P.ok P.hg P.ht P.he hs)) (rd_lcR2 hn)
end
end FL
set_option Elab.async false
set_option linter.all false
set_option maxRecDepth 100000
set_option maxHeartbeats 2000000
/-! FL10: defs, own errors, try, lambdas handed to a def. -/
namespace FL
open PySem PySem.Spec PyProof.Rows L2

/-! ### defs -/
theorem spF_len {K : PySem.W.Frag} {g : Gc} {np n : Nat} {b : FSt} {vs : List V} {H : Hp} {Q : VK} {E : XK} (h : spF K g (runF np n b) vs H Q E) : vs.length = np := by
  obtain ⟨m, h, xs, s, r, q⟩ := h
  unfold runF at q
  split at q
  · rename_i hl
    rw [← hl, r.length]
  · exact q.elim
/-- a body's end -/
theorem GoodS.ofF {K : PySem.W.Frag} {g : Gc} {m : Nat → Addr} {n : Nat} {H : Hp} {Q : VK} {E : XK} {o : OutS} (q : GoodE K g (fun c d H' => E c d H') m n H Q (endF o)) : GoodS K g (fun c d _ H' => E c d H') m n H { nx := fun _ H' => Q .non H', rt := Q } o := by
  cases o with
  | nx δ h => exact fun m' H' σ e s r => q m' H' e s _ .non
  | ret d h => exact fun m' H' v e s r => q m' H' e s v r
  | brk d h => exact q.elim
  | ct d h => exact q.elim
  | err c p d h => exact fun m' H' σ cls dd e s r x => q m' H' cls dd e s x
  | bad => exact q.elim
theorem rs_run {K : PySem.W.Frag} {g : Gc} {np : Nat} {N : List Str} {b : FSt} {vs : List V} {H : Hp} {Q : VK} {E : XK} (h : spF K g (runF np N.length b) vs H Q E) :
    rs K g (fun c d _ H' => E c d H') b { nx := fun _ H' => Q .non H', rt := Q } (start N vs) H := by
  obtain ⟨m, h, xs, s, r, q⟩ := h
  unfold runF at q
  split at q
  · exact ⟨_, m, h, RS.start r, s, GoodS.ofF q⟩
  · exact q.elim
section
variable {P : Program} {w : World} {K : PySem.W.Frag} {mg : Str → Option Value} {base : Heap} {g : Gc} {k : Nat} {x : Str} {F F' : List D → VH → Out D}
theorem Df.mkD {st : Stmt} {f : Addr} {fd : FuncData} {N ps : List Str} {sb : FSt} (Fn : L2.Fun K x x st f fd) (S : FnScope N ps (defScope st)) (hm : mg x = some (.ref f)) (hb : Binds K fd ps [])
    (body : ∀ (cdv : Value) (A : Around) (outer : List Env) (s : Shared) (H : Hp) (E : XK), Room k (A.deeper (envOfC x (defScope st) s.heap.objs.size f cdv)) →
      PSs (cxOf (L2.CX P w) P w K mg base N x (defScope st) f cdv A outer s H E) (defBody st) (rs K g (fun c d _ H' => E c d H') sb)) : Df P w K mg base g (k + 1) x (runF ps.length N.length sb) :=
  ⟨f, fd, ps, hm, Fn.kp, hb, Fn.okX S (fun vs H Q E h => spF_len h) fun cdv A outer s H vs Q E hr h => ⟨_, body cdv A outer s H E hr, rs_run h⟩⟩
/-- its code object known -/
theorem Df.mkC {qual : Str} {f c : Addr} {params : Arguments} {bd : List Stmt} {scope : Scope} {dV kV doc pm ct oc : Value} {an od : Option Addr} {osl : Array (Option Value)} {N ps : List Str} {sb : FSt}
    (lk : K.lookup f = some ⟨oc, od, .func (PySem.W.fnOf x qual params bd scope dV kV doc pm an (.ref c) ct), osl⟩) (hcd : PySem.W.codeIn K (.ref c) qual = true) (S : FnScope N ps scope) (hm : mg x = some (.ref f)) (hk : PySem.W.keepIn K (.ref f) = true) (hb : Binds K (PySem.W.fnOf x qual params bd scope dV kV doc pm an (.ref c) ct) ps [])
    (body : ∀ (A : Around) (outer : List Env) (s : Shared) (H : Hp) (E : XK), Room k (A.deeper (envOfC qual scope s.heap.objs.size f (.ref c))) →
      PSs (cxOf (L2.CX P w) P w K mg base N qual scope f (.ref c) A outer s H E) bd (rs K g (fun c d _ H' => E c d H') sb)) : Df P w K mg base g (k + 1) x (runF ps.length N.length sb) :=
  ⟨f, _, ps, hm, hk, hb, fn_of lk hcd S (fun vs H Q E h => spF_len h) fun A outer s H vs Q E hr h => ⟨_, body A outer s H E hr, rs_run h⟩⟩
theorem FnOk.impS {CX : CXT} {f : Addr} {fd : FuncData} {ps : List Str} {sp sp' : Sp} (o : FnOk P w K mg base CX k f fd ps sp) (h : ∀ vs H Q E, sp' vs H Q E → sp vs H Q E) : FnOk P w K mg base CX k f fd ps sp' :=
  ⟨fun vs H Q E q => o.len _ _ _ _ (h _ _ _ _ q), fun A outer s H args us vs Q E hr e0 hb r q => o.run A outer s H args us vs Q E hr e0 hb r (h _ _ _ _ q)⟩
theorem Df.imp (d : Df P w K mg base g k x F) (h : ∀ vs H Q E, spF K g F' vs H Q E → spF K g F vs H Q E) : Df P w K mg base g k x F' := by
  obtain ⟨f, fd, ps, h1, h2, h3, h4⟩ := d.ex
  exact ⟨f, fd, ps, h1, h2, h3, FL.FnOk.impS h4 h⟩
theorem Df.mono (d : Df P w K mg base g k x F) {j : Nat} (h : k ≤ j) : Df P w K mg base g j x F := by
  obtain ⟨f, fd, ps, h1, h2, h3, h4⟩ := d.ex
  exact ⟨f, fd, ps, h1, h2, h3, h4.mono h⟩
/-- nothing is promised -/
theorem Df.bot {st : Stmt} {f : Addr} {fd : FuncData} {ps : List Str} (Fn : L2.Fun K x x st f fd) (hm : mg x = some (.ref f)) (hb : Binds K fd ps []) : Df P w K mg base g k x (fun _ _ => .bad) :=
  ⟨f, fd, ps, hm, Fn.kp, hb, ⟨fun vs H Q E ⟨m, h, xs, s, r, q⟩ => q.elim, fun A outer s H args us vs Q E hr e0 hb r ⟨m, h, xs, s, r', q⟩ => q.elim⟩⟩
end

/-! ### what is left of the new objects -/
mutual
/-- each object in d is one of the first n -/
def bnd (n : Nat) : D → Bool
  | .ref k => decide (k < n)
  | .tup xs => bnds n xs
  | .fls xs => bnds n xs
  | .fdc _ vs => bnds n vs
  | _ => true
def bnds (n : Nat) : List D → Bool
  | [] => true
  | x :: xs => bnd n x && bnds n xs
end
mutual
/-- the objects' numbers changed -/
def ren (ρ : Nat → Nat) : D → D
  | .ref k => .ref (ρ k)
  | .tup xs => .tup (rens ρ xs)
  | .fls xs => .fls (rens ρ xs)
  | .fdc ks vs => .fdc ks (rens ρ vs)
  | .non => .non
  | .bl b => .bl b
  | .int i => .int i
  | .str s => .str s
  | .ty n => .ty n
  | .adr a => .adr a
def rens (ρ : Nat → Nat) : List D → List D
  | [] => []
  | x :: xs => ren ρ x :: rens ρ xs
end
def bndO (n : Nat) : O → Bool
  | .lst xs => bnds n xs
  | .dct kvs => kvs.all fun p => bnd n p.2
  | .ins _ fs => fs.all fun p => bnd n p.2
def renO (ρ : Nat → Nat) : O → O
  | .lst xs => .lst (rens ρ xs)
  | .dct kvs => .dct (kvs.map fun p => (p.1, ren ρ p.2))
  | .ins c fs => .ins c (fs.map fun p => (p.1, ren ρ p.2))
section
variable {K : PySem.W.Frag} {m : Nat → Addr} {n n2 : Nat} {H : Hp} {ρ : Nat → Nat}
mutual
theorem RD.ren : ∀ (d : D) (v : V), bnd n2 d = true → RD K m n H (FL.ren ρ d) v → RD K (fun k => m (ρ k)) n2 H d v
  | .non, _, _, h => by unfold FL.ren at h; cases h; exact .non
  | .bl _, _, _, h => by unfold FL.ren at h; cases h; exact .bl _
  | .int _, _, _, h => by unfold FL.ren at h; cases h; exact .int _
  | .str _, _, _, h => by unfold FL.ren at h; cases h with | str hl => exact .str hl
  | .tup xs, _, b, h => by
    unfold FL.ren at h
    unfold bnd at b
    cases h with
    | tup h1 h2 => exact .tup h1 (RDs.ren xs _ b h2)
  | .fls xs, _, b, h => by
    unfold FL.ren at h
    unfold bnd at b
    cases h with
    | fls h1 h2 => exact .fls h1 (RDs.ren xs _ b h2)
  | .fdc ks xs, _, b, h => by
    unfold FL.ren at h
    unfold bnd at b
    cases h with
    | fdc h1 h2 h3 h4 => exact .fdc h1 h2 h3 (RDs.ren xs _ b h4)
  | .ref k, _, b, h => by
    unfold FL.ren at h
    unfold bnd at b
    cases h with
    | ref hk => exact RD.ref (m := fun k => m (ρ k)) (of_decide_eq_true b)
  | .ty _, _, _, h => by unfold FL.ren at h; cases h; exact .ty _
  | .adr _, _, _, h => by unfold FL.ren at h; cases h; exact .adr _
theorem RDs.ren : ∀ (d : List D) (v : List V), bnds n2 d = true → RDs K m n H (rens ρ d) v → RDs K (fun k => m (ρ k)) n2 H d v
  | [], _, _, h => by unfold rens at h; cases h; exact .nil
  | x :: xs, _, b, h => by
    unfold rens at h
    unfold bnds at b
    rw [Bool.and_eq_true] at b
    cases h with
    | cons h1 h2 => exact .cons (RD.ren x _ b.1 h1) (RDs.ren xs _ b.2 h2)
end
theorem RKs.ren : ∀ (d : List (D × D)) (v : List (Key × V)), (d.all fun p => bnd n2 p.2) = true → RKs K m n H (d.map fun p => (p.1, FL.ren ρ p.2)) v → RKs K (fun k => m (ρ k)) n2 H d v
  | [], _, _, h => by cases h; exact .nil
  | (a, x) :: xs, _, b, h => by
    rw [List.all_cons, Bool.and_eq_true] at b
    rw [List.map_cons] at h
    cases h with
    | cons h0 h1 h2 => exact .cons h0 (RD.ren x _ b.1 h1) (RKs.ren xs _ b.2 h2)
theorem RFs.ren : ∀ (d : List (Str × D)) (v : List (Str × V)), (d.all fun p => bnd n2 p.2) = true → RFs K m n H (d.map fun p => (p.1, FL.ren ρ p.2)) v → RFs K (fun k => m (ρ k)) n2 H d v
  | [], _, _, h => by cases h; exact .nil
  | (a, x) :: xs, _, b, h => by
    rw [List.all_cons, Bool.and_eq_true] at b
    rw [List.map_cons] at h
    cases h with
    | cons h1 h2 => exact .cons (RD.ren x _ b.1 h1) (RFs.ren xs _ b.2 h2)
theorem RO.ren {g : Gc} {a : Addr} : ∀ (o : O), bndO n2 o = true → RO K g m n H a (renO ρ o) → RO K g (fun k => m (ρ k)) n2 H a o
  | .lst xs, b, ⟨vs, h1, h2⟩ => ⟨vs, h1, RDs.ren _ _ b h2⟩
  | .dct kvs, b, ⟨vs, h1, h2⟩ => ⟨vs, h1, RKs.ren _ _ b h2⟩
  | .ins c fs, b, ⟨C, dx, vs, h0, h1, h2⟩ => ⟨C, dx, vs, h0, h1, RFs.ren _ _ b h2⟩
end
/-- from the heap h1 a part is kept, the heap h2: ρ tells where its objects stood -/
structure Kept (n : Nat) (ρ : Nat → Nat) (h1 h2 : VH) : Prop where
  lo : ∀ k, k < n → ρ k = k
  hi : ∀ k, n ≤ k → n ≤ ρ k
  lt : ∀ i, i < h2.length → ρ i < h1.length
  inj : ∀ i j, i < h2.length → j < h2.length → ρ i = ρ j → i = j
  ob : ∀ i o, h2[i]? = some o → h1[ρ i]? = some (renO ρ o) ∧ bndO h2.length o = true
  le : n ≤ h2.length
theorem Sim.kept {K : PySem.W.Frag} {g : Gc} {m : Nat → Addr} {h1 h2 : VH} {H : Hp} {n : Nat} {ρ : Nat → Nat} (k : Kept n ρ h1 h2) (s : Sim K g m h1 H) : Sim K g (fun i => m (ρ i)) h2 H :=
  ⟨fun i j hi hj e => k.inj i j hi hj (s.inj _ _ (k.lt i hi) (k.lt j hj) e), fun i o hi => RO.ren o (k.ob i o hi).2 (s.obj _ _ (k.ob i o hi).1), s.tab⟩
/-- the outcome o2 tells what o1 tells, with fewer new objects -/
inductive Cl (n : Nat) : Out D → Out D → Prop
  | ok {ρ : Nat → Nat} {d : D} {h1 h2 : VH} : Kept n ρ h1 h2 → bnd h2.length d = true → Cl n (.ok (ren ρ d) h1) (.ok d h2)
  | err {ρ : Nat → Nat} {c : Nat} {p : Option D} {h1 h2 : VH} : Kept n ρ h1 h2 → (p.all fun d => bnd h2.length d) = true → Cl n (.err c (p.map (ren ρ)) h1) (.err c p h2)
  | bad {o : Out D} : Cl n o .bad
theorem Ext.kept {m m' : Nat → Addr} {H H' : Hp} {h1 h2 : VH} {n : Nat} {ρ : Nat → Nat} (k : Kept n ρ h1 h2) (e : Ext m n H m' h1.length H') : Ext m n H (fun i => m' (ρ i)) h2.length H' :=
  ⟨k.le, fun i hi => by
    show m' (ρ i) = m i
    rw [k.lo i hi]
    exact e.eq i hi, e.im, e.fr, fun i h1 h2 => e.nw _ (k.hi i h1) (k.lt i h2), e.al⟩
theorem Gd.cl {K : PySem.W.Frag} {g : Gc} {W : Value → Option Addr → Hp → Prop} {m : Nat → Addr} {n : Nat} {H : Hp} {Q : VK} {o1 o2 : Out D} (c : Cl n o1 o2) (q : GoodE K g W m n H Q o2) : GoodE K g W m n H Q o1 := by
  cases c with
  | ok k b => exact fun m' H' e s v r => q _ H' (e.kept k) (s.kept k) v (RD.ren _ _ b r)
  | err k b =>
    rename_i p h1 h2
    intro m' H' cls dd e s rx
    refine q _ H' cls dd (e.kept k) (s.kept k) ?_
    obtain ⟨C, hC, e1, e2, e3⟩ := rx
    refine ⟨C, hC, e1, fun d hd => ?_, fun hp => e3 (by rw [hp]; rfl)⟩
    subst hd
    obtain ⟨a, v, e4, e5, e6⟩ := e2 _ rfl
    exact ⟨a, v, e4, e5, RD.ren _ _ b e6⟩
  | bad => exact q.elim
/-- a heap whose objects hold only its own -/
def wf (h : VH) : Prop := ∀ o ∈ h, bndO h.length o = true
section
variable {K : PySem.W.Frag} {m : Nat → Addr} {n : Nat} {H : Hp}
mutual
theorem RD.bnd : ∀ (d : D) (v : V), RD K m n H d v → FL.bnd n d = true
  | .non, _, _ => rfl
  | .bl _, _, _ => rfl
  | .int _, _, _ => rfl
  | .str _, _, _ => rfl
  | .tup xs, _, h => by
    cases h with
    | tup h1 h2 => unfold FL.bnd; exact RDs.bnds xs _ h2
  | .fls xs, _, h => by
    cases h with
    | fls h1 h2 => unfold FL.bnd; exact RDs.bnds xs _ h2
  | .fdc ks xs, _, h => by
    cases h with
    | fdc h1 h2 h3 h4 => unfold FL.bnd; exact RDs.bnds xs _ h4
  | .ref k, _, h => by
    cases h with
    | ref hk => unfold FL.bnd; exact decide_eq_true hk
  | .ty _, _, _ => rfl
  | .adr _, _, _ => rfl
theorem RDs.bnds : ∀ (d : List D) (v : List V), RDs K m n H d v → FL.bnds n d = true
  | [], _, _ => rfl
  | x :: xs, _, h => by
    cases h with
    | cons h1 h2 =>
      unfold FL.bnds
      rw [RD.bnd x _ h1, RDs.bnds xs _ h2] <;> rfl
end
theorem RKs.bnds : ∀ {d : List (D × D)} {v : List (Key × V)}, RKs K m n H d v → (d.all fun p => FL.bnd n p.2) = true
  | _, _, .nil => rfl
  | _, _, .cons h0 h1 h2 => by
    rw [List.all_cons, RD.bnd _ _ h1, RKs.bnds h2] <;> rfl
theorem RFs.bnds : ∀ {d : List (Str × D)} {v : List (Str × V)}, RFs K m n H d v → (d.all fun p => FL.bnd n p.2) = true
  | _, _, .nil => rfl
  | _, _, .cons h1 h2 => by
    rw [List.all_cons, RD.bnd _ _ h1, RFs.bnds h2] <;> rfl
theorem RO.bnd {g : Gc} {a : Addr} : ∀ {o : O}, RO K g m n H a o → bndO n o = true
  | .lst xs, ⟨vs, h1, h2⟩ => RDs.bnds _ _ h2
  | .dct kvs, ⟨vs, h1, h2⟩ => RKs.bnds h2
  | .ins c fs, ⟨C, dx, vs, h0, h1, h2⟩ => RFs.bnds h2
theorem Sim.wf {g : Gc} {h : VH} (s : Sim K g m h H) : wf h := fun o ho => by
  obtain ⟨i, hi⟩ := List.getElem?_of_mem ho
  exact (s.obj i o hi).bnd
end
/-- a def's promise told anew -/
theorem Df.cln {P : Program} {w : World} {K : PySem.W.Frag} {mg : Str → Option Value} {base : Heap} {g : Gc} {k : Nat} {x : Str} {F F' : List D → VH → Out D} (d : Df P w K mg base g k x F) (h : ∀ xs h, wf h → bnds h.length xs = true → Cl h.length (F xs h) (F' xs h)) : Df P w K mg base g k x F' :=
  d.imp fun vs H Q E ⟨m, vh, xs, s, r, q⟩ => ⟨m, vh, xs, s, r, Gd.cl (h xs vh s.wf (RDs.bnds _ _ r)) q⟩
mutual
theorem bnd.mono {n n' : Nat} (hn : n ≤ n') : ∀ d : D, bnd n d = true → bnd n' d = true
  | .ref k, h => by
    unfold bnd at h ⊢
    exact decide_eq_true (Nat.lt_of_lt_of_le (of_decide_eq_true h) hn)
  | .tup xs, h => by unfold bnd at h ⊢; exact bnds.mono hn xs h
  | .fls xs, h => by unfold bnd at h ⊢; exact bnds.mono hn xs h
  | .fdc ks xs, h => by unfold bnd at h ⊢; exact bnds.mono hn xs h
  | .non, _ => rfl
  | .bl _, _ => rfl
  | .int _, _ => rfl
  | .str _, _ => rfl
  | .ty _, _ => rfl
  | .adr _, _ => rfl
theorem bnds.mono {n n' : Nat} (hn : n ≤ n') : ∀ d : List D, bnds n d = true → bnds n' d = true
  | [], _ => rfl
  | x :: xs, h => by
    unfold bnds at h ⊢
    rw [Bool.and_eq_true] at h
    rw [bnd.mono hn x h.1, bnds.mono hn xs h.2] <;> rfl
theorem ren.id {n : Nat} {ρ : Nat → Nat} (hr : ∀ k, k < n → ρ k = k) : ∀ d : D, bnd n d = true → ren ρ d = d
  | .ref k, h => by
    unfold bnd at h
    unfold ren
    rw [hr k (of_decide_eq_true h)]
  | .tup xs, h => by unfold bnd at h; unfold ren; rw [rens.id hr xs h]
  | .fls xs, h => by unfold bnd at h; unfold ren; rw [rens.id hr xs h]
  | .fdc ks xs, h => by unfold bnd at h; unfold ren; rw [rens.id hr xs h]
  | .non, _ => rfl
  | .bl _, _ => rfl
  | .int _, _ => rfl
  | .str _, _ => rfl
  | .ty _, _ => rfl
  | .adr _, _ => rfl
theorem rens.id {n : Nat} {ρ : Nat → Nat} (hr : ∀ k, k < n → ρ k = k) : ∀ d : List D, bnds n d = true → rens ρ d = d
  | [], _ => rfl
  | x :: xs, h => by
    unfold bnds at h
    rw [Bool.and_eq_true] at h
    unfold rens
    rw [ren.id hr x h.1, rens.id hr xs h.2]
end
theorem renO.id {n : Nat} {ρ : Nat → Nat} (hr : ∀ k, k < n → ρ k = k) : ∀ o : O, bndO n o = true → renO ρ o = o
  | .lst xs, h => by
    show O.lst (rens ρ xs) = _
    rw [rens.id hr xs h]
  | .dct kvs, h => by
    show O.dct (kvs.map fun p => (p.1, ren ρ p.2)) = _
    congr 1
    refine (List.map_congr_left fun p hp => ?_).trans (List.map_id _)
    rw [ren.id hr p.2 (List.all_eq_true.mp h p hp)] <;> rfl
  | .ins c kvs, h => by
    show O.ins c (kvs.map fun p => (p.1, ren ρ p.2)) = _
    congr 1
    refine (List.map_congr_left fun p hp => ?_).trans (List.map_id _)
    rw [ren.id hr p.2 (List.all_eq_true.mp h p hp)] <;> rfl
/-- only the first objects are kept -/
theorem Kept.cut {n : Nat} {h g : VH} (hn : n ≤ h.length) (w : wf h) : Kept n _root_.id (h ++ g) h :=
  ⟨fun _ _ => rfl, fun _ h => h, fun i hi => by simp; omega, fun _ _ _ _ e => e, fun i o hi => by
    have hl := (List.getElem?_eq_some_iff.mp hi).1
    have b := w o (List.mem_of_getElem? hi)
    refine ⟨?_, b⟩
    have e : renO _root_.id o = o := renO.id (n := h.length) (fun _ _ => rfl) o b
    rw [e]
    exact (List.getElem?_append_left hl).trans hi, hn⟩
/-- a tree comes, no object is changed -/
theorem Cl.v {h g : VH} {d : D} (w : wf h) (b : bnd h.length d = true) : Cl h.length (.ok d (h ++ g)) (.ok d h) := by
  have e : ren _root_.id d = d := ren.id (n := h.length) (fun _ _ => rfl) d b
  have q : Cl h.length (.ok (ren _root_.id d) (h ++ g)) (.ok d h) := .ok (Kept.cut (Nat.le_refl _) w) b
  rw [e] at q
  exact q
theorem Cl.e {h g : VH} {c : Nat} (w : wf h) : Cl h.length (.err c none (h ++ g)) (.err c none h) := .err (p := none) (ρ := _root_.id) (Kept.cut (Nat.le_refl _) w) rfl
/-- a new object comes, which holds no other new one; no object is changed -/
theorem Cl.o {h g : VH} {j : Nat} {o : O} (w : wf h) (hj : g[j]? = some o) (b : bndO h.length o = true) : Cl h.length (.ok (.ref (h.length + j)) (h ++ g)) (.ok (.ref h.length) (h ++ [o])) := by
  let ρ : Nat → Nat := fun k => if k = h.length then h.length + j else k
  have r1 : ∀ k, k < h.length → ρ k = k := fun k hk => if_neg (Nat.ne_of_lt hk)
  have r2 : ρ h.length = h.length + j := if_pos rfl
  have hjl : j < g.length := (List.getElem?_eq_some_iff.mp hj).1
  have bO : ∀ o' : O, bndO h.length o' = true → bndO (h.length + 1) o' = true := fun o' b' => by
    cases o' with
    | lst xs => exact bnds.mono (Nat.le_succ _) _ b'
    | dct kvs => exact List.all_eq_true.mpr fun p hp => bnd.mono (Nat.le_succ _) _ (List.all_eq_true.mp b' p hp)
    | ins c kvs => exact List.all_eq_true.mpr fun p hp => bnd.mono (Nat.le_succ _) _ (List.all_eq_true.mp b' p hp)
  have k : Kept h.length ρ (h ++ g) (h ++ [o]) := by
    refine ⟨r1, fun i hi => ?_, fun i hi => ?_, fun a c ha hc e => ?_, fun i u hi => ?_, by simp⟩
    · show h.length ≤ if i = h.length then h.length + j else i
      split <;> omega
    · rw [List.length_append]
      have hi' : i < h.length + 1 := by simpa using hi
      by_cases hh : i = h.length
      · rw [hh, r2]; omega
      · rw [r1 i (by omega)]; omega
    · have ha' : a < h.length + 1 := by simpa using ha
      have hc' : c < h.length + 1 := by simpa using hc
      by_cases h1 : a = h.length
      · by_cases h2 : c = h.length
        · rw [h1, h2]
        · rw [h1, r2, r1 c (by omega)] at e; omega
      · by_cases h2 : c = h.length
        · rw [h2, r2, r1 a (by omega)] at e; omega
        · rw [r1 a (by omega), r1 c (by omega)] at e; exact e
    · rw [List.length_append, List.length_singleton]
      by_cases hh : i < h.length
      · rw [List.getElem?_append_left hh] at hi
        have b' := w u (List.mem_of_getElem? hi)
        refine ⟨?_, bO u b'⟩
        rw [r1 i hh, List.getElem?_append_left hh, renO.id r1 u b']
        exact hi
      · have hl := (List.getElem?_eq_some_iff.mp hi).1
        have hi2 : i = h.length := by
          have : i < h.length + 1 := by simpa using hl
          omega
        subst hi2
        simp at hi
        subst hi
        refine ⟨?_, bO o b⟩
        rw [r2, List.getElem?_append_right (by omega), Nat.add_sub_cancel_left, hj, renO.id r1 o b]
  have q : Cl h.length (.ok (ren ρ (.ref h.length)) (h ++ g)) (.ok (.ref h.length) (h ++ [o])) := .ok k (by unfold bnd; simp)
  unfold ren at q
  rw [r2] at q
  exact q
end FL
set_option Elab.async false
set_option linter.all false
set_option maxRecDepth 100000
set_option maxHeartbeats 2000000
/-! FL11: own errors, try, lambdas handed to a def; isinstance, types, sorted. -/
namespace FL
open PySem PySem.Spec PyProof.Rows L2

/-! ### own errors -/
/-- own error class number c, under the name x; it has no own __init__ -/
structure Er (K : PySem.W.Frag) (mg : Str → Option Value) (g : Gc) (c : Nat) (x : Str) : Prop where
  ex : ∃ C, g.cs[c]? = some C ∧ mg x = some (.ref C) ∧ PySem.W.keepIn K (.ref C) = true ∧ PySem.W.excIn K C [.type "ValueError", .type "Exception", .type "BaseException", .type "object"] "ValueError.__new__" = true ∧
    PySem.W.subIn K (.ref C) (.type "BaseException") = some true ∧ PySem.W.typeIn K (.ref C) = some (.type "type")
section
variable {X : Cx} {g : Gc} {W : WX} {a b e : Expr} {es : List Expr} {fa fb fc : FE} {r : FA} {pos : Pos}
/-- raise X('m') -/
theorem fs_raise {c : Nat} {x mm : Str} {j : Nat} {p p2 pos2 : Pos} (er : Er X.K X.mg g c x) (hc : X.calm = true) (tk : Takes X W) (hg : Gl X x := by rfl) (hdb : (x == ("__debug__" : Str)) = false := by decide) :
    PS X (.Raise (some (.Call (.Name x p) [.Constant (.str mm) j p2] [] pos)) none pos2) (rs X.K g W (sRaise c)) := by
  obtain ⟨C, h1, h2, h3, h4, h5, h6⟩ := er.ex
  refine ps_weak (ps_raise hc tk (pmk_own PySem.F.excBase_ValueError h4 h2 h3 (raises_own h5 h6) hg hdb)) ?_
  rintro D σ H ⟨δ, m, h, r, s, q⟩
  exact q m H σ _ none Ext.refl s r ⟨C, h1, rfl, fun d z => by simp at z, fun _ => rfl⟩

/-! ### try -/
/-- which class is under which -/
def Subs (K : PySem.W.Frag) (g : Gc) (sub : Nat → Nat → Bool) : Prop := ∀ (c k : Nat) (C CS : Addr), g.cs[c]? = some C → g.cs[k]? = some CS → PySem.W.exmOne K (.ref C) (.ref CS) = some (sub c k)
/-- except clauses by their functions -/
inductive FHds (X : Cx) (g : Gc) : List ExceptHandler → List (Nat × FSt) → Prop
  | nil : FHds X g [] []
  | cons {x : Str} {c : Nat} {s : FSt} {b₀ : Stmt} {suite : List Stmt} {np pos' : Pos} {hds : List ExceptHandler} {l : List (Nat × FSt)} (hc : ∃ C, g.cs[c]? = some C ∧ X.mg x = some (.ref C)) (hg : Gl X x) (hd : (x == ("__debug__" : Str)) = false)
      (hsu : ∀ (a : Addr) (oe : Obj) (pn : List (Addr × Obj)), PSs (X.suite a ((a, oe) :: pn)) (b₀ :: suite) (rs X.K g W0 s)) (r : FHds X g hds l) :
      FHds X g (.ExceptHandler (some (.Name x np)) none (b₀ :: suite) pos' :: hds) ((c, s) :: l)
/-- an outcome that is no error -/
def noE (o : OutS) : OutS := match o with
  | .err _ _ _ _ => .bad
  | o => o
theorem GoodS.noE {K : PySem.W.Frag} {m : Nat → Addr} {n : Nat} {H : Hp} {E : Ends} {o : OutS} (q : GoodS K g W m n H E (match o with | .err _ _ _ _ => .bad | o => o)) : GoodS K g W0 m n H E o := by
  cases o with
  | err c p d h => exact q.elim
  | _ => exact q
theorem hds_of {sub : Nat → Nat → Bool} (hs : Subs X.K g sub) : ∀ {hds : List ExceptHandler} {l : List (Nat × FSt)}, FHds X g hds l → ∃ ts, HdsOk X hds ts ∧ ∀ (D : Ends) (c : Nat) (p : Option FL.D) (δ : DS) (h : VH) (m : Nat → Addr) (H : Hp) (σ : L2.St) (cls : Value) (dd : Option Addr),
    RS X.K m h.length H δ σ → Sim X.K g m h H → RX X.K g m h.length H c p cls dd → GoodS X.K g W m h.length H D (hdS sub c p δ h l) → wMany X.K W D ts cls dd σ H
  | _, _, .nil => ⟨[], .nil, fun D c p δ h m H σ cls dd r s rx q => q m H σ cls dd Ext.refl s r rx⟩
  | _, _, .cons (x := x) (c := k) (s := s0) (l := l) hc hg hd hsu t => by
    obtain ⟨CS, h1, h2⟩ := hc
    obtain ⟨ts, ok, go⟩ := hds_of hs t
    refine ⟨(.ref CS, fun _ _ _ => rs X.K g W0 s0) :: ts, .cons ⟨hg, hd, .inl h2⟩ (fun a oe cls d pn _ _ => hsu a oe pn) ok, ?_⟩
    intro D c p δ h m H σ cls dd r s rx q
    obtain ⟨C, e1, e2, e3, e4⟩ := id rx
    subst e2
    have q : GoodS X.K g W m h.length H D (if sub c k = true then (match s0 δ h with | .err _ _ _ _ => .bad | o => o) else hdS sub c p δ h l) := q
    refine ⟨sub c k, hs c k C CS e1 h1, fun hb _ _ => ?_, fun hb => ?_⟩
    · rw [if_pos hb] at q
      exact ⟨δ, m, h, r, s, GoodS.noE q⟩
    · rw [if_neg (by rw [hb]; exact Bool.false_ne_true)] at q
      exact go D c p δ h m H σ _ dd r s rx q
/-- try: .. except X: .. -/
theorem fs_try {sub : Nat → Nat → Bool} {body : List Stmt} {h₀ : ExceptHandler} {hds : List ExceptHandler} {tb : FSt} {l : List (Nat × FSt)} (hsub : Subs X.K g sub) (hs : X.stack = X.env :: X.outer) (hf : X.env.frame = some X.env.locals) (tk : Takes X W)
    (hb : ∀ (W : WX) (pn : List (Addr × Obj)) (xe : Value → Shared → Prop), Takes (X.tr pn xe) W → PassesOwn (model X.prog X.w) X.A X.env xe → PSs (X.tr pn xe) body (rs X.K g W tb)) (hh : FHds X g (h₀ :: hds) l) : PS X (.Try body (h₀ :: hds) [] [] pos) (rs X.K g W (sTry sub tb l)) := by
  obtain ⟨ts, ok, go⟩ := hds_of (W := W) hsub hh
  refine ps_weak (ps_try_many (tb := fun W => rs X.K g W tb) hs hf tk hb ok) ?_
  rintro D σ H ⟨δ, m, h, r, s, q⟩
  refine ⟨δ, m, h, r, s, ?_⟩
  have q : GoodS X.K g W m h.length H D (match tb δ h with | .err c p δ h => hdS sub c p δ h l | o => o) := q
  cases et : tb δ h with
  | err c p δ1 h1 =>
    rw [et] at q
    intro m1 H1 σ1 cls dd e1 s1 r1 rx
    exact go D c p δ1 h1 m1 H1 σ1 cls dd r1 s1 rx (q.from e1)
  | nx _ _ => rw [et] at q; exact q
  | ret _ _ => rw [et] at q; exact q
  | brk _ _ => rw [et] at q; exact q
  | ct _ _ => rw [et] at q; exact q
  | bad => rw [et] at q; exact q

/-! ### a lambda handed to a def that tells what it was refused by -/
def tellH (sub : Nat → Nat → Bool) (c : Nat) (h : VH) : List (Nat × List Nat) → Out FL.D
  | [] => .bad
  | (k, s) :: r => if sub c k = true then .ok (.str s) h else tellH sub c h r
def eTold (sub : Nat → Nat → Bool) (l : List (Nat × List Nat)) (f : FE) : FE := fun δ h => match f δ h with
  | .ok d h => .ok d h
  | .err c _ h => tellH sub c h l
  | .bad => .bad
/-- the clauses of that def -/
inductive TellHds (mg : Str → Option Value) (g : Gc) (sg : Scope) : List ExceptHandler → List (Nat × List Nat) → Prop
  | nil : TellHds mg g sg [] []
  | cons {x z : Str} {c j : Nat} {t : List Nat} {np p1 p2 pos' : Pos} {hds : List ExceptHandler} {l : List (Nat × List Nat)} (hc : ∃ C, g.cs[c]? = some C ∧ mg x = some (.ref C)) (hg : sg.names.lookup x = some .globalImplicit) (hd : (x == ("__debug__" : Str)) = false) (hz : z.cps.toList = t) (ho : okS t = true) (r : TellHds mg g sg hds l) :
      TellHds mg g sg (.ExceptHandler (some (.Name x np)) none [.Return (some (.Constant (.str z) j p1)) p2] pos' :: hds) ((c, t) :: l)
/-- what it wishes of an error -/
def toldW (K : PySem.W.Frag) (Q : VK) : List (Addr × Str) → Value → Hp → Prop
  | [], _, _ => False
  | (C, z) :: r, cls, H => ∃ b, PySem.W.exmOne K cls (.ref C) = some b ∧ (b = true → Q (.str z) H) ∧ (b = false → toldW K Q r cls H)
def TTell (K : PySem.W.Frag) (l : List (Addr × Str)) : (XK → Hp → VK → Prop) → Hp → VK → Prop := fun tl H Q => tl (fun cls _ H' => toldW K Q l cls H') H Q
theorem tell_gives {Ng : List Str} {x a q : Str} {sg : Scope} {gA : Addr} {cdg : Value} {hs : List (Addr × Str)} {p1 p2 p3 p8 : Pos} {h₀ : ExceptHandler} {hds : List ExceptHandler}
    (hh : ∀ (X' : Cx), X'.env.scope = sg → X'.mg = X.mg → HdsOk X' (h₀ :: hds) (hs.map fun p => (Value.ref p.1, fun _ _ _ => tRet (tC (.str p.2))))) (h0 : ∀ f : Addr, (L2.start Ng [V.ref f])[0]? = some (some (V.ref f))) :
    LamX.GivesTo X Ng x sg gA cdg [.Try [.Return (some (.Call (.Name a p1) [] [] p2)) p3] (h₀ :: hds) [] [] p8] a q (TTell X.K hs) := by
  intro f c' s H Q tl act hc h
  let X' : Cx := (cxOf C8.CX0 X.prog X.w X.K X.mg X.base Ng x sg gA cdg X.A X.stack s H C8.E0).nox
  refine ⟨_, pss_one (ps_try_many (X := X') (Wout := fun _ _ _ _ => False)
      (tb := fun W D σ H => ∃ Ech : XK, (∀ cls d σ' H', Ech cls d H' → W cls d σ' H') ∧ σ[0]? = some (some (.ref f)) ∧ H c' = some (LamX.CodeO c' q) ∧ tl Ech H D.rt)
      rfl rfl LamX.takes0 (fun W pn xe tk _ => ?_) (hh X' rfl rfl)), ?_⟩
  · refine ⟨fun pins s' σ H' D I h' => ?_⟩
    obtain ⟨Ech, hW, h1, h2, h3⟩ := h'
    have hp := act W pn xe Ech p1 p2 tk hW
    have hq := pss_one (ps_ret (pos := p3) hp)
    exact hq.run pins s' σ H' D I ⟨h1, h2, h3⟩
  · refine ⟨_, fun cls d σ' H' q => ?_, h0 f, hc, h⟩
    have key : ∀ l : List (Addr × Str), toldW X.K Q l cls H' → wMany X.K (fun _ _ _ _ => False) { nx := fun _ H' => Q .non H', rt := Q } (l.map fun p => (Value.ref p.1, fun _ _ _ => tRet (tC (.str p.2)))) cls d σ' H' := by
      intro l
      induction l with
      | nil => exact fun z => z
      | cons p r ih => exact fun ⟨b, e1, e2, e3⟩ => ⟨b, e1, fun hb a _ => e2 hb, fun hb => ih (e3 hb)⟩
    exact key _ q
theorem tell_hds {sg : Scope} : ∀ {hds : List ExceptHandler} {l : List (Nat × List Nat)}, TellHds X.mg g sg hds l → ∃ hs : List (Addr × Str), (∀ (X' : Cx), X'.env.scope = sg → X'.mg = X.mg → HdsOk X' hds (hs.map fun p => (Value.ref p.1, fun _ _ _ => tRet (tC (.str p.2))))) ∧
    ∀ (sub : Nat → Nat → Bool), Subs X.K g sub → ∀ {W : Value → Option Addr → Hp → Prop} {m0 : Nat → Addr} {n0 : Nat} {H0 : Hp} {Q : VK} {m : Nat → Addr} {h : VH} {H : Hp} {c : Nat} {p : Option FL.D} {cls : Value} {dd : Option Addr}, Ext m0 n0 H0 m h.length H → Sim X.K g m h H → RX X.K g m h.length H c p cls dd → GoodE X.K g W m0 n0 H0 Q (tellH sub c h l) → toldW X.K Q hs cls H
  | _, _, .nil => ⟨[], fun _ _ _ => .nil, fun sub hsub W m0 n0 H0 Q m h H c p cls dd e s rx q => q⟩
  | _, _, .cons (x := x) (z := z) (c := k) (t := t) hc hg hd hz ho r => by
    obtain ⟨CS, h1, h2⟩ := hc
    obtain ⟨hs, ok, go⟩ := tell_hds r
    refine ⟨(CS, z) :: hs, fun X' e1 e2 => .cons ⟨by
      show X'.env.scope.names.lookup x = _
      rw [e1]
      exact hg, hd, .inl (by rw [e2]; exact h2)⟩ (fun a oe cls d pn _ _ => pss_one (ps_ret pe_str)) (ok X' e1 e2), ?_⟩
    intro sub hsub W m0 n0 H0 Q m h H c p cls dd e s rx q
    obtain ⟨C, e1, e2, e3, e4⟩ := id rx
    subst e2
    have q : GoodE X.K g W m0 n0 H0 Q (if sub c k = true then .ok (.str t) h else tellH sub c h _) := q
    refine ⟨sub c k, hsub c k C CS e1 h1, fun hb => ?_, fun hb => ?_⟩
    · rw [if_pos hb] at q
      exact q m H e s _ (isC_str hz ho _ _ _)
    · rw [if_neg (by rw [hb]; exact Bool.false_ne_true)] at q
      exact go sub hsub e s rx q
/-- that def's own facts -/
structure Teller (K : PySem.W.Frag) (mg : Str → Option Value) (g : Gc) (x a : Str) (st : Stmt) (Ng : List Str) (l : List (Nat × List Nat)) : Prop where
  ex : ∃ f fd, L2.Fun K x x st f fd ∧ mg x = some (.ref f) ∧ Binds K fd [a] []
  sc : FnScope Ng [a] (defScope st)
  bd : ∃ p1 p2 p3 p8 h₀ hds, defBody st = [.Try [.Return (some (.Call (.Name a p1) [] [] p2)) p3] (h₀ :: hds) [] [] p8] ∧ TellHds mg g (defScope st) (h₀ :: hds) l
  n0 : Ng[0]? = some a
  va : Vis (defScope st) a
  db : (x == ("__debug__" : Str)) = false
  da : (a == ("__debug__" : Str)) = false
  dc : (a == ("__classdict__" : Str)) = false
theorem Ext_of {K : PySem.W.Frag} {m : Nat → Addr} {h : VH} {H H1 : Hp} (s : Sim K g m h H) (e : LamX.ExtN H H1) (t : LamX.Tabs g.T H1) : Ext m h.length H m h.length H1 ∧ Sim K g m h H1 := by
  have im : Imm H H1 := ⟨fun a xs z => e a _ z (fun ps q => by cases q), fun a o u z => e a _ z (fun ps q => by cases q)⟩
  refine ⟨⟨Nat.le_refl _, fun _ _ => rfl, im, fun a o _ z hf => e a o z (fun ps q => by rw [q] at hf; exact hf), fun k h1 h2 => by omega, fun a z => by
    cases ha : H a with
    | none => trivial
    | some o =>
      by_cases ht : ∃ ps, o = .tbl ps
      · obtain ⟨ps, rfl⟩ := ht
        trivial
      · rw [e a o ha (fun ps q => ht ⟨ps, q⟩)] at z
        exact z⟩, ⟨s.inj, fun i o hi => ?_, t⟩⟩
  have hl := (List.getElem?_eq_some_iff.mp hi).1
  have ro := s.obj i o hi
  have q : ∀ {u : HO}, (∀ ps, u ≠ .tbl ps) → H (m i) = some u → H1 (m i) = some u := fun n z => e _ _ z n
  cases o with
  | lst xs =>
    obtain ⟨vs, a1, a2⟩ := ro
    exact ⟨vs, q (fun ps z => by cases z) a1, RDs.mono (Nat.le_refl _) (fun _ _ => rfl) im _ _ a2⟩
  | dct kvs =>
    obtain ⟨vs, a1, a2⟩ := ro
    exact ⟨vs, q (fun ps z => by cases z) a1, a2.mono (Nat.le_refl _) (fun _ _ => rfl) im⟩
  | ins c fs =>
    obtain ⟨C, dx, vs, a0, a1, a2⟩ := ro
    exact ⟨C, dx, vs, a0, q (fun ps z => by cases z) a1, a2.mono (Nat.le_refl _) (fun _ _ => rfl) im⟩
/-- x(lambda: body) -/
theorem fe_told {sub : Nat → Nat → Bool} {x a : Str} {st : Stmt} {Ng : List Str} {l : List (Nat × List Nat)} {c P : Addr} {k : Nat} {params : Arguments} {body : Expr} {scope : Scope} {f : FE} {p lpos pos : Pos} (T : Teller X.K X.mg g x a st Ng l) (hsub : Subs X.K g sub) (hg : Gl X x)
    (TB : LamX.TabB X.base X.mg c P) (hcode : X.env.code = .ref c) (hmT : (P, X.env.qual ++ "<lambda>") ∈ g.T) (hu : ∀ p ∈ g.T, p.1 = P → p.2 = X.env.qual ++ "<lambda>") (hr : Room (k + 2) X.A) (L : LamX.LamS X.env.scope scope) (hdef : defaultsOf params X.env = ([], []))
    (hbind : ∀ (q : Str) (cl : List (Str × Addr)) (pm cv ctv : Value), bindArgs (PySem.W.kla_fn "<lambda>" q params body scope cl pm cv ctv) ⟨[], []⟩ = pure [])
    (hbody : ∀ (A : Around) (outer : List Env) (s : Shared) (H : Hp) (E : XK) (f' c' : Addr), Room k (A.deeper (LamX.lamEnv X scope s.heap.objs.size f' c')) → PE (LamX.lamCx X A outer s H E scope f' c') body (rd X.K g (fun c d _ H' => E c d H') f)) :
    PE X (.Call (.Name x p) [.Lambda params body scope lpos] [] pos) (rd X.K g W (eTold sub l f)) := by
  obtain ⟨fA, fd, Fn, hm, hb⟩ := T.ex
  obtain ⟨p1, p2, p3, p8, h₀, hds, hbd, th⟩ := T.bd
  obtain ⟨hs, ok, go⟩ := tell_hds (X := X) th
  obtain ⟨oc, od, kV, doc, pm, an, cdv, ct, osl, rfl, lk, hcd⟩ := Fn.ex
  have hG : LamX.GivesTo X Ng x (defScope st) fA cdv (defBody st) a (X.env.qual ++ "<lambda>") (TTell X.K hs) := by
    rw [hbd]
    refine tell_gives ok fun f => ?_
    have hl : (start Ng [V.ref f])[0]? = some (some (V.ref f)) := rfl
    exact hl
  refine pe_weak (LamX.pe_lamcall (T := g.T) (a := a) (t := fun E => rd X.K g (fun c d _ H' => E c d H') f) hg hm Fn.kp lk hcd hb T.sc T.n0 T.va hG TB hcode hmT hu hr L hdef hbind hbody T.db T.da T.dc) ?_
  rintro σ H Q ⟨δ, m, h, r, s, q⟩
  refine ⟨s.tab, fun H1 e t => ?_⟩
  obtain ⟨e1, s1⟩ := Ext_of s e t
  refine ⟨δ, m, h, e1.rs r, s1, ?_⟩
  have q1 := Gd.from e1 q
  have q1 : GoodE X.K g (fun c d H' => W c d σ H') m h.length H1 Q (match f δ h with | .ok d h => .ok d h | .err c _ h => tellH sub c h l | .bad => .bad) := q1
  cases ef : f δ h with
  | ok d h2 => rw [ef] at q1; exact q1
  | err c p h2 =>
    rw [ef] at q1
    intro m2 H2 cls dd e2 s2 rx
    exact go sub hsub e2 s2 rx q1
  | bad => rw [ef] at q1; exact q1

/-! ### isinstance, types as values -/
def tyN (x : FL.D) (h : VH) : Option String := match x with
  | .non => some "NoneType"
  | .bl _ => some "bool"
  | .int _ => some "int"
  | .str _ => some "str"
  | .tup _ => some "tuple"
  | .fls _ => some "list"
  | .fdc _ _ => some "dict"
  | .ref k => match h[k]? with
    | some (.lst _) => some "list"
    | some (.dct _) => some "dict"
    | _ => none
  | _ => none
/-- one built-in type under another -/
def isiN (a b : String) : Option Bool := if a ∈ ["NoneType", "bool", "int", "str", "tuple", "list", "dict"] ∧ b ∈ ["bool", "int", "str", "tuple", "list", "dict"] then some (a == b || (a == "bool" && b == "int")) else none
theorem isiN_kit {a b : String} {r : Bool} (h : isiN a b = some r) : kitB a b = some r := by
  unfold isiN at h
  split at h
  · rename_i hc
    obtain ⟨h1, h2⟩ := hc
    simp only [List.mem_cons, List.not_mem_nil, or_false] at h1 h2
    rcases h1 with rfl | rfl | rfl | rfl | rfl | rfl | rfl <;> rcases h2 with rfl | rfl | rfl | rfl | rfl | rfl <;> (cases h; decide +kernel)
  · cases h
def bIsi : List FL.D → VH → Option (FL.D × VH)
  | [x, .ty n], h => match tyN x h with
    | some t => match isiN t n with
      | some b => some (.bl b, h)
      | none => none
    | none => none
  | _, _ => none
theorem tyX_of {K : PySem.W.Frag} {m : Nat → Addr} {h : VH} {H : Hp} {x : FL.D} {v : V} {t : String} (s : Sim K g m h H) (r : RD K m h.length H x v) (e : tyN x h = some t) : TyX K H v (.type t) := by
  cases r with
  | non => cases e; exact .base .non
  | bl b => cases e; exact .base (.bl b)
  | int i => cases e; exact .base (.int i)
  | str hl => cases e; exact .base (.str _)
  | tup h1 h2 =>
    cases e
    rcases h1 with ⟨o, h1, _⟩ | ⟨o, its, n, h1, h2, _⟩
    · exact .fTuple h1
    · exact .kTuple h1 h2
  | fls h1 h2 =>
    cases e
    rcases h1 with ⟨o, h1⟩ | ⟨o, its, n, h1, h2, _⟩
    · exact .base (.frz h1)
    · exact .kList h1 h2
  | fdc h1 _ _ _ => cases e; exact .fDict h1
  | ref hk =>
    simp only [tyN] at e
    split at e
    · rename_i xs hx
      cases e
      obtain ⟨_, vs, a1, _⟩ := s.lst hx
      exact .base (.lst a1)
    · rename_i xs hx
      cases e
      obtain ⟨vs, a1, _⟩ := s.obj _ _ hx
      exact .base (.dK a1)
    · cases e
  | ty _ => cases e
  | adr _ => cases e
theorem cr_isi : CallR X (.builtin "isinstance") (rB X.K g bIsi) := callr_weak call_isi (by
  rintro vs H Q ⟨m, h, xs, s, rs, q⟩
  unfold bIsi at q
  split at q
  · rename_i x n
    obtain ⟨v, w, rfl, r1, r2⟩ := rds2 rs
    cases r2
    split at q
    · rename_i t ht
      split at q
      · rename_i b hb
        exact ⟨v, .ty n, .type t, .type n, b, rfl, .ty n, tyX_of s r1 ht, kit_ty (isiN_kit hb), q m H _ Ext.refl s (.bl b)⟩
      · exact q.elim
    · exact q.elim
  · exact q.elim)
/-- a built-in type's name as a value -/
theorem fe_ty {x : Str} {n : String} {pos : Pos} (hm : X.mg x = none) (hg : Gl X x := by rfl) (hv : bootBuiltins x = some (.type n) := by decide +kernel) (hn : x ≠ "__name__" := by decide) (hd : (x == ("__debug__" : Str)) = false := by decide) : PE X (.Name x pos) (rd X.K g W (eC (.ty n))) :=
  pe_weak (pe_bltn (v := .ty n) hg hm hv rfl hn hd) (rd_c fun _ _ _ => .ty n)
/-! ### -x, {}, a, b, c = x, y, z -/
def oNeg : Op1
  | .int i, h => some (.int (-i), h)
  | _, _ => none
theorem fe_neg (ha : PE X a (rd X.K g W fa)) : PE X (.UnaryOp .USub a pos) (rd X.K g W (e1 oNeg fa)) := pe_weak (pe_un un_neg ha) (by
  rintro σ H Q ⟨δ, m, h, r, s, q⟩
  refine ⟨δ, m, h, r, s, Gd.bind q fun x h1 m1 H1 e1 s1 q1 v r1 => ?_⟩
  cases r1 with
  | int i => exact ⟨i, rfl, q1 m1 H1 Ext.refl s1 _ (.int _)⟩
  | _ => exact q1.elim)
def eDct : FE := fun _ h => .ok (.ref h.length) (h ++ [.dct []])
theorem Sim.alloc_dct {K : PySem.W.Frag} {m : Nat → Addr} {h : VH} {H : Hp} (s : Sim K g m h H) {p : Addr} (hp : H p = none) :
    ∃ m', Ext m h.length H m' (h ++ [O.dct []]).length (upd H p (.dK [])) ∧ Sim K g m' (h ++ [O.dct []]) (upd H p (.dK [])) ∧ RD K m' (h ++ [O.dct []]).length (upd H p (.dK [])) (.ref h.length) (.ref p) :=
  s.alloc hp fun m' hm => ⟨[], upd_same, .nil⟩
theorem fe_dct : PE X (.Dict [] [] pos) (rd X.K g W eDct) := pe_weak pe_dnewK (by
  rintro σ H Q ⟨δ, m, h, r, s, q⟩ p hp
  obtain ⟨m2, e2, s2, r2⟩ := s.alloc_dct hp
  exact q m2 _ e2 s2 _ r2)
def sPar3 (i j l : Nat) (r : FA) : FSt := fun δ h => thenS δ (r δ h) fun xs h => match xs with
  | [x, y, z] => .nx (((δ.set i (some x)).set j (some y)).set l (some z)) h
  | _ => .bad
theorem rds3 {K : PySem.W.Frag} {m : Nat → Addr} {n : Nat} {H : Hp} {x y z : FL.D} {vs : List V} (r : RDs K m n H [x, y, z] vs) : ∃ v w u, vs = [v, w, u] ∧ RD K m n H x v ∧ RD K m n H y w ∧ RD K m n H z u := by
  cases r with
  | cons r1 r =>
    obtain ⟨v, w, rfl, r2, r3⟩ := rds2 r
    exact ⟨_, v, w, rfl, r1, r2, r3⟩
theorem fs_par3 {i j l : Nat} {c : Expr} {x y z : Str} {px py pz pt : Pos} {kt k2 pt2} (hc : X.calm = true) (hN : X.N.Nodup) (hi : X.N[i]? = some x) (hj : X.N[j]? = some y) (hl : X.N[l]? = some z) (hij : i ≠ j) (hil : i ≠ l) (hjl : j ≠ l) (hx : X.env.scope.names.lookup x = some .local) (hy : X.env.scope.names.lookup y = some .local) (hz : X.env.scope.names.lookup z = some .local) (ha : PA X [a, b, c] (FL.ra X.K g W r))
    (hw : swappedStores [.Tuple [.Name x px, .Name y py, .Name z pz] kt pt] (.Tuple [a, b, c] k2 pt2) X.env = pure (some [x, y, z])) (hs : swapsWithSole [.Tuple [.Name x px, .Name y py, .Name z pz] kt pt] (.Tuple [a, b, c] k2 pt2) pos.line X.env = pure false := by rfl) :
    PS X (.Assign [.Tuple [.Name x px, .Name y py, .Name z pz] kt pt] (.Tuple [a, b, c] k2 pt2) pos) (rs X.K g W (sPar3 i j l r)) := ps_weak (ps_par3 hc hN hi hj hl hij hil hjl hx hy hz ha hw hs) (by
  rintro D σ H ⟨δ, m, h, r, s, q⟩
  refine ⟨δ, m, h, r, s, GoodS.thn r q fun xs h1 m1 H1 e1 s1 q1 v r1 => ?_⟩
  split at q1
  · obtain ⟨v1, v2, v3, rfl, r2, r3, r4⟩ := rds3 r1
    exact ⟨v1, v2, v3, rfl, q1 m1 H1 _ Ext.refl s1 ((((e1.rs r).set i r2).set j r3).set l r4)⟩
  · exact q1.elim)
end
end FL
set_option Elab.async false
set_option linter.all false
set_option maxRecDepth 100000
set_option maxHeartbeats 2000000
/-! FL12: sorted of lists and of dicts. -/
namespace FL
open PySem PySem.Spec PyProof.Rows L2
section
variable {K : PySem.W.Frag} {m : Nat → Addr} {n : Nat} {H : Hp}
/-- a value that stands for d -/
def StD (K : PySem.W.Frag) (m : Nat → Addr) (n : Nat) (H : Hp) (v : Value) (b : FL.D × PyData) : Prop := ∃ y, RelV y v ∧ RD K m n H b.1 y
theorem each_rds : ∀ {out : List Value} {bs : List (FL.D × PyData)}, PySem.W.EachIs (StD K m n H) out bs → ∃ ys, Vals ys out ∧ RDs K m n H (bs.map (·.1)) ys
  | _, _, .nil => ⟨[], .nil, .nil⟩
  | _, _, .cons ⟨y, h1, h2⟩ t => by
    obtain ⟨ys, h3, h4⟩ := each_rds t
    exact ⟨y :: ys, .cons h1 h3, .cons h2 h4⟩
theorem each_std : ∀ {xs : List FL.D} {vs : List V} {us : List Value} {l : List PyData}, RDs K m n H xs vs → Vals vs us → l.length = xs.length → PySem.W.EachIs (StD K m n H) us (xs.zip l)
  | _, _, _, l, .nil, .nil, hl => by
    cases l with
    | nil => exact .nil
    | cons _ _ => simp at hl
  | _, _, _, l, .cons r1 r2, .cons h1 h2, hl => by
    cases l with
    | nil => simp at hl
    | cons a l => exact .cons ⟨_, h1, r1⟩ (each_std r2 h2 (by simpa using hl))
theorem allS_len {α β : Type} {f : α → Option β} : ∀ {xs : List α} {l : List β}, allS (xs.map f) = some l → l.length = xs.length
  | [], l, e => by
    simp only [List.map_nil, allS, Option.some.injEq] at e
    subst e
    rfl
  | x :: xs, l, e => by
    rw [List.map_cons] at e
    obtain ⟨a, l', e1, e2, rfl⟩ := allS_cons e
    rw [List.length_cons, List.length_cons, allS_len e2]
theorem zip_snd {α β : Type} : ∀ {xs : List α} {l : List β}, l.length = xs.length → (xs.zip l).map (·.2) = l
  | [], [], _ => rfl
  | [], _ :: _, h => by simp at h
  | _ :: _, [], h => by simp at h
  | x :: xs, a :: l, h => by
    rw [List.zip_cons_cons, List.map_cons, zip_snd (by simpa using h)]
theorem zip_fst {α β : Type} : ∀ {xs : List α} {l : List β}, l.length = xs.length → (xs.zip l).map (·.1) = xs
  | [], [], _ => rfl
  | [], _ :: _, h => by simp at h
  | _ :: _, [], h => by simp at h
  | x :: xs, a :: l, h => by
    rw [List.zip_cons_cons, List.map_cons, zip_fst (by simpa using h)]
theorem alikes_all {l : List PyData} (h : alikes l = true) : PySem.W.AllAlike l := fun d hd e he => by
  unfold alikes at h
  exact List.all_eq_true.mp (List.all_eq_true.mp h d hd) e he
theorem sortable_of {l : List PyData} (h : sortable l = true) : PySem.W.Sortable l := by
  unfold sortable at h
  rw [Bool.or_eq_true] at h
  rcases h with h | h
  · refine .inl fun d hd => ?_
    have z := List.all_eq_true.mp h d hd
    unfold isTupC at z
    split at z
    · exact ⟨_, _, rfl⟩
    · cases z
  · refine .inr fun d hd => ?_
    have z := List.all_eq_true.mp h d hd
    unfold isFlat at z
    refine ⟨fun e => ?_, fun xs e => ?_⟩
    · subst e; cases z
    · subst e; cases z
end
section
variable {X : Cx} {g : Gc}
/-- items' data -/
theorem each_read {m : Nat → Addr} {h : VH} {H : Hp} {pins : List (Addr × Obj)} {σ : L2.St} {s : Shared} (I : Inv X pins σ H s) (sm : Sim X.K g m h H) : ∀ {xs : List FL.D} {vs : List V} {us : List Value} {l : List PyData}, RDs X.K m h.length H xs vs → Vals vs us → allS (xs.map (toP deep h)) = some l →
    PySem.W.EachIs (fun v (b : FL.D × PyData) => ∃ as, Reads s.heap v b.2 as) us (xs.zip l) ∧ ∀ b ∈ xs.zip l, b.2.depth ≤ deep
  | _, _, _, l, .nil, .nil, e => by
    simp only [List.map_nil, allS, Option.some.injEq] at e
    subst e
    exact ⟨.nil, fun b hb => by simp at hb⟩
  | _, _, _, l, .cons r1 r2, .cons h1 h2, e => by
    rw [List.map_cons] at e
    obtain ⟨a, l', e1, e2, rfl⟩ := allS_cons e
    obtain ⟨k1, k2⟩ := each_read I sm r2 h2 e2
    obtain ⟨d1, _, d3⟩ := dp_of sm deep _ _ a r1 e1
    refine ⟨.cons (d1.reads I _ _ _ h1) k1, fun b hb => ?_⟩
    rw [List.zip_cons_cons] at hb
    rcases List.mem_cons.mp hb with rfl | hb
    · exact d3
    · exact k2 b hb
/-- what the sorted values stand for -/
theorem sort_rds {m : Nat → Addr} {n : Nat} {H : Hp} {out : List Value} {bs : List (FL.D × PyData)} (e : PySem.W.EachIs (StD X.K m n H) out (bs.mergeSort (PySem.W.dataLe false (·.2)))) : ∃ ys, Vals ys out ∧ RDs X.K m n H (sortD bs) ys := each_rds e
/-- flat keys: what they read -/
theorem keys_each {m : Nat → Addr} {n : Nat} {H : Hp} {h : VH} {hp : Heap} {a : Addr} : ∀ {kvs : List (FL.D × FL.D)} {ws : List (Key × V)} {us : List Value} {l : List PyData}, RKs X.K m n H kvs ws → Vals (ws.map fun kv => kV kv.1) us → allS ((kvs.map (·.1)).map (toP deep h)) = some l →
    PySem.W.EachIs (fun v (b : FL.D × PyData) => ∃ as, Reads hp v b.2 as ∧ a ∉ as) us ((kvs.map (·.1)).zip l) ∧ ∀ b ∈ (kvs.map (·.1)).zip l, b.2.depth ≤ 1
  | _, _, us, l, .nil, r, e => by
    cases r
    simp only [List.map_nil, allS, Option.some.injEq] at e
    subst e
    exact ⟨.nil, fun b hb => by simp at hb⟩
  | _, _, us, l, .cons (k := k) r0 r1 r2, r, e => by
    cases r with
    | cons h1 h2 =>
      rw [List.map_cons, List.map_cons] at e
      obtain ⟨d, l', e1, e2, rfl⟩ := allS_cons e
      obtain ⟨k1, k2⟩ := keys_each r2 h2 e2
      rename_i bv _
      have hd : (∃ as, Reads hp bv d as ∧ a ∉ as) ∧ d.depth ≤ 1 := by
        cases k with
        | inl i =>
          obtain ⟨t, rfl⟩ := (show ∃ t, _ = Value.int i t from h1)
          simp only [deep, kD, toP, Option.some.injEq] at e1
          subst e1
          exact ⟨⟨[], .int i t, by simp⟩, by simp [PyData.depth]⟩
        | inr x =>
          obtain ⟨t, rfl⟩ := (show ∃ t, _ = Value.str x t from h1)
          simp only [deep, kD, toP, Option.some.injEq] at e1
          subst e1
          exact ⟨⟨[], .str x t, by simp⟩, by simp [PyData.depth]⟩
      refine ⟨.cons hd.1 k1, fun b hb => ?_⟩
      rw [List.map_cons, List.zip_cons_cons] at hb
      rcases List.mem_cons.mp hb with rfl | hb
      · exact hd.2
      · exact k2 b hb
theorem rks_of {K : PySem.W.Frag} {m : Nat → Addr} {n : Nat} {H : Hp} : ∀ {kvs : List (Key × V)} {ds : List FL.D}, (∀ p ∈ kvs, okK p.1 = true) → RDs K m n H ds (kvs.map (·.2)) → RKs K m n H ((kvs.map fun p => kD p.1).zip ds) kvs ∧ ((kvs.map fun p => kD p.1).zip ds).map (·.1) = kvs.map fun p => kD p.1
  | [], _, _, .nil => ⟨.nil, rfl⟩
  | (k, v) :: kvs, _, h, .cons r1 r2 => by
    obtain ⟨e1, e2⟩ := rks_of (fun p hp => h p (List.mem_cons_of_mem _ hp)) r2
    refine ⟨.cons (h _ List.mem_cons_self) r1 e1, ?_⟩
    rw [List.map_cons, List.zip_cons_cons, List.map_cons, e2]
/-- a dict's keys in a row -/
theorem keys_vals {acc : List Value} : ∀ {ws : List (Key × V)} {vs : List (Key × Value)}, KV ws vs → acc.length = vs.length → (∀ (j : Nat) (v : Value), acc[j]? = some v → ∃ k x, vs[j]? = some (k, x) ∧ keyIs k v = true) → Vals (ws.map fun kv => kV kv.1) acc := by
  intro ws
  induction ws generalizing acc with
  | nil =>
    intro vs r hl h
    cases r
    cases acc with
    | nil => exact .nil
    | cons _ _ => simp at hl
  | cons p ws ih =>
    intro vs r hl h
    cases r with
    | @cons _ q _ qs h1 t =>
    cases acc with
    | nil => simp at hl
    | cons v acc =>
      obtain ⟨k, x, e1, e2⟩ := h 0 v rfl
      have e1' : q = (k, x) := by simpa using e1
      subst e1'
      obtain ⟨h2, h3⟩ := h1
      refine .cons ?_ (ih t (by simpa using hl) fun j v e => by
        obtain ⟨k', x', e3, e4⟩ := h (j + 1) v (by simpa using e)
        exact ⟨k', x', by simpa using e3, e4⟩)
      have h2 : p.1 = k := h2
      show RelV (kV p.1) v
      rw [h2]
      rcases keyIs_shape e2 with ⟨i, t, ek, ev⟩ | ⟨z, t, ek, ev⟩
      · subst ek; subst ev; exact ⟨t, rfl⟩
      · subst ek; subst ev; exact ⟨t, rfl⟩
theorem cr_sorted (hc : X.calm = true) (hu : X.A.units + 64 < cLine) : CallR X (.builtin "sorted") (rB X.K g bSorted) := by
  rintro pins s σ H vs us Q I r ⟨m, h, ds, sm, rs, q⟩
  unfold bSorted at q
  split at q
  case h_2 => exact q.elim
  rename_i x
  obtain ⟨v, rfl, r1⟩ := rds1 rs
  obtain ⟨u, rfl, ru⟩ := vals1 r
  cases hi : itemsOf x h with
  | none => rw [hi] at q; exact q.elim
  | some xs =>
    rw [hi] at q
    cases hl : allS (xs.map (toP deep h)) with
    | none => simp only [hl] at q; exact q.elim
    | some l =>
      simp only [hl] at q
      split at q
      case isFalse => exact q.elim
      rename_i hc2
      rw [Bool.and_eq_true] at hc2
      have ll := allS_len hl
      have fin : ∀ (s : Shared) (I : Inv X pins σ H s) (out : List Value) (s' : Shared) (d : Addr), PySem.W.EachIs (StD X.K m h.length H) out ((xs.zip l).mergeSort (PySem.W.dataLe false (·.2))) → out.length = (xs.zip l).length → (xs.zip l).length ≤ sizeLine → (∀ b o, s.heap.get? b = some o → s'.heap.get? b = some o) → s.heap.objs.size ≤ d →
          (∃ e, s'.heap.get? d = some (seqObj "list" out.toArray e)) → (∃ (hp : Heap) (tk : Nat), s' = { s with heap := hp, toks := tk }) → EP X pins σ Q (.ref d) s' := by
        intro s I out s' d e ho hz k hd hg hs
        obtain ⟨hp, tk, rfl⟩ := hs
        obtain ⟨ep, hg⟩ := hg
        obtain ⟨ys, h1, h2⟩ := sort_rds e
        have hp0 := I.hok.fresh hd
        exact ep_fz ⟨.ref d, upd H d (.lst ys), I.laid (t' := tk) k hd ⟨by rw [h1.length, ho]; exact hz, out, ep, h1, hg⟩, rfl, sm.fls hp0 h2 q⟩
      have al : PySem.W.AllAlike ((xs.zip l).map (·.2)) := by rw [zip_snd ll]; exact alikes_all hc2.1
      have so : PySem.W.Sortable ((xs.zip l).map (·.2)) := by rw [zip_snd ll]; exact sortable_of hc2.2
      have zl : (xs.zip l).length = xs.length := by rw [List.length_zip, ll, Nat.min_self]
      have lst : ∀ {a : Addr} {ws : List V}, v = .ref a → SqL X.K H a ws → RDs X.K m h.length H xs ws → wpAny (model X.prog X.w) X.A (call (.builtin "sorted") [u]) (EP X pins σ Q) X.xe s := by
        intro a ws ev hs rw'
        subst ev
        obtain rfl : u = Value.ref a := ru
        obtain ⟨its, rv, hL, hz⟩ := I.list hs
        obtain ⟨er, dp⟩ := each_read I sm rw' rv hl
        have hZ : (xs.zip l).length ≤ sizeLine := by rw [zl, rw'.length]; exact hz
        refine PySem.W.sorted_data (bs := xs.zip l) (enc := (·.2)) (R := StD X.K m h.length H) hL.isList (each_std rw' rv ll) er al so hZ (fun b hb => ?_) fun out ho e => ?_
        · have := dp b hb
          have : deep = 12 := rfl
          omega
        · obtain ⟨ep, he'⟩ := PyProof.Rows.sortedAll_at s.heap its out.toArray
          exact fin s I out _ (s.heap.objs.size + 1) e ho hZ (fun _ _ => PyProof.Rows.sortedAll_old) (Nat.le_succ _) ⟨ep, he'⟩ ⟨_, s.toks, rfl⟩
      have dct : ∀ {ad : Addr} {kvs : List (FL.D × FL.D)} {ws : List (Key × V)}, v = .ref ad → Rd H ad (.dK ws) → RKs X.K m h.length H kvs ws → xs = kvs.map (·.1) → wpAny (model X.prog X.w) X.A (call (.builtin "sorted") [u]) (EP X pins σ Q) X.xe s := by
        intro ad kvs ws ev a1 b1 ex
        subst ev
        subst ex
        obtain rfl : u = Value.ref ad := ru
        obtain ⟨z, lo, us, rel, dd⟩ := dk_rd I.hok a1
        obtain ⟨ep, hat⟩ := dd.dictAt
        have hw : us.length = ws.length := rel.length.symm
        have h16 : us.length ≤ sizeLine := by rw [hw]; exact z
        refine Calls.call_function_entry PyProof.Rows.kind_sorted PyProof.Rows.plain_sorted PyProof.Rows.entry_sorted (PyProof.Rows.args_sorted1 _) ?_
        unfold Builtin.«sorted»
        refine wpAny_bind (m := checkCount "sorted" 1 1 _) (wpAny_pure ?_)
        refine wpAny_bind (PySem.W.kdu_collect (A := X.A.in1) (PySem.W.kdl_dict (knd := mixKind X.prog X.w) (kvs := us) (ep := ep) lo) (I.ok.hd hc) hat h16 fun h' tk acc hk hacc => ?_)
        have hal : acc.toList.length = us.length := by rw [Array.length_toList, hacc.1]
        have va : Vals (ws.map fun kv => kV kv.1) acc.toList := keys_vals rel hal fun j v e => hacc.2 j v (by rw [← Array.getElem?_toList]; exact e)
        have I1 : Inv X pins σ H { s with heap := h', toks := tk } := I.kept hk
        refine wpAny_bind (wpAny_newList ?_ (by rw [hal]; exact h16))
        have hoL : (h'.push (seqObj "list" acc.toList.toArray 0)).get? h'.objs.size = some (seqObj "list" acc.toList.toArray 0) := Heap.get?_push_size _ rfl
        show wpAny _ _ _ _ _ { s with heap := h'.push (seqObj "list" acc.toList.toArray 0), toks := tk }
        obtain ⟨er, dp⟩ := keys_each (a := h'.objs.size) (hp := h'.push (seqObj "list" acc.toList.toArray 0)) (h := h) b1 va hl
        have hZ : ((kvs.map (·.1)).zip l).length ≤ sizeLine := by rw [zl, List.length_map, rks_len b1]; exact z
        refine wpAny_bind (wpAny_holding (PySem.W.list_sort_data (s := { s with heap := h'.push (seqObj "list" acc.toList.toArray 0), toks := tk }) (bs := (kvs.map (·.1)).zip l) (enc := (·.2)) (R := StD X.K m h.length H) hoL (each_std (rks_keys b1) va ll) er al so hZ (fun b hb => ?_) fun out ho e => ?_))
        · have := dp b hb
          show X.A.units + 1 + 1 + b.2.depth < cLine
          omega
        · obtain ⟨e', he'⟩ := PyProof.Rows.sortedHeap_at (vs := acc.toList) (out := out.toArray) hoL
          refine wpAny_pure ?_
          have hk2 : ∀ b o, h'.get? b = some o → (sortedHeap (h'.push (seqObj "list" acc.toList.toArray 0)) h'.objs.size acc.toList out.toArray).get? b = some o := fun b o e1 => by
            have hb : b < h'.objs.size := Heap.lt_size e1
            rw [PyProof.Rows.sortedHeap_old (Nat.ne_of_lt hb) (by rw [size_push']; exact Nat.lt_succ_of_lt hb)]
            exact Heap.get?_push_of_some _ e1
          exact ⟨_, rfl, fin _ I1 out _ h'.objs.size e ho hZ hk2 (Nat.le_refl _) ⟨e', he'⟩ ⟨_, tk, rfl⟩⟩
      cases r1 with
      | fdc h1 h2 h3 h4 =>
        simp only [itemsOf, seqOf, Option.some.injEq] at hi
        subst hi
        obtain ⟨e1, e2⟩ := rks_of h3 h4
        exact dct rfl (.inr ⟨_, h1⟩) e1 (h2.trans e2.symm)
      | fls h1 h2 =>
        simp only [itemsOf, seqOf, Option.some.injEq] at hi
        subst hi
        exact lst rfl h1.seq h2
      | tup h1 h2 => simp only [itemsOf, seqOf] at hi; cases hi
      | ref hk =>
        rename_i k
        cases eo : h[k]? with
        | none => simp only [itemsOf, seqOf, eo] at hi; cases hi
        | some o =>
          cases o with
          | lst ys =>
            simp only [itemsOf, seqOf, eo, Option.some.injEq] at hi
            subst hi
            obtain ⟨_, ws, a1, b1⟩ := sm.lst eo
            exact lst rfl (.of a1) b1
          | ins _ _ => simp only [itemsOf, seqOf, eo] at hi; cases hi
          | dct kvs =>
            simp only [itemsOf, seqOf, eo, Option.some.injEq] at hi
            subst hi
            obtain ⟨ws, a1, b1⟩ := sm.obj k _ eo
            exact dct rfl (.inl a1) b1 rfl
      | _ => simp only [itemsOf, seqOf] at hi; cases hi
end
end FL
set_option Elab.async false
set_option linter.all false
set_option maxRecDepth 100000
set_option maxHeartbeats 2000000
/-! FL13: words for the printed derivations; a module's constants; the ends. -/
namespace FL
open PySem PySem.Spec PyProof.Rows L2
theorem u1 {k : Nat} {A : Around} (r : Room k A) : A.units + 1 < cLine := by have := r.un; omega
theorem u64 {k : Nat} {A : Around} (r : Room k A) : A.units + 64 < cLine := by have := r.un; omega
theorem u65 {k : Nat} {A : Around} (r : Room k A) : A.units + 65 < cLine := by have := r.un; omega
/-! ### a module's constants -/
theorem cst_mk {K : PySem.W.Frag} {mg : Str → Option Value} {x : Str} {d : FL.D} {v : V} {u : Value} (hm : mg x = some u) (r : RelV v u) (c : IsC K d v) : Cst K mg x d := ⟨⟨v, u, hm, r, c⟩⟩
theorem isC_int {K : PySem.W.Frag} (i : Int) : IsC K (.int i) (.int i) := fun _ _ _ => .int i
/-- a value of the written part that never changes -/
inductive KV0 (K : PySem.W.Frag) : FL.D → Value → Prop
  | int (i : Int) (t : Tok) : KV0 K (.int i) (.int i t)
  | str {x : Str} {l : List Nat} {t : Tok} : x.cps.toList = l → okS l = true → KV0 K (.str l) (.str x t)
  | bl (b : Bool) : KV0 K (.bl b) (.bool b)
  | non : KV0 K .non .none
inductive KVs (K : PySem.W.Frag) : List FL.D → List Value → Prop
  | nil : KVs K [] []
  | cons {d : FL.D} {u : Value} {ds : List FL.D} {us : List Value} (h : ∃ v, RelV v u ∧ IsC K d v) (t : KVs K ds us) : KVs K (d :: ds) (u :: us)
theorem KV0.ex {K : PySem.W.Frag} {d : FL.D} {u : Value} (h : KV0 K d u) : ∃ v, RelV v u ∧ IsC K d v := by
  cases h with
  | int i t => exact ⟨.int i, ⟨t, rfl⟩, fun _ _ _ => .int i⟩
  | str hl ho => exact ⟨.str _, ⟨_, rfl⟩, isC_str hl ho⟩
  | bl b => exact ⟨.bl b, rfl, fun _ _ _ => .bl b⟩
  | non => exact ⟨.non, rfl, fun _ _ _ => .non⟩
theorem KVs.all {K : PySem.W.Frag} : ∀ {ds : List FL.D} {us : List Value}, KVs K ds us → ∃ vs, Vals vs us ∧ ∀ m n H, RDs K m n H ds vs
  | _, _, .nil => ⟨[], .nil, fun _ _ _ => .nil⟩
  | _, _, .cons ⟨v, h1, h2⟩ t => by
    obtain ⟨vs, h3, h4⟩ := KVs.all t
    exact ⟨v :: vs, .cons h1 h3, fun m n H => .cons (h2 m n H) (h4 m n H)⟩
/-- a tuple of the written part -/
theorem kv_tup {K : PySem.W.Frag} {a : Addr} {ds : List FL.D} {its : Array Value} {n : Nat} {sl : Array (Option Value)} (l : K.lookup a = some ⟨.type "tuple", none, .seq its n, sl⟩) (h : KVs K ds its.toList) (hz : its.size ≤ 1000) : ∃ v, RelV v (.ref a) ∧ IsC K (.tup ds) v := by
  obtain ⟨vs, h1, h2⟩ := h.all
  refine ⟨.ref a, rfl, fun m n H => .tup (.inr ⟨_, its, _, l, rfl, rfl, rfl, ?_, h1⟩) (h2 m n H)⟩
  rw [sizeLine_eq]
  omega
theorem cst_of {K : PySem.W.Frag} {mg : Str → Option Value} {x : Str} {d : FL.D} {u : Value} (hm : mg x = some u) (h : ∃ v, RelV v u ∧ IsC K d v) : Cst K mg x d := by
  obtain ⟨v, h1, h2⟩ := h
  exact cst_mk hm h1 h2
/-! ### contexts -/
section
variable {P : Program} {w : World} {K : PySem.W.Frag} {mg : Str → Option Value} {base : Heap}
theorem tkF {N : List Str} {x : Str} {sc : Scope} {f : Addr} {cdv : Value} {A : Around} {outer : List Env} {s : Shared} {H : Hp} {E : XK} : Takes (cxOf (L2.CX P w) P w K mg base N x sc f cdv A outer s H E) (fun c d _ H' => E c d H') := takes_of rfl rfl rfl rfl
theorem poF {N : List Str} {x : Str} {sc : Scope} {f : Addr} {cdv : Value} {A : Around} {outer : List Env} {s : Shared} {H : Hp} {E : XK} : PassesOwn (model P w) (cxOf (L2.CX P w) P w K mg base N x sc f cdv A outer s H E).A (cxOf (L2.CX P w) P w K mg base N x sc f cdv A outer s H E).env (cxOf (L2.CX P w) P w K mg base N x sc f cdv A outer s H E).xe := passes_of rfl
theorem tkL {X : Cx} {A : Around} {outer : List Env} {s : Shared} {H : Hp} {E : XK} {scope : Scope} {f c' : Addr} : Takes (LamX.lamCx X A outer s H E scope f c') (fun c d _ H' => E c d H') := takes_of rfl rfl rfl rfl
end
theorem Er.at0 {K : PySem.W.Frag} {mg : Str → Option Value} {g : Gc} {c : Nat} {x : Str} (e : Er K mg g c x) : ∃ C, g.cs[c]? = some C ∧ mg x = some (.ref C) := by
  obtain ⟨C, h1, h2, _⟩ := e.ex
  exact ⟨C, h1, h2⟩
/-- a look at the scopes of a comprehension -/
def blkC (N : List Str) (sc scope : Scope) (own : List (Str × Nat)) : Bool :=
  decide (scope.kind = .function) && (scope.names.all fun y => decide (scope.names.lookup y.1 = some y.2)) && (own.all fun p => decide (N[p.2]? = some p.1)) &&
  (scope.names.all fun y => !decide (y.2 = .free) || decide (sc.names.lookup y.1 = some .cell) || decide (sc.names.lookup y.1 = some .free)) &&
  (scope.names.all fun y => !(decide (y.2 = .local) || decide (y.2 = .cell)) || decide (y.1 ∈ own.map (·.1)) || !decide (y.1 ∈ N))
theorem blk_by {N : List Str} {sc scope : Scope} {own : List (Str × Nat)} (h : blkC N sc scope own = true) : BlkOk N sc scope own := by
  unfold blkC at h
  simp only [Bool.and_eq_true, Bool.or_eq_true, Bool.not_eq_true', decide_eq_true_eq, decide_eq_false_iff_not, List.all_eq_true, Bool.or_eq_false_iff] at h
  obtain ⟨⟨⟨⟨h1, h2⟩, h3⟩, h4⟩, h5⟩ := h
  refine ⟨h1, h2, h3, fun y hy e => ?_, fun y hy e => ?_⟩
  · rcases h4 y hy with (z | z) | z
    · exact absurd e z
    · exact .inl z
    · exact .inr z
  · rcases h5 y hy with (z | z) | z
    · exact absurd e (fun q => q.elim z.1 z.2)
    · exact .inl z
    · exact .inr z
/-- x += y -/
def oIadd : Op2 := fun x y h => match x, y with
    | .int _, .int _ => oAdd x y h
    | .str _, .str _ => oAdd x y h
    | _, _ => none
theorem or_iaddF {X : Cx} {g : Gc} : OpR X (inplaceOp .Add) (rO2 X.K g oIadd) := or_iadd
end FL
set_option Elab.async false
set_option linter.all false
set_option maxRecDepth 100000
set_option maxHeartbeats 2000000
/-! FL14: the end of a law. -/
namespace FL
open PySem PySem.Spec PyProof.Rows L2
section
variable {P : Program} {w : World} {K : PySem.W.Frag} {mg : Str → Option Value} {base : Heap} {g : Gc} {k : Nat}
theorem mkC {name qual : Str} {f c : Addr} {params : Arguments} {bd : List Stmt} {scope : Scope} {dV kV doc pm ct oc : Value} {an od : Option Addr} {osl : Array (Option Value)} {N ps : List Str} {sb : FSt}
    (lk : K.lookup f = some ⟨oc, od, .func (PySem.W.fnOf name qual params bd scope dV kV doc pm an (.ref c) ct), osl⟩) (hcd : PySem.W.codeIn K (.ref c) qual = true) (S : FnScope N ps scope)
    (body : ∀ (A : Around) (outer : List Env) (s : Shared) (H : Hp) (E : XK), Room k (A.deeper (envOfC qual scope s.heap.objs.size f (.ref c))) →
      PSs (cxOf (L2.CX P w) P w K mg base N qual scope f (.ref c) A outer s H E) bd (rs K g (fun c d _ H' => E c d H') sb)) :
    FnOk P w K mg base (L2.CX P w) (k + 1) f (PySem.W.fnOf name qual params bd scope dV kV doc pm an (.ref c) ct) ps (spF K g (runF ps.length N.length sb)) :=
  fn_of lk hcd S (fun vs H Q E h => spF_len h) fun A outer s H vs Q E hr h => ⟨_, body A outer s H E hr, rs_run h⟩
theorem sqL_cases {H : Hp} {a : Addr} {vs : List V} (h : SqL K H a vs) : H a = some (.lst vs) ∨ Frz K H a vs := by
  rcases h with (h | h) | h
  · exact .inl h
  · exact .inr (.inl h)
  · exact .inr (.inr h)
theorem rds_ints {m : Nat → Addr} {n : Nat} {H : Hp} (ns : List Int) : RDs K m n H (ns.map FL.D.int) (ns.map V.int) := RDs.ints ns
/-- the law's promise at a script -/
theorem sp_law {F : List FL.D → VH → Out FL.D} {ns : List Int} {H : Hp} {a : Addr} (hT : ∀ p ∈ g.T, H p.1 = some (.tbl #[])) (hS : SqL K H a (ns.map V.int)) (h1 : ∃ h', F [.fls (ns.map FL.D.int)] [] = .ok (.bl true) h') (h2 : ∃ h', F [.ref 0] [.lst (ns.map FL.D.int)] = .ok (.bl true) h') :
    spF K g F [.ref a] H (fun v _ => v = .bl true) fun _ _ _ => False := by
  have tab : LamX.Tabs g.T H := fun p hp => LamX.TabS.nil (hT p hp)
  rcases sqL_cases hS with e | e
  · obtain ⟨h', e2⟩ := h2
    refine ⟨fun _ => a, [.lst (ns.map FL.D.int)], [.ref 0], ⟨fun i j hi hj _ => ?_, fun i o hi => ?_, tab⟩, .cons (.ref (m := fun _ => a) (Nat.lt_succ_self 0)) .nil, ?_⟩
    · simp at hi hj; omega
    · cases i with
      | zero =>
        simp at hi
        subst hi
        exact ⟨_, e, rds_ints ns⟩
      | succ i => simp at hi
    · rw [e2]
      intro m' H' e1 s1 v r
      cases r
      rfl
  · obtain ⟨h', e2⟩ := h1
    refine ⟨fun _ => a, [], [.fls (ns.map FL.D.int)], ⟨fun i j hi hj _ => by simp at hi, fun i o hi => by simp at hi, tab⟩, .cons (.fls e (rds_ints ns)) .nil, ?_⟩
    rw [e2]
    intro m' H' e1 s1 v r
    cases r
    rfl
theorem lawAt_of {l : PySem.W.OpenLaw} {fa c Pt : Addr} {h : Heap} {q : Str} {fd : FuncData} {ec : Value} {dc : Option Addr} {vs : Array Value} {slc : Array (Option Value)} {o : Obj} {F : List FL.D → VH → Out FL.D} (X : K.In h) (own : LamX.OwnTab K fa h) (lk : K.lookup fa = some o) (ho : o.data = .func fd) (hcode : fd.code = .ref c) (lc : K.lookup c = some ⟨ec, dc, .fields vs, slc⟩) (v11 : vs[11]? = some (.ref Pt))
    (hd : PySem.W.codeHdIn K c Pt = true) (nP : K.lookup Pt = none) (gT : g.T = [(Pt, q)]) (hbind : ∀ (s : Shared) (u : Value), BindsTo s fd ⟨[u], []⟩ [(Str.ofString "script", u)])
    (D : ∀ base : Heap, K.In base → base.Ns mainGlobals mg → LamX.TabB base mg c Pt → FnOk l.prog w K mg base (L2.CX l.prog w) k fa fd [Str.ofString "script"] (spF K g F))
    (S : ∀ ns : List Int, ns.length ≤ 63 → (∃ h', F [.fls (ns.map FL.D.int)] [] = .ok (.bl true) h') ∧ ∃ h', F [.ref 0] [.lst (ns.map FL.D.int)] = .ok (.bl true) h') :
    LamX.LawAtS l w K (L2.CX l.prog w) k 63 (Str.ofString "script") mg fa h := by
  refine ⟨fd, [(c, Pt)], spF K g F, ?_, ?_, ?_, hbind, ?_, ?_⟩
  · intro p hp
    rw [List.mem_singleton.mp hp]
    exact own c Pt o fd ec dc vs slc lk ho hcode lc v11
  · intro p hp
    rw [List.mem_singleton.mp hp]
    exact nP
  · intro p hp
    rw [List.mem_singleton.mp hp]
    exact PySem.W.codeHd_of_K X hd
  · intro H a ns hl _ hT hS
    refine sp_law (fun p hp => ?_) hS (S ns hl).1 (S ns hl).2
    rw [gT] at hp
    rw [List.mem_singleton.mp hp]
    exact hT (c, Pt) (List.mem_singleton.mpr rfl)
  · intro base hK hN hT
    exact D base hK hN (hT (c, Pt) (List.mem_singleton.mpr rfl))
theorem exm_of {C S : Addr} {b : Bool} (h1 : PySem.W.subIn K (.ref S) (.type "BaseException") = some true) (h2 : PySem.W.isClsIn K S = true) (h3 : PySem.W.typeIn K (.ref S) = some (.type "type")) (h4 : PySem.W.subIn K (.ref C) (.ref S) = some b) : PySem.W.exmOne K (.ref C) (.ref S) = some b := by
  have e1 : (PySem.W.subIn K (.ref S) (.type "BaseException") == some true) = true := by rw [h1] <;> rfl
  have e2 : ((PySem.W.clsIn K S).isSome && PySem.W.typeIn K (.ref S) == some (.type "type")) = true := by
    have h2' : (PySem.W.clsIn K S).isSome = true := h2
    rw [h2', h3] <;> rfl
  show (if (PySem.W.subIn K (.ref S) (.type "BaseException") == some true) = true then (if ((PySem.W.clsIn K S).isSome && PySem.W.typeIn K (.ref S) == some (.type "type")) = true then PySem.W.subIn K (.ref C) (.ref S) else none) else none) = some b
  rw [if_pos e1, if_pos e2]
  exact h4
theorem subs_mk {sub : Nat → Nat → Bool} (h : ∀ C ∈ g.cs, PySem.W.subIn K (.ref C) (.type "BaseException") = some true ∧ PySem.W.isClsIn K C = true ∧ PySem.W.typeIn K (.ref C) = some (.type "type")) (hs : ∀ (i j : Nat) (C D : Addr), g.cs[i]? = some C → g.cs[j]? = some D → PySem.W.subIn K (.ref C) (.ref D) = some (sub i j)) : Subs K g sub :=
  fun c k C CS h1 h2 => exm_of (h CS (List.mem_of_getElem? h2)).1 (h CS (List.mem_of_getElem? h2)).2.1 (h CS (List.mem_of_getElem? h2)).2.2 (hs c k C CS h1 h2)
theorem f_mk {x : Str} {st : Stmt} {f : Addr} {ps : List Str} {oc : Value} {od an : Option Addr} {osl : Array (Option Value)} {kV doc pm cdv ct : Value} (m : mg x = some (.ref f)) (l : K.lookup f = some ⟨oc, od, .func (PySem.W.fnOf x x (defArgs st) (defBody st) (defScope st) .none kV doc pm an cdv ct), osl⟩)
    (c : PySem.W.codeIn K cdv x = true) (k : PySem.W.keepIn K (.ref f) = true) (b : ∀ (kV doc pm : Value) (an : Option Addr) (cdv ct : Value) (us : List Value), us.length = ps.length → bindArgs (PySem.W.fnOf x x (defArgs st) (defBody st) (defScope st) .none kV doc pm an cdv ct) ⟨us, []⟩ = pure (ps.zip us)) :
    ∃ f fd, L2.Fun K x x st f fd ∧ mg x = some (.ref f) ∧ Binds K fd ps [] := ⟨f, _, fun_mk l c k, m, (fun_mk l c k).binds b⟩
theorem er_mk {c : Nat} {x : Str} {C : Addr} (h0 : g.cs[c]? = some C) (m : mg x = some (.ref C)) (k : PySem.W.keepIn K (.ref C) = true) (q : PySem.W.excIn K C [.type "ValueError", .type "Exception", .type "BaseException", .type "object"] "ValueError.__new__" = true)
    (b : PySem.W.subIn K (.ref C) (.type "BaseException") = some true) (t : PySem.W.typeIn K (.ref C) = some (.type "type")) : Er K mg g c x := ⟨C, h0, m, k, q, b, t⟩
theorem cx_end {Pr : Program} (w : World) (H : Hp) (s : Shared) (e : Value) (s' : Shared) (h : L2.CX Pr w [] H s (fun _ _ _ => False) e s') : False := by
  obtain ⟨_, _, _, _, _, _, _, _, _, _, _, _, z⟩ := h
  exact z.elim
end
end FL
set_option Elab.async false
set_option linter.all false
set_option maxRecDepth 100000
set_option maxHeartbeats 2000000
/-! FL15: how the functions of the layer are worked out; loops; dice. Plain. -/
namespace FL
open PySem
section
variable {α β : Type} {δ : DS} {h : VH} {a b c : FE} {r : FA} {x y z : D} {xs ys : List D} {s t : FSt} {ta tb : FT}
@[simp] theorem ap_eC : eC x δ h = .ok x h := (rfl)
/-- a name's value -/
def vK : Option (Option D) → VH → Out D
  | some (some d), h => .ok d h
  | _, _ => .bad
@[simp] theorem vK_some : vK (some (some x)) h = .ok x h := (rfl)
@[simp] theorem vK_none : vK (some none) h = .bad := (rfl)
@[simp] theorem ap_eV {i : Nat} : eV i δ h = vK δ[i]? h := by
  unfold eV vK
  split <;> simp_all
/-- a bool's test -/
def bK : D → VH → Out Bool
  | .bl b, h => .ok b h
  | _, _ => .bad
@[simp] theorem bK_bl {b : Bool} : bK (.bl b) h = .ok b h := (rfl)
def iK : D → VH → Out (Option Int)
  | .int i, h => .ok (some i) h
  | _, _ => .bad
@[simp] theorem iK_int {i : Int} : iK (.int i) h = .ok (some i) h := (rfl)
def trK : Option Bool → VH → Out Bool
  | some b, h => .ok b h
  | none, _ => .bad
@[simp] theorem trK_some {b : Bool} : trK (some b) h = .ok b h := (rfl)
def chK (c : VH → Out D) (p : D → VH → Option (D × VH)) : Option (D × VH) → Out D
  | some (.bl true, h) => (c h).bind fun z h => Out.of (p z h)
  | some (.bl false, h) => .ok (.bl false) h
  | _ => .bad
@[simp] theorem chK_t {c : VH → Out D} {p : D → VH → Option (D × VH)} : chK c p (some (.bl true, h)) = (c h).bind fun z h => Out.of (p z h) := (rfl)
@[simp] theorem chK_f {c : VH → Out D} {p : D → VH → Option (D × VH)} : chK c p (some (.bl false, h)) = .ok (.bl false) h := (rfl)
@[simp] theorem chK_d {c : VH → Out D} {p : D → VH → Option (D × VH)} {b : Bool} : chK c p (some (.bl b, h)) = if b = true then (c h).bind fun z h => Out.of (p z h) else .ok (.bl false) h := by
  cases b <;> rfl
def anK (b : VH → Out D) : D → VH → Out D
  | .bl true, h => b h
  | .bl false, h => .ok (.bl false) h
  | _, _ => .bad
@[simp] theorem anK_bl {b : VH → Out D} {c : Bool} : anK b (.bl c) h = if c = true then b h else .ok (.bl false) h := by cases c <;> rfl
def orK (b : VH → Out D) : D → VH → Out D
  | .bl true, h => .ok (.bl true) h
  | .bl false, h => b h
  | _, _ => .bad
@[simp] theorem orK_bl {b : VH → Out D} {c : Bool} : orK b (.bl c) h = if c = true then .ok (.bl true) h else b h := by cases c <;> rfl
def noK : D → VH → Out D
  | .bl b, h => .ok (.bl (!b)) h
  | _, _ => .bad
@[simp] theorem noK_bl {c : Bool} : noK (.bl c) h = .ok (.bl (!c)) h := (rfl)
def toK (sub : Nat → Nat → Bool) (l : List (Nat × List Nat)) : Out D → Out D
  | .ok d h => .ok d h
  | .err c _ h => tellH sub c h l
  | .bad => .bad
@[simp] theorem toK_ok {sub : Nat → Nat → Bool} {l : List (Nat × List Nat)} : toK sub l (.ok x h) = .ok x h := (rfl)
@[simp] theorem toK_err {sub : Nat → Nat → Bool} {l : List (Nat × List Nat)} {n : Nat} {p : Option D} : toK sub l (.err n p h) = tellH sub n h l := (rfl)
def p2K (δ : DS) (i j : Nat) : List D → VH → OutS
  | [x, y], h => .nx ((δ.set i (some x)).set j (some y)) h
  | _, _ => .bad
@[simp] theorem p2K_2 {i j : Nat} : p2K δ i j [x, y] h = .nx ((δ.set i (some x)).set j (some y)) h := (rfl)
def p3K (δ : DS) (i j l : Nat) : List D → VH → OutS
  | [x, y, z], h => .nx (((δ.set i (some x)).set j (some y)).set l (some z)) h
  | _, _ => .bad
@[simp] theorem p3K_3 {i j l : Nat} : p3K δ i j l [x, y, z] h = .nx (((δ.set i (some x)).set j (some y)).set l (some z)) h := (rfl)
def stK (δ : DS) : Option VH → OutS
  | some h => .nx δ h
  | none => .bad
@[simp] theorem stK_some : stK δ (some h) = .nx δ h := (rfl)
def auK (δ : DS) (i : Nat) : Option (D × VH) → OutS
  | some (z, h) => .nx (δ.set i (some z)) h
  | none => .bad
@[simp] theorem auK_some {i : Nat} : auK δ i (some (z, h)) = .nx (δ.set i (some z)) h := (rfl)
def agK (δ : DS) (i : Nat) (o : Op2) (a : VH → Out D) : Option (Option D) → VH → OutS
  | some (some x), h => thenS δ (a h) fun y h => auK δ i (o x y h)
  | _, _ => .bad
@[simp] theorem agK_some {i : Nat} {o : Op2} {a : VH → Out D} : agK δ i o a (some (some x)) h = thenS δ (a h) fun y h => auK δ i (o x y h) := (rfl)
def gcK (gs : FGs) (xs : List D) : Option (DS × VH) → Option (DS × VH)
  | some (δ, h) => gs xs δ h
  | none => none
@[simp] theorem gcK_some {gs : FGs} : gcK gs xs (some (δ, h)) = gs xs δ h := (rfl)
def gtK (n : Nat) (gs : FGs) (δ : DS) (h : VH) : Option (List D) → Option (DS × VH)
  | some xs => if xs.length = n then gs xs δ h else none
  | none => none
@[simp] theorem gtK_some {n : Nat} {gs : FGs} : gtK n gs δ h (some xs) = if xs.length = n then gs xs δ h else none := (rfl)
def frK (g : FG) (s : FSt) (k : Nat) (δ : DS) (h : VH) : Option O → OutS
  | some (.lst xs) => forL k g s (xs.length + 1) 0 δ h
  | _ => .bad
@[simp] theorem frK_lst {g : FG} {k : Nat} : frK g s k δ h (some (.lst xs)) = forL k g s (xs.length + 1) 0 δ h := (rfl)
def lrK (g : FG) (t : FT) (e : FE) (own : List Nat) (δ : DS) (j : Nat) (h : VH) : Option O → Out D
  | some (.lst xs) => lcEnd (lcL j g t e own δ (xs.length + 1) 0 h [])
  | _ => .bad
@[simp] theorem lrK_lst {g : FG} {own : List Nat} {j : Nat} : lrK g ta a own δ j h (some (.lst xs)) = lcEnd (lcL j g ta a own δ (xs.length + 1) 0 h []) := (rfl)
@[simp] theorem bind_ok {f : α → VH → Out β} {q : α} : (Out.ok q h).bind f = f q h := (rfl)
@[simp] theorem bind_err {f : α → VH → Out β} {k : Nat} {p : Option D} : (Out.err k p h : Out α).bind f = .err k p h := (rfl)
@[simp] theorem bind_bad {f : α → VH → Out β} : (Out.bad : Out α).bind f = .bad := (rfl)
@[simp] theorem ap_e1 {o : Op1} : e1 o a δ h = (a δ h).bind fun x h => Out.of (o x h) := (rfl)
@[simp] theorem ap_e2 {o : Op2} : e2 o a b δ h = (a δ h).bind fun x h => (b δ h).bind fun y h => Out.of (o x y h) := (rfl)
@[simp] theorem ap_eIf : eIf ta a b δ h = (ta δ h).bind fun c h => if c = true then a δ h else b δ h := (rfl)
@[simp] theorem ap_aNil : aNil δ h = .ok [] h := (rfl)
@[simp] theorem ap_aCons : aCons a r δ h = (a δ h).bind fun x h => (r δ h).bind fun xs h => .ok (x :: xs) h := (rfl)
@[simp] theorem ap_eTup : eTup r δ h = (r δ h).bind fun xs h => if xs.length ≤ 16777216 then .ok (.tup xs) h else .bad := (rfl)
@[simp] theorem ap_eFl : eFl r δ h = (r δ h).bind fun xs h => if xs.length ≤ 16777216 then .ok (.fls xs) h else .bad := (rfl)
@[simp] theorem ap_eLst : eLst r δ h = (r δ h).bind fun xs h => if xs.length ≤ 16777216 then .ok (.ref h.length) (h ++ [.lst xs]) else .bad := (rfl)
@[simp] theorem ap_eB {o : List D → VH → Option (D × VH)} : eB o r δ h = (r δ h).bind fun xs h => Out.of (o xs h) := (rfl)
@[simp] theorem ap_eF {F : List D → VH → Out D} : eF F r δ h = (r δ h).bind F := (rfl)
@[simp] theorem ap_eM {ty : D → VH → Bool} {o : D → List D → VH → Option (D × VH)} : eM ty o a r δ h = (a δ h).bind fun x h => if ty x h = true then (r δ h).bind fun xs h => Out.of (o x xs h) else .bad := (rfl)
@[simp] theorem ap_pNo : pNo δ h = .ok none h := (rfl)
@[simp] theorem ap_pSo : pSo a δ h = (a δ h).bind iK := by
  unfold pSo
  congr
  funext x h
  cases x <;> rfl
@[simp] theorem ap_eSl {lo hi : FO} : eSl a lo hi δ h = (a δ h).bind fun x h => (lo δ h).bind fun l h => (hi δ h).bind fun u h => Out.of (oSl x l u h) := (rfl)
@[simp] theorem ap_eCh {o p : Op2} : eCh o p a b c δ h = (a δ h).bind fun x h => (b δ h).bind fun y h => chK (c δ) (p y) (o x y h) := by
  unfold eCh
  congr
@[simp] theorem ap_tV : tV a δ h = (a δ h).bind bK := by
  unfold tV
  congr
  funext x h
  cases x <;> rfl
@[simp] theorem ap_tTr : tTr a δ h = (a δ h).bind fun x h => trK (tru x h) h := by
  unfold tTr
  congr
  funext x h
  cases tru x h <;> rfl
@[simp] theorem ap_tAnd : tAnd ta tb δ h = (ta δ h).bind fun c h => if c = true then tb δ h else .ok false h := (rfl)
@[simp] theorem ap_tOr : tOr ta tb δ h = (ta δ h).bind fun c h => if c = true then .ok true h else tb δ h := (rfl)
@[simp] theorem ap_tNot : tNot ta δ h = (ta δ h).bind fun c h => .ok (!c) h := (rfl)
@[simp] theorem ap_tYes : tYes δ h = .ok true h := (rfl)
@[simp] theorem ap_eAnd : eAnd a b δ h = (a δ h).bind (anK (b δ)) := by
  unfold eAnd
  congr
  funext x h
  cases x with
  | bl b => cases b <;> rfl
  | _ => rfl
@[simp] theorem ap_eOr : eOr a b δ h = (a δ h).bind (orK (b δ)) := by
  unfold eOr
  congr
  funext x h
  cases x with
  | bl b => cases b <;> rfl
  | _ => rfl
@[simp] theorem ap_eNot : eNot a δ h = (a δ h).bind noK := by
  unfold eNot
  congr
  funext x h
  cases x <;> rfl
@[simp] theorem ap_eDct : eDct δ h = .ok (.ref h.length) (h ++ [.dct []]) := (rfl)
@[simp] theorem ap_eTold {sub : Nat → Nat → Bool} {l : List (Nat × List Nat)} : eTold sub l a δ h = toK sub l (a δ h) := by
  unfold eTold
  cases a δ h <;> rfl
@[simp] theorem thenS_ok {k : α → VH → OutS} {q : α} : thenS δ (.ok q h) k = k q h := (rfl)
@[simp] theorem thenS_err {k : α → VH → OutS} {n : Nat} {p : Option D} : thenS δ (.err n p h : Out α) k = .err n p δ h := (rfl)
@[simp] theorem thenS_bad {k : α → VH → OutS} : thenS δ (.bad : Out α) k = .bad := (rfl)
@[simp] theorem nextS_nx {k : DS → VH → OutS} : nextS (.nx δ h) k = k δ h := (rfl)
@[simp] theorem nextS_ret {k : DS → VH → OutS} : nextS (.ret x h) k = .ret x h := (rfl)
@[simp] theorem nextS_brk {k : DS → VH → OutS} : nextS (.brk δ h) k = .brk δ h := (rfl)
@[simp] theorem nextS_ct {k : DS → VH → OutS} : nextS (.ct δ h) k = .ct δ h := (rfl)
@[simp] theorem nextS_err {k : DS → VH → OutS} {n : Nat} {p : Option D} : nextS (.err n p δ h) k = .err n p δ h := (rfl)
@[simp] theorem nextS_bad {k : DS → VH → OutS} : nextS .bad k = .bad := (rfl)
@[simp] theorem loopS_nx {k : DS → VH → OutS} : loopS (.nx δ h) k = k δ h := (rfl)
@[simp] theorem loopS_ret {k : DS → VH → OutS} : loopS (.ret x h) k = .ret x h := (rfl)
@[simp] theorem loopS_brk {k : DS → VH → OutS} : loopS (.brk δ h) k = .nx δ h := (rfl)
@[simp] theorem loopS_ct {k : DS → VH → OutS} : loopS (.ct δ h) k = k δ h := (rfl)
@[simp] theorem loopS_err {k : DS → VH → OutS} {n : Nat} {p : Option D} : loopS (.err n p δ h) k = .err n p δ h := (rfl)
@[simp] theorem loopS_bad {k : DS → VH → OutS} : loopS .bad k = .bad := (rfl)
@[simp] theorem tgS_some {k : DS → VH → OutS} : tgS (some (δ, h)) k = k δ h := (rfl)
@[simp] theorem tgS_none {k : DS → VH → OutS} : tgS none k = .bad := (rfl)
@[simp] theorem ap_sNil : sNil δ h = .nx δ h := (rfl)
@[simp] theorem ap_sSeq : sSeq s t δ h = nextS (s δ h) t := (rfl)
@[simp] theorem ap_sEx : sEx a δ h = thenS δ (a δ h) fun _ h => .nx δ h := (rfl)
@[simp] theorem ap_sRet : sRet a δ h = thenS δ (a δ h) fun x h => .ret x h := (rfl)
@[simp] theorem ap_sRetN : sRetN δ h = .ret .non h := (rfl)
@[simp] theorem ap_sAs {g : FG} : sAs a g δ h = thenS δ (a δ h) fun x h => tgS (g x δ h) fun δ h => .nx δ h := (rfl)
@[simp] theorem ap_sIf : sIf ta s t δ h = thenS δ (ta δ h) fun c h => if c = true then s δ h else t δ h := (rfl)
@[simp] theorem ap_sCt : sCt δ h = .ct δ h := (rfl)
@[simp] theorem ap_sBr : sBr δ h = .brk δ h := (rfl)
@[simp] theorem ap_sRaise {n : Nat} : sRaise n δ h = .err n none δ h := (rfl)
@[simp] theorem ap_gN {i : Nat} : gN i x δ h = some (δ.set i (some x), h) := (rfl)
@[simp] theorem ap_gNil0 : gNil [] δ h = some (δ, h) := (rfl)
@[simp] theorem ap_gNil1 : gNil (x :: xs) δ h = none := (rfl)
@[simp] theorem ap_gCons1 {g : FG} {gs : FGs} : gCons g gs (x :: xs) δ h = gcK gs xs (g x δ h) := by
  have e : gCons g gs (x :: xs) δ h = (match g x δ h with
    | some (δ, h) => gs xs δ h
    | none => none) := rfl
  rw [e]
  cases g x δ h <;> rfl
@[simp] theorem ap_gCons0 {g : FG} {gs : FGs} : gCons g gs [] δ h = none := (rfl)
@[simp] theorem ap_gT {n : Nat} {gs : FGs} : gT n gs x δ h = gtK n gs δ h (seqOf x h) := by
  unfold gT
  cases seqOf x h <;> rfl
@[simp] theorem ap_sPar {i j : Nat} : sPar i j r δ h = thenS δ (r δ h) (p2K δ i j) := by
  unfold sPar
  congr
  funext xs h
  match xs with
  | [] => rfl
  | [_] => rfl
  | [_, _] => rfl
  | _ :: _ :: _ :: _ => rfl
@[simp] theorem ap_sPar3 {i j l : Nat} : sPar3 i j l r δ h = thenS δ (r δ h) (p3K δ i j l) := by
  unfold sPar3
  congr
  funext xs h
  match xs with
  | [] => rfl
  | [_] => rfl
  | [_, _] => rfl
  | [_, _, _] => rfl
  | _ :: _ :: _ :: _ :: _ => rfl
@[simp] theorem ap_sAug {i : Nat} {o : Op2} : sAug i o a δ h = agK δ i o (a δ) δ[i]? h := by
  have key : ∀ q : Option (D × VH), (match q with
      | some (z, h) => OutS.nx (δ.set i (some z)) h
      | none => OutS.bad) = auK δ i q := by
    intro q
    cases q <;> rfl
  unfold sAug
  cases δ[i]? with
  | none => rfl
  | some d =>
    cases d with
    | none => rfl
    | some d =>
      show thenS δ (a δ h) _ = thenS δ (a δ h) _
      congr
@[simp] theorem ap_sSub {f : D → D → D → VH → Option VH} : sSub f a b c δ h = thenS δ (a δ h) fun x h => thenS δ (b δ h) fun y h => thenS δ (c δ h) fun z h => stK δ (f y z x h) := by
  unfold sSub
  congr
@[simp] theorem ap_sFor {g : FG} : sFor a g s δ h = thenS δ (a δ h) fun x h => forX g s x δ h := (rfl)
theorem ap_sForR {g : FG} : sForR r g s δ h = thenS δ (r δ h) fun xs h => match rEnds xs with
  | some (i, j) => forT g s (rng i j) δ h
  | none => .bad := (rfl)
@[simp] theorem forX_tup {g : FG} : forX g s (.tup xs) δ h = forT g s xs δ h := (rfl)
@[simp] theorem forX_fls {g : FG} : forX g s (.fls xs) δ h = forT g s xs δ h := (rfl)
@[simp] theorem forX_str {g : FG} {l : List Nat} : forX g s (.str l) δ h = forT g s (l.map fun c => .str [c]) δ h := (rfl)
@[simp] theorem forX_fdc {g : FG} {vs : List D} : forX g s (.fdc xs vs) δ h = forT g s xs δ h := (rfl)
@[simp] theorem forX_ref {g : FG} {k : Nat} : forX g s (.ref k) δ h = frK g s k δ h h[k]? := by
  have e : forX g s (.ref k) δ h = (match h[k]? with
    | some (.lst xs) => forL k g s (xs.length + 1) 0 δ h
    | _ => .bad) := rfl
  rw [e]
  cases h[k]? with
  | none => rfl
  | some o => cases o <;> rfl
@[simp] theorem forT_nil {g : FG} : forT g s [] δ h = .nx δ h := (rfl)
@[simp] theorem forT_cons {g : FG} : forT g s (x :: xs) δ h = tgS (g x δ h) fun δ h => loopS (s δ h) (forT g s xs) := (rfl)
@[simp] theorem ap_eLc {g : FG} {own : List Nat} : eLc a g ta b own δ h = (a δ h).bind fun x h => lcX g ta b own δ x h := (rfl)
theorem ap_eLcR {g : FG} {own : List Nat} : eLcR r g ta b own δ h = (r δ h).bind fun xs h => match rEnds xs with
  | some (i, j) => lcEnd (lcT g ta b own δ (rng i j) h [])
  | none => .bad := (rfl)
@[simp] theorem lcX_ref {g : FG} {own : List Nat} {j : Nat} : lcX g ta b own δ (.ref j) h = lrK g ta b own δ j h h[j]? := by
  have e : lcX g ta b own δ (.ref j) h = (match h[j]? with
    | some (.lst xs) => lcEnd (lcL j g ta b own δ (xs.length + 1) 0 h [])
    | _ => .bad) := rfl
  rw [e]
  cases h[j]? with
  | none => rfl
  | some o => cases o <;> rfl
@[simp] theorem lcX_tup {g : FG} {own : List Nat} : lcX g ta b own δ (.tup xs) h = lcEnd (lcT g ta b own δ xs h []) := (rfl)
@[simp] theorem lcX_fls {g : FG} {own : List Nat} : lcX g ta b own δ (.fls xs) h = lcEnd (lcT g ta b own δ xs h []) := (rfl)
@[simp] theorem lcX_fdc {g : FG} {own : List Nat} {vs : List D} : lcX g ta b own δ (.fdc xs vs) h = lcEnd (lcT g ta b own δ xs h []) := (rfl)
@[simp] theorem lcX_str {g : FG} {own : List Nat} {l : List Nat} : lcX g ta b own δ (.str l) h = lcEnd (lcT g ta b own δ (l.map fun c => .str [c]) h []) := (rfl)
@[simp] theorem lcEnd_ok : lcEnd (.ok xs h) = .ok (.fls xs) h := (rfl)
@[simp] theorem of_some {q : D × VH} : Out.of (some q) = .ok q.1 q.2 := (rfl)
@[simp] theorem of_none : (Out.of none : Out D) = .bad := (rfl)
@[simp] theorem endF_ret : endF (.ret x h) = .ok x h := (rfl)
@[simp] theorem endF_nx : endF (.nx δ h) = .ok .non h := (rfl)
@[simp] theorem endF_err {n : Nat} {p : Option D} : endF (.err n p δ h) = .err n p h := (rfl)
@[simp] theorem endF_bad : endF .bad = .bad := (rfl)
end
/-! ### the heap -/
@[simp] theorem hp_at0 {h g : VH} : (h ++ g)[h.length]? = g[0]? := by rw [List.getElem?_append_right (Nat.le_refl _), Nat.sub_self]
@[simp] theorem hp_at {h g : VH} {k : Nat} : (h ++ g)[h.length + k]? = g[k]? := by rw [List.getElem?_append_right (Nat.le_add_right _ _), Nat.add_sub_cancel_left]
@[simp] theorem hp_set0 {h g : VH} {o : O} : (h ++ g).set h.length o = h ++ g.set 0 o := by rw [List.set_append_right _ _ (Nat.le_refl _), Nat.sub_self]
@[simp] theorem hp_set {h g : VH} {k : Nat} {o : O} : (h ++ g).set (h.length + k) o = h ++ g.set k o := by rw [List.set_append_right _ _ (Nat.le_add_right _ _), Nat.add_sub_cancel_left]
theorem hp_old {h g : VH} {k : Nat} {o : O} (e : h[k]? = some o) : (h ++ g)[k]? = some o := by
  rw [List.getElem?_append_left (List.getElem?_eq_some_iff.mp e).1, e]
theorem hp_lt {h : VH} {k : Nat} {o : O} (e : h[k]? = some o) : k < h.length := (List.getElem?_eq_some_iff.mp e).1
/-- h1 is h, with more behind it -/
def Pre (h h1 : VH) : Prop := ∃ g, h1 = h ++ g
theorem Pre.refl (h : VH) : Pre h h := ⟨[], by simp⟩
theorem Pre.app (h g : VH) : Pre h (h ++ g) := ⟨g, rfl⟩
theorem Pre.trans {a b c : VH} (p : Pre a b) (q : Pre b c) : Pre a c := by
  obtain ⟨g, rfl⟩ := p
  obtain ⟨g', rfl⟩ := q
  exact ⟨g ++ g', by simp⟩
theorem Pre.set {h h1 : VH} {k : Nat} {o : O} (p : Pre h h1) (hk : h.length ≤ k) : Pre h (h1.set k o) := by
  obtain ⟨g, rfl⟩ := p
  exact ⟨g.set (k - h.length) o, List.set_append_right _ _ hk⟩
theorem Pre.at {h h1 : VH} (p : Pre h h1) {k : Nat} {o : O} (e : h[k]? = some o) : h1[k]? = some o := by
  obtain ⟨g, rfl⟩ := p
  exact hp_old e
theorem Pre.len {h h1 : VH} (p : Pre h h1) : h.length ≤ h1.length := by
  obtain ⟨g, rfl⟩ := p
  simp
theorem Cl.v' {h h1 : VH} {d : D} (w : wf h) (b : bnd h.length d = true) (p : Pre h h1) : Cl h.length (.ok d h1) (.ok d h) := by
  obtain ⟨g, rfl⟩ := p
  exact .v w b
theorem Cl.e' {h h1 : VH} {c : Nat} (w : wf h) (p : Pre h h1) : Cl h.length (.err c none h1) (.err c none h) := by
  obtain ⟨g, rfl⟩ := p
  exact .e w
theorem Cl.o' {h h1 : VH} {j : Nat} {o : O} (w : wf h) (p : Pre h h1) (hj : h.length ≤ j) (e : h1[j]? = some o) (b : bndO h.length o = true) : Cl h.length (.ok (.ref j) h1) (.ok (.ref h.length) (h ++ [o])) := by
  obtain ⟨g, rfl⟩ := p
  obtain ⟨k, rfl⟩ := Nat.le.dest hj
  rw [hp_at] at e
  exact .o w e b
/-- a def whose function is the other where that promises -/
theorem Df.eqv {P : Program} {w : World} {K : PySem.W.Frag} {mg : Str → Option Value} {base : Heap} {g : Gc} {k : Nat} {x : Str} {F F' : List D → VH → Out D} (d : Df P w K mg base g k x F) (h : ∀ xs h, F' xs h = .bad ∨ F xs h = F' xs h) : Df P w K mg base g k x F' :=
  d.imp fun vs H Q E ⟨m, vh, xs, s, r, q⟩ => ⟨m, vh, xs, s, r, by
    rcases h xs vh with e | e
    · rw [e] at q; exact q.elim
    · rw [e]; exact q⟩
/-! ### operations at known values -/
section
variable {i j : Int} {a b : List Nat} {p q : Bool} {h : VH} {xs ys : List D} {x y : D} {k n : Nat}
@[simp] theorem oAdd_ii : oAdd (.int i) (.int j) h = some (.int (i + j), h) := (rfl)
@[simp] theorem oAdd_ss : oAdd (.str a) (.str b) h = if a.length + b.length ≤ 16777216 then some (.str (a ++ b), h) else none := (rfl)
@[simp] theorem oAdd_tt : oAdd (.tup xs) (.tup ys) h = if xs.length + ys.length ≤ 16777216 then some (.tup (xs ++ ys), h) else none := (rfl)
@[simp] theorem lsOf_f : lsOf (.fls xs) h = some xs := (rfl)
@[simp] theorem lsOf_r : lsOf (.ref k) h = match h[k]? with
    | some (.lst xs) => some xs
    | _ => none := (rfl)
@[simp] theorem oAdd_ff : oAdd (.fls xs) (.fls ys) h = if xs.length + ys.length ≤ 16777216 then some (.fls (xs ++ ys), h) else none := (rfl)
theorem oAdd_l (hx : lsOf x h = some xs) (hy : lsOf y h = some ys) : oAdd x y h = if xs.length + ys.length ≤ 16777216 then some (.fls (xs ++ ys), h) else none := by
  have e : oAdd x y h = match lsOf x h, lsOf y h with
    | some a, some b => if a.length + b.length ≤ 16777216 then some (.fls (a ++ b), h) else none
    | _, _ => none := by
    cases x <;> cases y <;> first | rfl | (cases hx; done) | (cases hy; done)
  rw [e, hx, hy]
@[simp] theorem oMul_fi : oMul (.fls xs) (.int i) h = if -9223372036854775808 ≤ i ∧ i < 9223372036854775808 ∧ xs.length * i.toNat ≤ 16777216 then some (.fls (List.replicate i.toNat xs).flatten, h) else none := (rfl)
@[simp] theorem oSub_ii : oSub (.int i) (.int j) h = some (.int (i - j), h) := (rfl)
@[simp] theorem oMul_ii : oMul (.int i) (.int j) h = if (-18446744073709551616 < i ∧ i < 18446744073709551616) ∨ (-18446744073709551616 < j ∧ j < 18446744073709551616) then some (.int (i * j), h) else none := (rfl)
@[simp] theorem oFdv_ii : oFdv (.int i) (.int j) h = if 0 < j ∧ j < 1073741824 then some (.int (i / j), h) else none := (rfl)
@[simp] theorem oMod_ii : oMod (.int i) (.int j) h = if 0 < j then some (.int (i % j), h) else none := (rfl)
@[simp] theorem oIadd_ii : oIadd (.int i) (.int j) h = some (.int (i + j), h) := (rfl)
@[simp] theorem oIadd_ss : oIadd (.str a) (.str b) h = if a.length + b.length ≤ 16777216 then some (.str (a ++ b), h) else none := (rfl)
@[simp] theorem oNeg_i : oNeg (.int i) h = some (.int (-i), h) := (rfl)
@[simp] theorem cEq_ii : cEq (.int i) (.int j) h = some (.bl (decide (i = j)), h) := (rfl)
@[simp] theorem cEq_ss : cEq (.str a) (.str b) h = some (.bl (decide (a = b)), h) := (rfl)
@[simp] theorem cEq_bb : cEq (.bl p) (.bl q) h = some (.bl (decide (p = q)), h) := (rfl)
@[simp] theorem cNe_ii : cNe (.int i) (.int j) h = some (.bl (!decide (i = j)), h) := (rfl)
@[simp] theorem cNe_ss : cNe (.str a) (.str b) h = some (.bl (!decide (a = b)), h) := (rfl)
@[simp] theorem cNe_bb : cNe (.bl p) (.bl q) h = some (.bl (!decide (p = q)), h) := (rfl)
@[simp] theorem cLt_ii : cLt (.int i) (.int j) h = some (.bl (decide (i < j)), h) := (rfl)
@[simp] theorem cLe_ii : cLe (.int i) (.int j) h = some (.bl (decide (i ≤ j)), h) := (rfl)
@[simp] theorem cGt_ii : cGt (.int i) (.int j) h = some (.bl (decide (j < i)), h) := (rfl)
@[simp] theorem cGe_ii : cGe (.int i) (.int j) h = some (.bl (decide (j ≤ i)), h) := (rfl)
@[simp] theorem cIs_n : cIs x .non h = some (.bl (isNon x), h) := (rfl)
@[simp] theorem cIsn_n : cIsn x .non h = some (.bl (!isNon x), h) := (rfl)
@[simp] theorem oIx_t : oIx (.tup xs) (.int i) h = match atI xs i with
    | some d => some (d, h)
    | none => none := (rfl)
@[simp] theorem oIx_f : oIx (.fls xs) (.int i) h = match atI xs i with
    | some d => some (d, h)
    | none => none := (rfl)
@[simp] theorem oIx_r : oIx (.ref k) x h = match oIxR h[k]? x with
    | some d => some (d, h)
    | none => none := (rfl)
@[simp] theorem oIxR_l : oIxR (some (.lst xs)) (.int i) = atI xs i := (rfl)
@[simp] theorem bLen_s : bLen [.str a] h = if a.length ≤ 16777216 then some (.int a.length, h) else none := (rfl)
@[simp] theorem bLen_t : bLen [.tup xs] h = some (.int xs.length, h) := (rfl)
@[simp] theorem bLen_f : bLen [.fls xs] h = some (.int xs.length, h) := (rfl)
@[simp] theorem bLen_r : bLen [.ref k] h = match h[k]? with
    | some (.lst xs) => some (.int xs.length, h)
    | some (.dct xs) => some (.int xs.length, h)
    | _ => none := (rfl)
@[simp] theorem bInt_i : bInt [.int i] h = some (.int i, h) := (rfl)
@[simp] theorem bInt_b : bInt [.bl p] h = some (.int (if p = true then 1 else 0), h) := (rfl)
@[simp] theorem bAbs_i : bAbs [.int i] h = some (.int (if i < 0 then -i else i), h) := (rfl)
@[simp] theorem bMax2_i : bMax2 [.int i, .int j] h = some (.int (if j > i then j else i), h) := (rfl)
@[simp] theorem bMin2_i : bMin2 [.int i, .int j] h = some (.int (if j < i then j else i), h) := (rfl)
@[simp] theorem isL_r : isL (.ref k) h = match h[k]? with
    | some (.lst _) => true
    | _ => false := (rfl)
@[simp] theorem isLs_f : isLs (.fls xs) h = true := (rfl)
@[simp] theorem isLs_r : isLs (.ref k) h = (match h[k]? with
    | some (.lst xs) => some xs
    | _ => none).isSome := (rfl)
@[simp] theorem isT_t : isT (.tup xs) h = true := (rfl)
@[simp] theorem isS_s : isS (.str a) h = true := (rfl)
@[simp] theorem mAppend_r : mAppend (.ref k) [y] h = match h[k]? with
    | some (.lst xs) => if xs.length < 16777216 then some (.non, h.set k (.lst (xs ++ [y]))) else none
    | _ => none := (rfl)
@[simp] theorem seqOf_t : seqOf (.tup xs) h = some xs := (rfl)
@[simp] theorem seqOf_f : seqOf (.fls xs) h = some xs := (rfl)
@[simp] theorem seqOf_r : seqOf (.ref k) h = match h[k]? with
    | some (.lst xs) => some xs
    | _ => none := (rfl)
@[simp] theorem setL_r : setL (.ref k) (.int i) x h = match h[k]? with
    | some (.lst xs) => match ixN xs.length i with
      | some j => some (h.set k (.lst (xs.set j x)))
      | none => none
    | _ => none := (rfl)
@[simp] theorem bTup_r : bTup [.ref k] h = match h[k]? with
    | some (.lst xs) => some (.tup xs, h)
    | _ => none := by
  rw [show bTup [.ref k] h = (match seqOf (.ref k) h with | some xs => some (.tup xs, h) | none => none) from rfl, seqOf_r]
  cases h[k]? with
  | none => rfl
  | some o => cases o <;> rfl
@[simp] theorem mSplit_s {c : Nat} : mSplit (.str a) [.str [c]] h = if c < 256 ∧ a.length + 2 ≤ 16777216 then some (.fls ((splitC c a).map D.str), h) else none := (rfl)
@[simp] theorem mJoin_s : mJoin (.str a) [x] h = match seqOf x h with
    | some xs => match allT xs with
      | some l => if (l.map (·.length)).sum + l.length * a.length ≤ 16777216 then some (.str (joinL a l), h) else none
      | none => none
    | none => none := (rfl)
@[simp] theorem oSl_s {lo hi : Option Int} : oSl (.str a) lo hi h = if a.length ≤ 16777216 then some (.str (cut a lo hi), h) else none := (rfl)
@[simp] theorem oSl_t {lo hi : Option Int} : oSl (.tup xs) lo hi h = some (.tup (cut xs lo hi), h) := (rfl)
@[simp] theorem oSl_f {lo hi : Option Int} : oSl (.fls xs) lo hi h = some (.fls (cut xs lo hi), h) := (rfl)
@[simp] theorem oSl_r {lo hi : Option Int} : oSl (.ref k) lo hi h = match lsOf (.ref k) h with
    | some xs => some (.fls (cut xs lo hi), h)
    | none => none := (rfl)
@[simp] theorem bTup_f : bTup [.fls xs] h = some (.tup xs, h) := (rfl)
@[simp] theorem bTup_t : bTup [.tup xs] h = some (.tup xs, h) := (rfl)
@[simp] theorem bList_f : bList [.fls xs] h = some (.fls xs, h) := (rfl)
@[simp] theorem bList_t : bList [.tup xs] h = some (.fls xs, h) := (rfl)
@[simp] theorem bIsi_x {s : String} : bIsi [x, .ty s] h = match tyN x h with
    | some t => match isiN t s with
      | some b => some (.bl b, h)
      | none => none
    | none => none := (rfl)
@[simp] theorem tyN_i : tyN (.int i) h = some "int" := (rfl)
@[simp] theorem tyN_b : tyN (.bl p) h = some "bool" := (rfl)
@[simp] theorem tyN_s : tyN (.str a) h = some "str" := (rfl)
@[simp] theorem tyN_n : tyN .non h = some "NoneType" := (rfl)
@[simp] theorem tyN_t : tyN (.tup xs) h = some "tuple" := (rfl)
@[simp] theorem tyN_f : tyN (.fls xs) h = some "list" := (rfl)
@[simp] theorem isi_ii : isiN "int" "int" = some true := by decide
@[simp] theorem isi_ib : isiN "int" "bool" = some false := by decide
@[simp] theorem isi_is : isiN "int" "str" = some false := by decide
@[simp] theorem isi_it : isiN "int" "tuple" = some false := by decide
@[simp] theorem isi_bi : isiN "bool" "int" = some true := by decide
@[simp] theorem isi_bb : isiN "bool" "bool" = some true := by decide
@[simp] theorem isi_bs : isiN "bool" "str" = some false := by decide
@[simp] theorem isi_bt : isiN "bool" "tuple" = some false := by decide
@[simp] theorem isi_si : isiN "str" "int" = some false := by decide
@[simp] theorem isi_sb : isiN "str" "bool" = some false := by decide
@[simp] theorem isi_ss : isiN "str" "str" = some true := by decide
@[simp] theorem isi_st : isiN "str" "tuple" = some false := by decide
@[simp] theorem isi_ni : isiN "NoneType" "int" = some false := by decide
@[simp] theorem isi_nb : isiN "NoneType" "bool" = some false := by decide
@[simp] theorem isi_ns : isiN "NoneType" "str" = some false := by decide
@[simp] theorem isi_nt : isiN "NoneType" "tuple" = some false := by decide
@[simp] theorem isi_ti : isiN "tuple" "int" = some false := by decide
@[simp] theorem isi_tb : isiN "tuple" "bool" = some false := by decide
@[simp] theorem isi_ts : isiN "tuple" "str" = some false := by decide
@[simp] theorem isi_tt : isiN "tuple" "tuple" = some true := by decide
end
@[simp] theorem atI_0 {α : Type} {a : α} {l : List α} : atI (a :: l) 0 = some a := by
  have : ixN (l.length + 1) 0 = some 0 := by
    unfold ixN
    rw [if_pos (by omega), if_pos (by omega)] <;> rfl
  unfold atI
  rw [List.length_cons, this] <;> rfl
theorem atI_nat {α : Type} {l : List α} {i : Nat} : atI l (i : Int) = l[i]? := by
  unfold atI ixN
  rw [if_pos (by omega)]
  by_cases h : i < l.length
  · rw [if_pos (by omega)]
    simp
  · rw [if_neg (by omega)]
    simp at h
    exact (List.getElem?_eq_none_iff.mpr h).symm
theorem atI_int {α : Type} {l : List α} {i : Int} (hi : 0 ≤ i) : atI l i = l[i.toNat]? := by
  obtain ⟨n, rfl⟩ := Int.eq_ofNat_of_zero_le hi
  exact atI_nat
/-! ### loops -/
/-- it goes on, and P holds behind it -/
inductive OkS (P : DS → VH → Prop) : OutS → Prop
  | mk {δ : DS} {h : VH} : P δ h → OkS P (.nx δ h)
/-- a turn goes on, and P holds behind it -/
inductive OkT (P : DS → VH → Prop) : OutS → Prop
  | mk {δ : DS} {h : VH} : P δ h → OkT P (.nx δ h)
  | ct {δ : DS} {h : VH} : P δ h → OkT P (.ct δ h)
theorem OkS.ex {P : DS → VH → Prop} {o : OutS} (q : OkS P o) : ∃ δ h, o = .nx δ h ∧ P δ h := by
  cases q with
  | mk q => exact ⟨_, _, rfl, q⟩
theorem OkS.seq {P : DS → VH → Prop} {s t : FSt} {δ δ1 : DS} {h h1 : VH} (e : s δ h = .nx δ1 h1) (q : OkS P (t δ1 h1)) : OkS P (sSeq s t δ h) := by
  rw [ap_sSeq, e, nextS_nx]
  exact q
theorem OkS.seqP {P R : DS → VH → Prop} {s t : FSt} {δ : DS} {h : VH} (e : OkS R (s δ h)) (q : ∀ δ1 h1, R δ1 h1 → OkS P (t δ1 h1)) : OkS P (sSeq s t δ h) := by
  obtain ⟨δ1, h1, e1, r⟩ := e.ex
  exact .seq e1 (q _ _ r)
theorem OkT.of {P : DS → VH → Prop} {o : OutS} (q : OkS P o) : OkT P o := by
  cases q with
  | mk q => exact .mk q
theorem OkT.nx {P : DS → VH → Prop} {o : OutS} {δ : DS} {h : VH} (e : o = .nx δ h) (p : P δ h) : OkT P o := by rw [e]; exact .mk p
theorem OkS.nx {P : DS → VH → Prop} {o : OutS} {δ : DS} {h : VH} (e : o = .nx δ h) (p : P δ h) : OkS P o := by rw [e]; exact .mk p
/-- a turn that goes on, then the rest -/
theorem OkT.loop {P Q : DS → VH → Prop} {o : OutS} {k : DS → VH → OutS} (q : OkT P o) (hk : ∀ δ h, P δ h → OkS Q (k δ h)) : OkS Q (loopS o k) := by
  cases q with
  | mk q => exact hk _ _ q
  | ct q => exact hk _ _ q
/-- over a row that stays -/
theorem forT_inv {g : FG} {s : FSt} (I : List D → DS → VH → Prop) {xs : List D} {δ : DS} {h : VH} (h0 : I xs δ h) (turn : ∀ x xs δ h, I (x :: xs) δ h → ∃ δ1 h1, g x δ h = some (δ1, h1) ∧ OkT (I xs) (s δ1 h1)) : OkS (I []) (forT g s xs δ h) := by
  induction xs generalizing δ h with
  | nil => exact .mk h0
  | cons x xs ih =>
    obtain ⟨δ1, h1, e1, q⟩ := turn _ _ _ _ h0
    rw [forT_cons, e1, tgS_some]
    exact q.loop fun δ2 h2 => ih
theorem forL_end {k : Nat} {g : FG} {s : FSt} {f i : Nat} {δ : DS} {h : VH} {xs : List D} (e : h[k]? = some (.lst xs)) (ex : xs[i]? = none) : forL k g s (f + 1) i δ h = .nx δ h := by
  simp only [forL, e, ex]
theorem forL_step {k : Nat} {g : FG} {s : FSt} {f i : Nat} {δ : DS} {h : VH} {xs : List D} {x : D} (e : h[k]? = some (.lst xs)) (ex : xs[i]? = some x) : forL k g s (f + 1) i δ h = tgS (g x δ h) fun δ h => loopS (s δ h) (forL k g s f (i + 1)) := by
  simp only [forL, e, ex]
/-- over a list that stays as it is -/
theorem forL_inv {k : Nat} {g : FG} {s : FSt} {xs : List D} (I : Nat → DS → VH → Prop) (hk : ∀ i δ h, I i δ h → h[k]? = some (.lst xs)) (turn : ∀ i x δ h, xs[i]? = some x → I i δ h → ∃ δ1 h1, g x δ h = some (δ1, h1) ∧ OkT (I (i + 1)) (s δ1 h1)) :
    ∀ (f i : Nat) (δ : DS) (h : VH), xs.length < f + i → i ≤ xs.length → I i δ h → OkS (I xs.length) (forL k g s f i δ h)
  | 0, i, δ, h, hf, hi, _ => by omega
  | f + 1, i, δ, h, hf, hi, q => by
    cases ex : xs[i]? with
    | none =>
      rw [forL_end (hk i δ h q) ex]
      have := List.getElem?_eq_none_iff.mp ex
      have e : i = xs.length := by omega
      subst e
      exact .mk q
    | some x =>
      have hl := (List.getElem?_eq_some_iff.mp ex).1
      rw [forL_step (hk i δ h q) ex]
      obtain ⟨δ1, h1, e1, q1⟩ := turn i x δ h ex q
      rw [e1, tgS_some]
      exact q1.loop fun δ2 h2 q2 => forL_inv I hk turn f (i + 1) δ2 h2 (by omega) (by omega) q2
theorem forX_inv {k : Nat} {g : FG} {s : FSt} {xs : List D} {δ : DS} {h : VH} (I : Nat → DS → VH → Prop) (hk : ∀ i δ h, I i δ h → h[k]? = some (.lst xs)) (turn : ∀ i x δ h, xs[i]? = some x → I i δ h → ∃ δ1 h1, g x δ h = some (δ1, h1) ∧ OkT (I (i + 1)) (s δ1 h1)) (h0 : I 0 δ h) : OkS (I xs.length) (forX g s (.ref k) δ h) := by
  rw [forX_ref, hk 0 δ h h0, frK_lst]
  exact forL_inv I hk turn _ 0 δ h (by omega) (Nat.zero_le _) h0

/-! ### dice -/
abbrev Dc := Int × Int × Int
def dO (s : Dc) : O := .lst [.int s.1, .int s.2.1, .int s.2.2]
def asD : O → Option Dc
  | .lst [.int a, .int b, .int c] => some (a, b, c)
  | _ => none
@[simp] theorem asD_dO (s : Dc) : asD (dO s) = some s := (rfl)
theorem asD_some {o : O} {s : Dc} (e : asD o = some s) : o = dO s := by
  unfold asD at e
  split at e
  · cases e; rfl
  · cases e
def isM (s : Dc) : Bool := decide (s.2.2 = 2) || (decide (s.2.2 = 1) && decide (0 < s.1))
/-- the next state of a die -/
def dNext (s : Dc) (m : Int) : Dc := if isM s = true then (s.1 / m, s.2.1, s.2.2) else ((s.1 * 48271 + s.2.1 * 69621 + 11) % 2147483647, s.2.1 + 1, 0)
/-- what is rolled -/
def dVal (s : Dc) (m : Int) : Int := if isM s = true then s.1 % m else ((s.1 * 48271 + s.2.1 * 69621 + 11) % 2147483647 / 7 + (s.1 * 48271 + s.2.1 * 69621 + 11) % 2147483647) % m
theorem dVal_lo {s : Dc} {m : Int} (h : 0 < m) : 0 ≤ dVal s m := by
  unfold dVal
  split
  · exact Int.emod_nonneg _ (by omega)
  · exact Int.emod_nonneg _ (by omega)
theorem dVal_hi {s : Dc} {m : Int} (h : 0 < m) : dVal s m < m := by
  unfold dVal
  split
  · exact Int.emod_lt_of_pos _ h
  · exact Int.emod_lt_of_pos _ h
def rollS : List D → VH → Out D
  | [.ref d, .int m], h => if 0 < m ∧ m < 1073741824 then (match h[d]? with
    | some o => match asD o with
      | some s => .ok (.int (dVal s m)) (h.set d (dO (dNext s m)))
      | none => .bad
    | none => .bad) else .bad
  | _, _ => .bad
theorem rollS_ok {d : Nat} {m : Int} {h : VH} {s : Dc} (hm : 0 < m) (hm2 : m < 1073741824) (e : h[d]? = some (dO s)) : rollS [.ref d, .int m] h = .ok (.int (dVal s m)) (h.set d (dO (dNext s m))) := by
  simp only [rollS, hm, hm2, and_self, if_true, e, asD_dO]
def b_law_dice : FSt :=
  (sSeq (sIf (tV (eCh cLt cLt (e2 oSub (eC (.int 0)) (eC (.int 10))) (eV 0) (eC (.int 10)))) (sRet (eLst (aCons (eB bAbs (aCons (eV 0) aNil)) (aCons (eC (.int 0)) (aCons (eC (.int 2)) aNil))))) sNil)
  (sRet (eLst (aCons (eV 0) (aCons (e2 oAdd (eC (.int 1)) (e2 oMod (eB bInt (aCons (eV 0) aNil)) (eC (.int 1009)))) (aCons (eB bInt (aCons (e2 cGe (eV 0) (e2 oPow (eC (.int 10)) (eC (.int 18)))) aNil)) aNil))))))
def b_law_roll : FSt :=
  (sSeq (sIf (tOr (tV (e2 cEq (e2 oIx (eV 0) (eC (.int 2))) (eC (.int 2)))) (tAnd (tV (e2 cEq (e2 oIx (eV 0) (eC (.int 2))) (eC (.int 1)))) (tV (e2 cGt (e2 oIx (eV 0) (eC (.int 0))) (eC (.int 0)))))) (sSeq (sAs (e2 oMod (eB bInt (aCons (e2 oIx (eV 0) (eC (.int 0))) aNil)) (eV 1)) (gN 2))
  (sSeq (sSub setL (e2 oFdv (e2 oIx (eV 0) (eC (.int 0))) (eV 1)) (eV 0) (eC (.int 0)))
  (sRet (eV 2)))) sNil)
  (sSeq (sSub setL (eC (.int 0)) (eV 0) (eC (.int 2)))
  (sSeq (sSub setL (e2 oMod (eB bInt (aCons (e2 oAdd (e2 oAdd (e2 oMul (e2 oIx (eV 0) (eC (.int 0))) (eC (.int 48271))) (e2 oMul (e2 oIx (eV 0) (eC (.int 1))) (eC (.int 69621)))) (eC (.int 11))) aNil)) (eC (.int 2147483647))) (eV 0) (eC (.int 0)))
  (sSeq (sSub setL (e2 oAdd (e2 oIx (eV 0) (eC (.int 1))) (eC (.int 1))) (eV 0) (eC (.int 1)))
  (sRet (e2 oMod (eB bInt (aCons (e2 oAdd (e2 oFdv (e2 oIx (eV 0) (eC (.int 0))) (eC (.int 7))) (e2 oIx (eV 0) (eC (.int 0)))) aNil)) (eV 1)))))))
def b_law_rounds (F_law_dice : List FL.D → VH → Out FL.D) : FSt :=
  (sSeq (sAs (eSl (eV 0) pNo (pSo (eV 1))) (gN 2))
  (sSeq (sIf (tV (e2 cEq (eV 2) (eFl aNil))) (sAs (eFl (aCons (eC (.int 0)) aNil)) (gN 2)) sNil)
  (sRet (FL.eLc (eV 2) (gN 3) tYes (eF F_law_dice (aCons (eV 3) aNil)) [3]))))
theorem atI_1 {α : Type} {a b c : α} : atI [a, b, c] 0 = some a ∧ atI [a, b, c] 1 = some b ∧ atI [a, b, c] 2 = some c := by
  refine ⟨rfl, rfl, rfl⟩
theorem roll_eq (xs : List D) (h : VH) : rollS xs h = .bad ∨ runF 2 3 b_law_roll xs h = rollS xs h := by
  unfold rollS
  split
  · rename_i d m
    split
    · rename_i hm
      cases e : h[d]? with
      | none => exact .inl rfl
      | some o =>
        dsimp only
        cases ea : asD o with
        | none => exact .inl rfl
        | some s =>
          right
          have eo := asD_some ea
          subst eo
          obtain ⟨a, b, c⟩ := s
          have hs : ∀ o', (h.set d o')[d]? = some o' := fun o' => List.getElem?_set_self (hp_lt e)
          have e' : h[d]? = some (.lst [.int a, .int b, .int c]) := e
          have hc : c = 2 ∨ (c = 1 ∧ 0 < a) ∨ (c = 1 ∧ ¬ 0 < a) ∨ (¬ c = 2 ∧ ¬ c = 1) := by omega
          rcases hc with h2 | ⟨h2, h0⟩ | ⟨h2, h0⟩ | ⟨h2, h1⟩
          · subst h2
            simp [runF, b_law_roll, e', hs, atI_1, ixN, hm.1, hm.2, dVal, dNext, isM, dO]
          · subst h2
            simp [runF, b_law_roll, e', hs, atI_1, ixN, hm.1, hm.2, dVal, dNext, isM, dO, h0]
          · subst h2
            simp [runF, b_law_roll, e', hs, atI_1, ixN, hm.1, hm.2, dVal, dNext, isM, dO, h0]
          · simp [runF, b_law_roll, e', hs, atI_1, ixN, hm.1, hm.2, dVal, dNext, isM, dO, h1, h2]
    · exact .inl rfl
  · exact .inl rfl
end FL
set_option Elab.async false
set_option linter.all false
set_option maxRecDepth 100000
set_option maxHeartbeats 2000000
/-! FL16: comprehensions, data, texts, rounds. Plain. -/
namespace FL
open PySem
/-! ### comprehensions -/
/-- each turn known, the heap left -/
theorem lcT_map {g : FG} {t : FT} {e : FE} {own : List Nat} {δ : DS} {h : VH} (p : D → Bool) (f : D → D) : ∀ (xs : List D) (acc : List D), acc.length + xs.length ≤ 16777216 →
    (∀ x ∈ xs, ∃ δ1, g x (wipe δ own) h = some (δ1, h) ∧ t δ1 h = .ok (p x) h ∧ (p x = true → e δ1 h = .ok (f x) h)) → lcT g t e own δ xs h acc = .ok (acc ++ (xs.filter p).map f) h
  | [], acc, _, _ => by simp [lcT]
  | x :: xs, acc, hl, H => by
    obtain ⟨δ1, e1, e2, e3⟩ := H x List.mem_cons_self
    have hl' : acc.length + xs.length + 1 ≤ 16777216 := by rw [List.length_cons] at hl; omega
    unfold lcT
    simp only [e1, e2]
    cases hp : p x with
    | false =>
      dsimp only
      rw [lcT_map p f xs acc (by omega) fun y hy => H y (List.mem_cons_of_mem _ hy), List.filter_cons, hp] <;> rfl
    | true =>
      dsimp only
      rw [e3 hp]
      dsimp only
      rw [if_pos (by omega), lcT_map p f xs _ (by simp; omega) fun y hy => H y (List.mem_cons_of_mem _ hy), List.filter_cons, hp]
      simp
/-- no test -/
theorem lcT_all {g : FG} {e : FE} {own : List Nat} {δ : DS} {h : VH} (f : D → D) (xs : List D) (hl : xs.length ≤ 16777216) (H : ∀ x ∈ xs, ∃ δ1, g x (wipe δ own) h = some (δ1, h) ∧ e δ1 h = .ok (f x) h) : lcT g tYes e own δ xs h [] = .ok (xs.map f) h := by
  rw [lcT_map (fun _ => true) f xs [] (by simpa using hl) fun x hx => by
    obtain ⟨δ1, e1, e2⟩ := H x hx
    exact ⟨δ1, e1, rfl, fun _ => e2⟩]
  rw [List.filter_eq_self.mpr (fun _ _ => rfl), List.nil_append]
/-- with a state -/
theorem lcT_st {α : Type} {g : FG} {t : FT} {e : FE} {own : List Nat} {δ : DS} (I : List D → List D → VH → Prop)
    (turn : ∀ x xs acc h, I (x :: xs) acc h → ∃ δ1 h1, g x (wipe δ own) h = some (δ1, h1) ∧ ((∃ h2, t δ1 h1 = .ok false h2 ∧ I xs acc h2) ∨ (∃ h2 h3 y, t δ1 h1 = .ok true h2 ∧ e δ1 h2 = .ok y h3 ∧ acc.length < 16777216 ∧ I xs (acc ++ [y]) h3))) :
    ∀ (xs : List D) (acc : List D) (h : VH), I xs acc h → ∃ acc' h', lcT g t e own δ xs h acc = .ok acc' h' ∧ I [] acc' h'
  | [], acc, h, q => ⟨acc, h, rfl, q⟩
  | x :: xs, acc, h, q => by
    obtain ⟨δ1, h1, e1, q1⟩ := turn x xs acc h q
    rcases q1 with ⟨h2, e2, q2⟩ | ⟨h2, h3, y, e2, e3, hz, q2⟩
    · obtain ⟨acc', h', r1, r2⟩ := lcT_st (α := α) I turn xs acc h2 q2
      exact ⟨acc', h', by simp only [lcT, e1, e2, r1], r2⟩
    · obtain ⟨acc', h', r1, r2⟩ := lcT_st (α := α) I turn xs (acc ++ [y]) _ q2
      exact ⟨acc', h', by simp only [lcT, e1, e2, e3, hz, if_true, r1], r2⟩
/-- over a list that stays as it is, as over its items -/
theorem lcL_eq {j : Nat} {g : FG} {t : FT} {e : FE} {own : List Nat} {δ : DS} {xs : List D} (I : VH → Prop) (hj : ∀ h, I h → h[j]? = some (.lst xs)) (turn : ∀ x ∈ xs, ∀ h, I h → match g x (wipe δ own) h with
      | none => True
      | some (δ1, h1) => match t δ1 h1 with
        | .ok false h2 => I h2
        | .ok true h2 => match e δ1 h2 with
          | .ok _ h3 => I h3
          | _ => True
        | _ => True) :
    ∀ (f i : Nat) (h : VH) (acc : List D), xs.length < f + i → i ≤ xs.length → I h → lcL j g t e own δ f i h acc = lcT g t e own δ (xs.drop i) h acc
  | 0, i, h, acc, hf, hi, _ => by omega
  | f + 1, i, h, acc, hf, hi, q => by
    unfold lcL
    rw [hj h q]
    dsimp only
    cases hx : xs[i]? with
    | none =>
      have : xs.length ≤ i := List.getElem?_eq_none_iff.mp hx
      rw [List.drop_eq_nil_of_le this] <;> rfl
    | some x =>
      have hlt := (List.getElem?_eq_some_iff.mp hx).1
      have he := (List.getElem?_eq_some_iff.mp hx).2
      rw [List.drop_eq_getElem_cons hlt, he]
      have T := turn x (List.mem_of_getElem? hx) h q
      unfold lcT
      dsimp only
      cases e1 : g x (wipe δ own) h with
      | none => rfl
      | some p =>
        obtain ⟨δ1, h1⟩ := p
        rw [e1] at T
        dsimp only at T ⊢
        cases e2 : t δ1 h1 with
        | ok b h2 =>
          rw [e2] at T
          cases b with
          | false => exact lcL_eq I hj turn f (i + 1) h2 acc (by omega) (by omega) T
          | true =>
            dsimp only at T ⊢
            cases e3 : e δ1 h2 with
            | ok y h3 =>
              rw [e3] at T
              dsimp only
              split
              · exact lcL_eq I hj turn f (i + 1) h3 _ (by omega) (by omega) T
              · rfl
            | _ => rfl
        | _ => rfl
/-! ### data -/
@[simp] theorem eqv_ss (a b : List Nat) : PyData.eqv (.str ⟨a.toArray⟩) (.str ⟨b.toArray⟩) = decide (a = b) := by
  by_cases e : a = b
  · subst e; simp [PyData.eqv]
  · simp [PyData.eqv, e]
@[simp] theorem eqv_ii (a b : Int) : PyData.eqv (.int a) (.int b) = decide (a = b) := by
  by_cases e : a = b
  · subst e; simp [PyData.eqv]
  · simp [PyData.eqv, e]
theorem allS_map {α β γ : Type} {f : α → β} {g : β → Option γ} {u : α → γ} (e : ∀ a, g (f a) = some (u a)) : ∀ l : List α, allS ((l.map f).map g) = some (l.map u)
  | [] => rfl
  | a :: l => by
    rw [List.map_cons, List.map_cons, e a, List.map_cons]
    simp only [allS, allS_map e l]
theorem toP_str {n : Nat} {h : VH} (a : List Nat) : toP (n + 1) h (.str a) = some (.str ⟨a.toArray⟩) := rfl
theorem toP_int {n : Nat} {h : VH} (a : Int) : toP (n + 1) h (.int a) = some (.int a) := rfl
theorem toPs_str {n : Nat} {h : VH} (l : List (List Nat)) : allS ((l.map D.str).map (toP (n + 1) h)) = some (l.map fun a => .str ⟨a.toArray⟩) := allS_map (fun a => toP_str a) l
theorem toPs_int {n : Nat} {h : VH} (l : List Int) : allS ((l.map D.int).map (toP (n + 1) h)) = some (l.map .int) := allS_map (fun a => toP_int a) l
theorem any_strs (l : List (List Nat)) (a : List Nat) : ((l.map fun a => PyData.str ⟨a.toArray⟩).any fun z => PyData.eqv z (.str ⟨a.toArray⟩)) = decide (a ∈ l) := by
  induction l with
  | nil => simp
  | cons b l ih =>
    rw [List.map_cons, List.any_cons, ih, eqv_ss]
    by_cases e : b = a
    · subst e; simp
    · have e' : ¬ a = b := fun z => e z.symm
      simp [e, e']
theorem any_ints (l : List Int) (a : Int) : ((l.map PyData.int).any fun z => PyData.eqv z (.int a)) = decide (a ∈ l) := by
  induction l with
  | nil => simp
  | cons b l ih =>
    rw [List.map_cons, List.any_cons, ih, eqv_ii]
    by_cases e : b = a
    · subst e; simp
    · have e' : ¬ a = b := fun z => e z.symm
      simp [e, e']
theorem inD_strT {a : List Nat} {l : List (List Nat)} {h : VH} : inD (.str a) (.tup (l.map D.str)) h = some (decide (a ∈ l)) := by
  have e : inD (.str a) (.tup (l.map D.str)) h = (match toP deep h (.str a), allS ((l.map D.str).map (toP deep h)) with
    | some a, some l => some (l.any fun z => PyData.eqv z a)
    | _, _ => none) := by
    unfold inD
    split
    · rename_i heq; cases heq
    · rename_i heq; cases heq; rfl
    · rename_i heq; cases heq
    · rename_i heq; cases heq
    · rename_i heq; cases heq
    · rename_i h1 h2 h3 h4 h5; exact (h1 _ rfl).elim
  rw [e, show deep = 11 + 1 from rfl, toP_str, toPs_str]
  exact congrArg some (any_strs l a)
theorem inD_intT {a : Int} {l : List Int} {h : VH} : inD (.int a) (.tup (l.map D.int)) h = some (decide (a ∈ l)) := by
  have e : inD (.int a) (.tup (l.map D.int)) h = (match toP deep h (.int a), allS ((l.map D.int).map (toP deep h)) with
    | some a, some l => some (l.any fun z => PyData.eqv z a)
    | _, _ => none) := rfl
  rw [e, show deep = 11 + 1 from rfl, toP_int, toPs_int]
  exact congrArg some (any_ints l a)
theorem find_strs (l : List (List Nat)) (a : List Nat) : findE (l.map fun a => PyData.str ⟨a.toArray⟩) (.str ⟨a.toArray⟩) = l.findIdx? (fun b => decide (b = a)) := by
  unfold findE
  induction l with
  | nil => rfl
  | cons b l ih =>
    rw [List.map_cons, List.findIdx?_cons, List.findIdx?_cons, ih, eqv_ss]
theorem mIndexT_strs {a : List Nat} {l : List (List Nat)} {h : VH} : mIndexT (.tup (l.map D.str)) [.str a] h = match l.findIdx? (fun b => decide (b = a)) with
    | some j => some (.int j, h)
    | none => none := by
  have e : mIndexT (.tup (l.map D.str)) [.str a] h = (match (match toP deep h (.str a), allS ((l.map D.str).map (toP deep h)) with
    | some a, some l => findE l a
    | _, _ => none) with
    | some j => some (.int j, h)
    | none => none) := rfl
  rw [e, show deep = 11 + 1 from rfl, toP_str, toPs_str]
  dsimp only
  rw [find_strs]
theorem allT_strs : ∀ l : List (List Nat), allT (l.map D.str) = some l
  | [] => rfl
  | a :: l => by
    rw [List.map_cons]
    simp only [allT, allT_strs l]
theorem allI_ints : ∀ l : List Int, allI (l.map D.int) = some l
  | [] => rfl
  | a :: l => by
    rw [List.map_cons]
    simp only [allI, allI_ints l]
/-! ### texts -/
theorem splitC_none {c : Nat} : ∀ {a : List Nat}, c ∉ a → splitC c a = [a]
  | [], _ => rfl
  | x :: a, h => by
    have h1 : ¬ x = c := fun e => h (by rw [e]; exact List.mem_cons_self)
    have h2 := splitC_none (c := c) (a := a) fun e => h (List.mem_cons_of_mem _ e)
    simp only [splitC, h1, if_false, h2]
theorem splitC_app {c : Nat} : ∀ {a : List Nat} (b : List Nat), c ∉ a → splitC c (a ++ (c :: b)) = a :: splitC c b
  | [], b, _ => by simp only [List.nil_append, splitC, if_true]
  | x :: a, b, h => by
    have h1 : ¬ x = c := fun e => h (by rw [e]; exact List.mem_cons_self)
    have h2 := splitC_app (c := c) (a := a) b fun e => h (List.mem_cons_of_mem _ e)
    simp only [List.cons_append, splitC, h1, if_false, h2]
/-- what was joined is split again -/
theorem split_join {c : Nat} : ∀ {l : List (List Nat)}, l ≠ [] → (∀ a ∈ l, c ∉ a) → splitC c (joinL [c] l) = l
  | [], h, _ => absurd rfl h
  | [a], _, h => splitC_none (h a List.mem_cons_self)
  | a :: b :: r, _, h => by
    have ih := split_join (c := c) (l := b :: r) (by simp) fun x hx => h x (List.mem_cons_of_mem _ hx)
    show splitC c (a ++ ([c] ++ joinL [c] (b :: r))) = _
    rw [List.singleton_append, splitC_app _ (h a List.mem_cons_self), ih]
/-- what was split is joined again -/
theorem join_split {c : Nat} : ∀ (a : List Nat), joinL [c] (splitC c a) = a
  | [] => rfl
  | x :: r => by
    have ih := join_split (c := c) r
    unfold splitC
    by_cases e : x = c
    · rw [if_pos e]
      cases es : splitC c r with
      | nil => exact absurd es (splitC_ne _ _)
      | cons b l => rw [es] at ih; subst e; show [] ++ ([x] ++ joinL [x] (b :: l)) = _; rw [ih]; rfl
    · rw [if_neg e]
      cases es : splitC c r with
      | nil => exact absurd es (splitC_ne _ _)
      | cons b l =>
        rw [es] at ih
        cases l with
        | nil => rw [← ih]; rfl
        | cons d l => rw [← ih]; rfl
theorem splitC_mem {c : Nat} : ∀ (a : List Nat), ∀ w ∈ splitC c a, c ∉ w ∧ ∀ x ∈ w, x ∈ a
  | [], w, hw => by
    simp only [splitC, List.mem_singleton] at hw
    subst hw
    simp
  | x :: r, w, hw => by
    have ih := splitC_mem (c := c) r
    unfold splitC at hw
    split at hw
    · rcases List.mem_cons.mp hw with rfl | hw
      · simp
      · exact ⟨(ih w hw).1, fun y hy => List.mem_cons_of_mem _ ((ih w hw).2 y hy)⟩
    · rename_i hx
      split at hw
      · rename_i b l es
        rw [es] at ih
        rcases List.mem_cons.mp hw with rfl | hw
        · refine ⟨fun z => ?_, fun y hy => ?_⟩
          · rcases List.mem_cons.mp z with e | z
            · exact hx e.symm
            · exact (ih b List.mem_cons_self).1 z
          · rcases List.mem_cons.mp hy with e | hy
            · rw [e]; exact List.mem_cons_self
            · exact List.mem_cons_of_mem _ ((ih b List.mem_cons_self).2 y hy)
        · exact ⟨(ih w (List.mem_cons_of_mem _ hw)).1, fun y hy => List.mem_cons_of_mem _ ((ih w (List.mem_cons_of_mem _ hw)).2 y hy)⟩
      · simp only [List.mem_singleton] at hw
        subst hw
        refine ⟨fun z => hx (List.mem_singleton.mp z).symm, fun y hy => ?_⟩
        rw [List.mem_singleton.mp hy]
        exact List.mem_cons_self
theorem joinL_flat {S : List Nat} {a b : List (List Nat)} (ha : a ≠ []) : joinL S (joinL S a :: b) = joinL S (a ++ b) := by
  induction a with
  | nil => exact absurd rfl ha
  | cons x r ih =>
    cases r with
    | nil => rfl
    | cons y r =>
      have ih := ih (by simp)
      cases b with
      | nil => simp [joinL]
      | cons z b =>
        show (x ++ (S ++ joinL S (y :: r))) ++ (S ++ joinL S (z :: b)) = x ++ (S ++ joinL S (y :: r ++ (z :: b)))
        rw [← ih]
        show _ = x ++ (S ++ (joinL S (y :: r) ++ (S ++ joinL S (z :: b))))
        simp
theorem joinL_len {S : List Nat} : ∀ l : List (List Nat), (joinL S l).length ≤ (l.map (·.length)).sum + l.length * S.length
  | [] => by simp [joinL]
  | [a] => by simp [joinL]
  | a :: b :: r => by
    have ih := joinL_len (S := S) (b :: r)
    show (a ++ (S ++ joinL S (b :: r))).length ≤ _
    simp only [List.length_append, List.map_cons, List.sum_cons, List.length_cons] at *
    rw [Nat.succ_mul]
    omega
/-! ### rounds -/
def dice0 (c : Int) : Dc := if -10 < c ∧ c < 10 then ((if c < 0 then -c else c), 0, 2) else (c, 1 + c % 1009, if 1000000000000000000 ≤ c then 1 else 0)
def diceS : List D → VH → Out D
  | [.int c], h => .ok (.ref h.length) (h ++ [dO (dice0 c)])
  | _, _ => .bad
theorem dice_eq (xs : List D) (h : VH) : diceS xs h = .bad ∨ runF 1 1 b_law_dice xs h = diceS xs h := by
  unfold diceS
  split
  · rename_i c
    right
    have hp : oPow (.int 10) (.int 18) h = some (.int 1000000000000000000, h) := by
      show (if (0 : Int) ≤ 18 ∧ (18 : Int) ≤ 1000000 ∧ (10 : Int).natAbs < 18446744073709551616 then some (D.int ((10 : Int) ^ (18 : Int).toNat), h) else none) = _
      rw [if_pos (by decide)]
      rfl
    by_cases h1 : -10 < c
    · by_cases h2 : c < 10
      · simp [runF, b_law_dice, dice0, h1, h2, dO]
      · simp [runF, b_law_dice, dice0, h1, h2, hp, dO]
    · simp [runF, b_law_dice, dice0, h1, hp, dO]
  · exact .inl rfl
theorem map_cut {α β : Type} (f : α → β) (l : List α) (lo hi : Option Int) : cut (l.map f) lo hi = (cut l lo hi).map f := by
  unfold cut
  rw [List.length_map, ← List.map_drop, ← List.map_take]
theorem eqD_ls {x y : D} {h : VH} {xs ys : List D} {l l' : List PyData} (hx : lsOf x h = some xs) (hy : lsOf y h = some ys) (e1 : allS (xs.map (toP 11 h)) = some l) (e2 : allS (ys.map (toP 11 h)) = some l') : eqD x y h = some (PyData.eqv (.list l) (.list l')) := by
  have key : ∀ {z : D} {zs : List D} {k : List PyData}, lsOf z h = some zs → allS (zs.map (toP 11 h)) = some k → toP deep h z = some (.list k) := by
    intro z zs k hz e
    cases z with
    | fls us =>
      cases hz
      show (match allS (zs.map (toP 11 h)) with
        | some l => some (PyData.list l)
        | none => none) = _
      rw [e]
    | ref n =>
      have q : toP deep h (.ref n) = (match h[n]? with
        | some (.lst xs) => match allS (xs.map (toP 11 h)) with
          | some l => some (PyData.list l)
          | none => none
        | _ => none) := rfl
      rw [q]
      rw [lsOf_r] at hz
      revert hz
      generalize h[n]? = o
      intro hz
      match o, hz with
      | some (.lst us), hz =>
        cases hz
        dsimp only
        rw [e]
      | some (.dct _), hz => cases hz
      | some (.ins _ _), hz => cases hz
      | none, hz => cases hz
    | _ => cases hz
  unfold eqD
  rw [key hx e1, key hy e2]
theorem eqv_nil (l : List Int) : PyData.eqv (.list (l.map .int)) (.list []) = l.isEmpty := by
  cases l <;> simp [PyData.eqv, PyData.eqvAll]
/-- the cells of the rounds -/
def cellsN (ns : List Int) (m : Int) : List Int := if (cut ns none (some m)).isEmpty = true then [0] else cut ns none (some m)
theorem lc_dice {δ : DS} (hδ : 3 < δ.length) : ∀ (cs : List Int) (h : VH) (acc : List D), acc.length + cs.length ≤ 16777216 → lcT (gN 3) tYes (eF diceS (aCons (eV 3) aNil)) [3] δ (cs.map D.int) h acc = .ok (acc ++ (List.range cs.length).map fun i => D.ref (h.length + i)) (h ++ cs.map fun c => dO (dice0 c))
  | [], h, acc, _ => by simp [lcT]
  | c :: cs, h, acc, hl => by
    have h3 : ((wipe δ [3]).set 3 (some (D.int c)))[3]? = some (some (.int c)) := by
      have : (wipe δ [3]).set 3 (some (D.int c)) = ((δ.set 3 none).set 3 (some (D.int c))) := rfl
      rw [this, List.getElem?_set_self (by rw [List.length_set]; omega)]
    have hl' : acc.length < 16777216 := by rw [List.length_cons] at hl; omega
    rw [List.map_cons]
    unfold lcT
    simp only [ap_gN, ap_tYes, ap_eF, ap_aCons, ap_eV, vK_some, h3, bind_ok, ap_aNil, diceS, hl', if_true]
    rw [lc_dice hδ cs _ _ (by simp at hl ⊢; omega)]
    rw [List.length_cons, List.range_succ_eq_map]
    simp [Function.comp_def, Nat.add_assoc, Nat.add_comm 1]
/-- what rounds gives -/
theorem rounds_ok {x : D} {m : Int} {h : VH} {ns : List Int} (hx : lsOf x h = some (ns.map D.int)) (hsl : ∀ lo hi, oSl x lo hi h = some (.fls (cut (ns.map D.int) lo hi), h)) (hl : ns.length ≤ 1000) :
    runF 2 4 (b_law_rounds diceS) [x, .int m] h = .ok (.fls ((List.range (cellsN ns m).length).map fun i => .ref (h.length + i))) (h ++ (cellsN ns m).map fun c => dO (dice0 c)) := by
  have hcl : (cut ns none (some m)).length ≤ 1000 := by
    unfold cut
    exact Nat.le_trans (List.length_take_le' _ _) (Nat.le_trans (by rw [List.length_drop]; omega) hl)
  have run : runF 2 4 (b_law_rounds diceS) [x, .int m] h = endF (b_law_rounds diceS [some x, some (.int m), none, none] h) := rfl
  rw [run]
  have e1 : cut (ns.map D.int) none (some m) = (cut ns none (some m)).map D.int := map_cut _ _ _ _
  have ee : cEq (.fls ((cut ns none (some m)).map D.int)) (.fls []) h = some (.bl (cut ns none (some m)).isEmpty, h) := by
    have := eqD_ls (h := h) (x := .fls ((cut ns none (some m)).map D.int)) (y := .fls []) rfl rfl (toPs_int _) rfl
    rw [eqv_nil] at this
    show (match eqD (.fls ((cut ns none (some m)).map D.int)) (.fls []) h with
      | some b => some (D.bl b, h)
      | none => none) = _
    rw [this]
  cases hc : (cut ns none (some m)).isEmpty with
  | true =>
    have ec : cellsN ns m = [0] := by unfold cellsN; rw [hc] <;> rfl
    rw [ec]
    rw [hc] at ee
    have L := lc_dice (δ := [some x, some (.int m), some (.fls [.int 0]), none]) (by simp) [0] h [] (by decide)
    simp only [List.map_cons, List.map_nil, List.nil_append] at L
    simp [b_law_rounds, hsl, e1, ee, L, -ap_eLc]
    simp [L]
  | false =>
    have ec : cellsN ns m = cut ns none (some m) := by unfold cellsN; rw [hc] <;> rfl
    rw [ec]
    rw [hc] at ee
    have L := lc_dice (δ := [some x, some (.int m), some (.fls ((cut ns none (some m)).map D.int)), none]) (by simp) (cut ns none (some m)) h [] (by simp; omega)
    simp [b_law_rounds, hsl, e1, ee, L]
end FL
set_option Elab.async false
set_option linter.all false
set_option maxRecDepth 100000
set_option maxHeartbeats 2000000
/-! FL17: slices, ranges, folds, keys, sorted. Plain. -/
namespace FL
open PySem
theorem cut_take {α : Type} (l : List α) (k : Nat) : cut l none (some (k : Int)) = l.take k := by
  unfold cut sIx
  have h : ¬ (k : Int) < 0 := by omega
  simp only [h, if_false, Int.toNat_natCast, Nat.sub_zero, List.drop_zero]
  by_cases e : k ≤ l.length
  · rw [Nat.min_eq_left e]
  · rw [Nat.min_eq_right (by omega), List.take_length, List.take_of_length_le (by omega)]
theorem cut_drop {α : Type} (l : List α) (k : Nat) : cut l (some (k : Int)) none = l.drop k := by
  unfold cut sIx
  have h : ¬ (k : Int) < 0 := by omega
  simp only [h, if_false, Int.toNat_natCast]
  by_cases e : k ≤ l.length
  · rw [Nat.min_eq_left e]
    exact List.take_of_length_le (by rw [List.length_drop]; omega)
  · rw [Nat.min_eq_right (by omega), Nat.sub_self, List.take_zero, List.drop_eq_nil_of_le (by omega)]
theorem cut_drop1 {α : Type} (l : List α) (k : Nat) : cut l (some ((k : Int) + 1)) none = l.drop (k + 1) := cut_drop l (k + 1)
theorem cut_mid {α : Type} (l : List α) (i j : Nat) : cut l (some (i : Int)) (some (j : Int)) = (l.take j).drop i := by
  unfold cut sIx
  have h : ¬ (i : Int) < 0 := by omega
  have h' : ¬ (j : Int) < 0 := by omega
  simp only [h, h', if_false, Int.toNat_natCast]
  rw [← List.drop_take]
  have e : l.take (min j l.length) = l.take j := by
    by_cases e : j ≤ l.length
    · rw [Nat.min_eq_left e]
    · rw [Nat.min_eq_right (by omega), List.take_length, List.take_of_length_le (by omega)]
  rw [e]
  by_cases e : i ≤ l.length
  · rw [Nat.min_eq_left e]
  · rw [Nat.min_eq_right (by omega), List.drop_eq_nil_of_le (by rw [List.length_take]; omega), List.drop_eq_nil_of_le (by rw [List.length_take]; omega)]
/-- the last n left out -/
theorem cut_init {α : Type} (l : List α) (n : Nat) (hn : 0 < n) (h : n ≤ l.length) : cut l none (some (-(n : Int))) = l.take (l.length - n) := by
  unfold cut sIx
  have h0 : -(n : Int) < 0 := by omega
  simp only [h0, if_true, Nat.sub_zero, List.drop_zero]
  congr 1
  omega
theorem cut_last {α : Type} (l : List α) (n : Nat) (hn : 0 < n) (h : n ≤ l.length) : cut l (some (-(n : Int))) none = l.drop (l.length - n) := by
  unfold cut sIx
  have h0 : -(n : Int) < 0 := by omega
  simp only [h0, if_true]
  have e : (-(n : Int) + (l.length : Int)).toNat = l.length - n := by omega
  rw [e]
  exact List.take_of_length_le (by rw [List.length_drop]; omega)
theorem cut_lastAll {α : Type} (l : List α) (n : Nat) (hn : 0 < n) (h : l.length ≤ n) : cut l (some (-(n : Int))) none = l := by
  unfold cut sIx
  have h0 : -(n : Int) < 0 := by omega
  simp only [h0, if_true]
  have e : (-(n : Int) + (l.length : Int)).toNat = 0 := by omega
  rw [e, List.drop_zero, Nat.sub_zero, List.take_length]
theorem rng0 (n : Nat) : rng 0 (n : Int) = (List.range n).map fun (k : Nat) => D.int k := by
  unfold rng
  rw [Int.sub_zero, Int.toNat_natCast]
  simp
theorem rngN (a b : Nat) : rng (a : Int) (b : Int) = (List.range (b - a)).map fun (k : Nat) => D.int ((a + k : Nat) : Int) := by
  unfold rng
  have : ((b : Int) - (a : Int)).toNat = b - a := by omega
  rw [this]
  simp
theorem okR_nat {a b : Nat} (ha : a ≤ 1000000000) (hb : b ≤ 1000000000) : okR a b = true := by
  unfold okR
  apply decide_eq_true
  omega
theorem rEnds_1 {n : Nat} (h : n ≤ 1000000000) : rEnds [.int (n : Int)] = some (0, (n : Int)) := by
  have : okR 0 (n : Int) = true := okR_nat (a := 0) (by decide) h
  simp only [rEnds, this, if_true]
theorem rEnds_2 {a b : Nat} (ha : a ≤ 1000000000) (hb : b ≤ 1000000000) : rEnds [.int (a : Int), .int (b : Int)] = some ((a : Int), (b : Int)) := by
  have := okR_nat ha hb
  simp only [rEnds, this, if_true]
theorem forR_1 {r : FA} {g : FG} {s : FSt} {δ : DS} {h h1 : VH} {n : Nat} (e : r δ h = .ok [.int (n : Int)] h1) (hn : n ≤ 1000000000) : sForR r g s δ h = forT g s ((List.range n).map fun (k : Nat) => D.int k) δ h1 := by
  rw [ap_sForR, e, thenS_ok, ← rng0]
  have := rEnds_1 hn
  generalize rEnds [.int (n : Int)] = o at *
  subst this
  rfl
theorem forR_2 {r : FA} {g : FG} {s : FSt} {δ : DS} {h h1 : VH} {a b : Nat} (e : r δ h = .ok [.int (a : Int), .int (b : Int)] h1) (ha : a ≤ 1000000000) (hb : b ≤ 1000000000) : sForR r g s δ h = forT g s ((List.range (b - a)).map fun (k : Nat) => D.int ((a + k : Nat) : Int)) δ h1 := by
  rw [ap_sForR, e, thenS_ok, ← rngN]
  have := rEnds_2 ha hb
  generalize rEnds [.int (a : Int), .int (b : Int)] = o at *
  subst this
  rfl
theorem lcR_1 {r : FA} {g : FG} {t : FT} {x : FE} {own : List Nat} {δ : DS} {h h1 : VH} {n : Nat} (e : r δ h = .ok [.int (n : Int)] h1) (hn : n ≤ 1000000000) : eLcR r g t x own δ h = lcEnd (lcT g t x own δ ((List.range n).map fun (k : Nat) => D.int k) h1 []) := by
  rw [ap_eLcR, e, bind_ok, ← rng0]
  have := rEnds_1 hn
  generalize rEnds [.int (n : Int)] = o at *
  subst this
  rfl
theorem lcR_2 {r : FA} {g : FG} {t : FT} {x : FE} {own : List Nat} {δ : DS} {h h1 : VH} {a b : Nat} (e : r δ h = .ok [.int (a : Int), .int (b : Int)] h1) (ha : a ≤ 1000000000) (hb : b ≤ 1000000000) : eLcR r g t x own δ h = lcEnd (lcT g t x own δ ((List.range (b - a)).map fun (k : Nat) => D.int ((a + k : Nat) : Int)) h1 []) := by
  rw [ap_eLcR, e, bind_ok, ← rngN]
  have := rEnds_2 ha hb
  generalize rEnds [.int (a : Int), .int (b : Int)] = o at *
  subst this
  rfl
theorem lcT_mapE {α : Type} {g : FG} {t : FT} {e : FE} {own : List Nat} {δ : DS} {h : VH} (en : α → D) (p : α → Bool) (f : α → D) : ∀ (xs : List α) (acc : List D), acc.length + xs.length ≤ 16777216 →
    (∀ x ∈ xs, ∃ δ1, g (en x) (wipe δ own) h = some (δ1, h) ∧ t δ1 h = .ok (p x) h ∧ (p x = true → e δ1 h = .ok (f x) h)) → lcT g t e own δ (xs.map en) h acc = .ok (acc ++ (xs.filter p).map f) h
  | [], acc, _, _ => by simp [lcT]
  | x :: xs, acc, hl, H => by
    obtain ⟨δ1, e1, e2, e3⟩ := H x List.mem_cons_self
    have hl' : acc.length + xs.length + 1 ≤ 16777216 := by rw [List.length_cons] at hl; omega
    rw [List.map_cons]
    unfold lcT
    simp only [e1, e2]
    cases hp : p x with
    | false =>
      dsimp only
      rw [lcT_mapE en p f xs acc (by omega) fun y hy => H y (List.mem_cons_of_mem _ hy), List.filter_cons, hp] <;> rfl
    | true =>
      dsimp only
      rw [e3 hp]
      dsimp only
      rw [if_pos (by omega), lcT_mapE en p f xs _ (by simp; omega) fun y hy => H y (List.mem_cons_of_mem _ hy), List.filter_cons, hp]
      simp
/-- no test -/
theorem lcT_allE {α : Type} {g : FG} {e : FE} {own : List Nat} {δ : DS} {h : VH} (en : α → D) (f : α → D) (xs : List α) (hl : xs.length ≤ 16777216) (H : ∀ x ∈ xs, ∃ δ1, g (en x) (wipe δ own) h = some (δ1, h) ∧ e δ1 h = .ok (f x) h) : lcT g tYes e own δ (xs.map en) h [] = .ok (xs.map f) h := by
  rw [lcT_mapE en (fun _ => true) f xs [] (by simpa using hl) fun x hx => by
    obtain ⟨δ1, e1, e2⟩ := H x hx
    exact ⟨δ1, e1, rfl, fun _ => e2⟩]
  rw [List.filter_eq_self.mpr (fun _ _ => rfl), List.nil_append]
/-! ### folds -/
theorem forT_foldM {α β : Type} {g : FG} {b : FSt} (en : α → D) (I : β → DS → VH → Prop) (f : β → α → β) : ∀ (xs : List α), (∀ x ∈ xs, ∀ s δ h, I s δ h → ∃ δ1 h1, g (en x) δ h = some (δ1, h1) ∧ OkT (I (f s x)) (b δ1 h1)) → ∀ s δ h, I s δ h → OkS (I (xs.foldl f s)) (forT g b (xs.map en) δ h)
  | [], _, s, δ, h, q => .mk q
  | x :: xs, turn, s, δ, h, q => by
    obtain ⟨δ1, h1, e1, q1⟩ := turn x List.mem_cons_self s δ h q
    rw [List.map_cons, forT_cons, e1, tgS_some]
    exact q1.loop fun δ2 h2 q2 => forT_foldM en I f xs (fun y hy => turn y (List.mem_cons_of_mem _ hy)) _ δ2 h2 q2
theorem forT_fold {α β : Type} {g : FG} {b : FSt} (en : α → D) (I : β → DS → VH → Prop) (f : β → α → β) (turn : ∀ x s δ h, I s δ h → ∃ δ1 h1, g (en x) δ h = some (δ1, h1) ∧ OkT (I (f s x)) (b δ1 h1)) (xs : List α) : ∀ s δ h, I s δ h → OkS (I (xs.foldl f s)) (forT g b (xs.map en) δ h) :=
  forT_foldM en I f xs fun x _ => turn x
theorem seq_nx {s t : FSt} {δ δ1 : DS} {h h1 : VH} (e : s δ h = .nx δ1 h1) : sSeq s t δ h = t δ1 h1 := by rw [ap_sSeq, e, nextS_nx]
theorem seq_ret {s t : FSt} {δ : DS} {h h1 : VH} {x : D} (e : s δ h = .ret x h1) : sSeq s t δ h = .ret x h1 := by rw [ap_sSeq, e, nextS_ret]
theorem seq_err {s t : FSt} {δ δ1 : DS} {h h1 : VH} {c : Nat} {p : Option D} (e : s δ h = .err c p δ1 h1) : sSeq s t δ h = .err c p δ1 h1 := by rw [ap_sSeq, e, nextS_err]
/-- a statement that goes on, then what follows -/
theorem run_nx {s t : FSt} {δ δ1 : DS} {h h1 : VH} {o : Out D} (e : s δ h = .nx δ1 h1) (q : endF (t δ1 h1) = o) : endF (sSeq s t δ h) = o := by rw [seq_nx e, q]
/-! ### texts split -/
theorem splitC_sum {c : Nat} : ∀ a : List Nat, ((splitC c a).map (·.length)).sum + (splitC c a).length = a.length + 1
  | [] => by simp [splitC]
  | x :: r => by
    have ih := splitC_sum (c := c) r
    unfold splitC
    by_cases e : x = c
    · rw [if_pos e]
      simp only [List.map_cons, List.length_nil, List.sum_cons, List.length_cons]
      omega
    · rw [if_neg e]
      cases es : splitC c r with
      | nil => exact absurd es (splitC_ne _ _)
      | cons b l =>
        rw [es] at ih
        simp only [List.map_cons, List.sum_cons, List.length_cons] at ih ⊢
        omega
/-! ### keys -/
/-- a dict whose values are all True -/
def kvT {α : Type} (en : α → D) (l : List α) : List (D × D) := l.map fun n => (en n, .bl true)
def ins {α : Type} [DecidableEq α] (l : List α) (x : α) : List α := if x ∈ l then l else l ++ [x]
theorem ins_mem {α : Type} [DecidableEq α] {l : List α} {x y : α} : y ∈ ins l x ↔ y ∈ l ∨ y = x := by
  unfold ins
  split
  · rename_i h
    constructor
    · exact .inl
    · rintro (h' | rfl)
      · exact h'
      · exact h
  · simp
theorem ins_nodup {α : Type} [DecidableEq α] {l : List α} {x : α} (h : l.Nodup) : (ins l x).Nodup := by
  unfold ins
  split
  · exact h
  · rename_i hx
    rw [List.nodup_append]
    refine ⟨h, by simp, fun a ha b hb => ?_⟩
    rw [List.mem_singleton.mp hb]
    intro e
    exact hx (e ▸ ha)
theorem dPut_T {α : Type} [DecidableEq α] {en : α → D} (ek : ∀ a b, keyEq (en a) (en b) = decide (a = b)) (x : α) : ∀ l : List α, dPut (kvT en l) (en x) (.bl true) = kvT en (ins l x)
  | [] => by simp [kvT, ins, dPut]
  | y :: l => by
    have ih := dPut_T ek x l
    have e0 : dPut (kvT en (y :: l)) (en x) (.bl true) = if keyEq (en y) (en x) = true then (en y, .bl true) :: kvT en l else (en y, .bl true) :: dPut (kvT en l) (en x) (.bl true) := rfl
    rw [e0, ek, ih]
    by_cases e : y = x
    · subst e
      simp [kvT, ins]
    · have e' : ¬ x = y := fun z => e z.symm
      unfold ins
      by_cases hm : x ∈ l
      · simp [e, hm, kvT]
      · simp [e, e', hm, kvT]
theorem kvT_len {α : Type} {en : α → D} {l : List α} : (kvT en l).length = l.length := List.length_map ..
theorem kvT_keys {α : Type} {en : α → D} {l : List α} : (kvT en l).map (·.1) = l.map en := by unfold kvT; rw [List.map_map]; rfl
theorem keyI (a b : Nat) : keyEq (.int (a : Int)) (.int (b : Int)) = decide (a = b) := by
  show decide ((a : Int) = (b : Int)) = _
  by_cases e : a = b
  · subst e; simp
  · have : ¬ (a : Int) = (b : Int) := by omega
    rw [decide_eq_false e, decide_eq_false this]
theorem keyS (a b : List Nat) : keyEq (.str a) (.str b) = decide (a = b) := rfl
@[simp] theorem setD_r {k : Nat} {i v : D} {h : VH} : setD (.ref k) i v h = match h[k]? with
    | some (.dct kvs) => if isKey i = true ∧ kvs.length < 16777216 then some (h.set k (.dct (dPut kvs i v))) else none
    | _ => none := rfl
/-! ### sorted -/
theorem zip_map_self {α β γ : Type} (f : α → β) (u : α → γ) : ∀ l : List α, (l.map f).zip (l.map u) = l.map fun a => (f a, u a)
  | [] => rfl
  | a :: l => by rw [List.map_cons, List.map_cons, List.zip_cons_cons, zip_map_self f u l] <;> rfl
/-- sorted over encoded items: the items in the order of their data -/
theorem sortD_map {α : Type} (f : α → D) (u : α → PyData) (l : List α) : sortD ((l.map f).zip (l.map u)) = (l.mergeSort fun a b => PySem.W.dataLe false u a b).map f := by
  unfold sortD
  rw [zip_map_self]
  have : (l.map fun a => (f a, u a)).mergeSort (PySem.W.dataLe false (·.2)) = (l.mergeSort fun a b => PySem.W.dataLe false u a b).map fun a => (f a, u a) := by
    refine (List.map_mergeSort fun a _ b _ => ?_).symm
    rfl
  rw [this, List.map_map]
  rfl
theorem bSorted_of {α : Type} {x : D} {h : VH} {l : List α} (f : α → D) (u : α → PyData) (hi : itemsOf x h = some (l.map f)) (hu : ∀ n h, ∀ a ∈ l, toP (n + 2) h (f a) = some (u a)) (ha : ∀ a ∈ l, ∀ b ∈ l, PySem.W.alike (u a) (u b) = true) (hs : sortable (l.map u) = true) :
    bSorted [x] h = some (.fls ((l.mergeSort fun a b => PySem.W.dataLe false u a b).map f), h) := by
  have e1 : allS ((l.map f).map (toP deep h)) = some (l.map u) := by
    have : ∀ l : List α, (∀ a ∈ l, toP deep h (f a) = some (u a)) → allS ((l.map f).map (toP deep h)) = some (l.map u) := by
      intro l
      induction l with
      | nil => intro _; rfl
      | cons a l ih =>
        intro H
        rw [List.map_cons, List.map_cons, H a List.mem_cons_self, List.map_cons]
        simp only [allS, ih fun b hb => H b (List.mem_cons_of_mem _ hb)]
    exact this l fun a ha => hu 10 h a ha
  have e2 : alikes (l.map u) = true := by
    unfold alikes
    rw [List.all_map, List.all_eq_true]
    intro a ha'
    show ((l.map u).all fun b => PySem.W.alike (u a) b) = true
    rw [List.all_map, List.all_eq_true]
    exact fun b hb => ha a ha' b hb
  have e3 : bSorted [x] h = match itemsOf x h with
    | some xs => match allS (xs.map (toP deep h)) with
      | some l => if (alikes l && sortable l) = true then some (.fls (sortD (xs.zip l)), h) else none
      | none => none
    | none => none := rfl
  rw [e3, hi]
  dsimp only
  rw [e1]
  dsimp only
  rw [e2, hs, sortD_map]
  rfl
theorem sortable_ints (l : List Int) : sortable (l.map PyData.int) = true := by
  unfold sortable
  rw [Bool.or_eq_true]
  right
  rw [List.all_map, List.all_eq_true]
  exact fun _ _ => rfl
theorem sortable_strs (l : List (List Nat)) : sortable (l.map fun a => PyData.str ⟨a.toArray⟩) = true := by
  unfold sortable
  rw [Bool.or_eq_true]
  right
  rw [List.all_map, List.all_eq_true]
  exact fun _ _ => rfl
end FL
set_option Elab.async false
set_option linter.all false
set_option maxRecDepth 100000
set_option maxHeartbeats 2000000
/-! FL18: a law's rounds. Plain. -/
namespace FL
open PySem
theorem allI_some : ∀ {xs : List D} {l : List Int}, allI xs = some l → xs = l.map D.int
  | [], l, e => by
    simp only [allI, Option.some.injEq] at e
    subst e
    rfl
  | x :: xs, l, e => by
    cases x with
    | int i =>
      simp only [allI] at e
      split at e
      · rename_i l' hl
        cases e
        rw [List.map_cons, ← allI_some hl]
      · cases e
    | _ => simp [allI] at e
/-- the rounds' dice -/
def refsN (k n : Nat) : List D := (List.range n).map fun i => .ref (k + i)
def roundsS : List D → VH → Out D
  | [x, .int m], h => match lsOf x h with
    | some xs => match allI xs with
      | some ns => if ns.length ≤ 1000 then .ok (.fls (refsN h.length (cellsN ns m).length)) (h ++ (cellsN ns m).map fun c => dO (dice0 c)) else .bad
      | none => .bad
    | none => .bad
  | _, _ => .bad
theorem rounds_eq (xs : List D) (h : VH) : roundsS xs h = .bad ∨ runF 2 4 (b_law_rounds diceS) xs h = roundsS xs h := by
  unfold roundsS
  split
  · rename_i x m
    cases hx : lsOf x h with
    | none => exact .inl rfl
    | some xs =>
      dsimp only
      cases ha : allI xs with
      | none => exact .inl rfl
      | some ns =>
        dsimp only
        split
        · rename_i hl
          right
          have e := allI_some ha
          subst e
          refine rounds_ok hx (fun lo hi => ?_) hl
          cases x with
          | fls ys => cases hx; rfl
          | ref k =>
            rw [oSl_r, hx]
          | _ => cases hx
        · exact .inl rfl
  · exact .inl rfl
theorem rollS_set {j : Nat} {m : Int} {h : VH} {s : Dc} (hj : j < h.length) (hm : 0 < m) (hm2 : m < 1073741824) : rollS [.ref j, .int m] (h.set j (dO s)) = .ok (.int (dVal s m)) (h.set j (dO (dNext s m))) := by
  rw [rollS_ok hm hm2 (List.getElem?_set_self hj), List.set_set]
theorem dVal_nat {s : Dc} {m : Int} (h : 0 < m) : ∃ k : Nat, dVal s m = (k : Int) ∧ (k : Int) < m := by
  obtain ⟨k, e⟩ := Int.eq_ofNat_of_zero_le (dVal_lo (s := s) h)
  exact ⟨k, e, by rw [← e]; exact dVal_hi h⟩
/-- a law's rounds, one by one -/
theorem rounds_run {N : Nat} {body : FSt} (hN : 1 < N) (H : ∀ (δ : DS) (h : VH) (j : Nat) (s : Dc), δ.length = N → δ[1]? = some (some (.ref j)) → j < h.length → OkS (fun δ' h' => δ'.length = N ∧ ∃ s' g, h' = h.set j (dO s') ++ g) (body δ (h.set j (dO s)))) :
    ∀ (n : Nat) (k : Nat) (δ : DS) (h : VH), δ.length = N → (∀ i, k ≤ i → i < k + n → ∃ s, h[i]? = some (dO s)) → ∃ δ' h', forT (gN 1) body (refsN k n) δ h = .nx δ' h'
  | 0, k, δ, h, _, _ => ⟨δ, h, rfl⟩
  | n + 1, k, δ, h, hδ, hd => by
    have e : refsN k (n + 1) = D.ref k :: refsN (k + 1) n := by
      unfold refsN
      rw [List.range_succ_eq_map]
      simp [Function.comp_def, Nat.add_assoc, Nat.add_comm 1]
    rw [e, forT_cons, ap_gN, tgS_some]
    obtain ⟨s, hs⟩ := hd k (Nat.le_refl _) (by omega)
    have hk := hp_lt hs
    have hset : h.set k (dO s) = h := by
      refine List.ext_getElem? fun i => ?_
      by_cases hi : k = i
      · subst hi
        rw [List.getElem?_set_self hk, hs]
      · rw [List.getElem?_set_ne hi]
    obtain ⟨δ1, h1, e1, hl, s', g, eh⟩ := (H (δ.set 1 (some (.ref k))) h k s (by rw [List.length_set]; exact hδ) (List.getElem?_set_self (by omega)) hk).ex
    rw [hset] at e1
    rw [e1, loopS_nx]
    refine rounds_run hN H n (k + 1) δ1 h1 hl fun i h2 h3 => ?_
    obtain ⟨s2, hs2⟩ := hd i (by omega) (by omega)
    exact ⟨s2, by rw [eh]; exact hp_old (by rw [List.getElem?_set_ne (by omega)]; exact hs2)⟩
theorem law_run {N : Nat} {body : FSt} {m : Int} (hN : 1 < N) (H : ∀ (δ : DS) (h : VH) (j : Nat) (s : Dc), δ.length = N → δ[1]? = some (some (.ref j)) → j < h.length → OkS (fun δ' h' => δ'.length = N ∧ ∃ s' g, h' = h.set j (dO s') ++ g) (body δ (h.set j (dO s))))
    {x : D} {h : VH} {ns : List Int} (hx : lsOf x h = some (ns.map D.int)) (hl : ns.length ≤ 63) : ∃ h', runF 1 N (sSeq (sFor (eF roundsS (aCons (eV 0) (aCons (eC (.int m)) aNil))) (gN 1) body) (sRet (eC (.bl true)))) [x] h = .ok (.bl true) h' := by
  have hl' : ns.length ≤ 1000 := by omega
  have er : roundsS [x, .int m] h = .ok (.fls (refsN h.length (cellsN ns m).length)) (h ++ (cellsN ns m).map fun c => dO (dice0 c)) := by
    simp only [roundsS, hx, allI_ints, hl', if_true]
  obtain ⟨δ', h', e⟩ := rounds_run hN H (cellsN ns m).length h.length (some x :: List.replicate (N - 1) none) (h ++ (cellsN ns m).map fun c => dO (dice0 c)) (by simp; omega) (fun i h1 h2 => by
    obtain ⟨k, rfl⟩ := Nat.le.dest h1
    rw [hp_at, List.getElem?_map]
    have hk : k < (cellsN ns m).length := by omega
    exact ⟨_, by rw [List.getElem?_eq_getElem hk]; rfl⟩)
  refine ⟨h', ?_⟩
  have run : runF 1 N (sSeq (sFor (eF roundsS (aCons (eV 0) (aCons (eC (.int m)) aNil))) (gN 1) body) (sRet (eC (.bl true)))) [x] h = endF (sSeq (sFor (eF roundsS (aCons (eV 0) (aCons (eC (.int m)) aNil))) (gN 1) body) (sRet (eC (.bl true))) (some x :: List.replicate (N - 1) none) h) := rfl
  rw [run]
  simp only [ap_sSeq, ap_sFor, ap_eF, ap_aCons, ap_eV, vK_some, List.getElem?_cons_zero, bind_ok, ap_eC, ap_aNil, er, thenS_ok, forX_fls, e, nextS_nx, ap_sRet, endF_ret]
/-- the law, for both forms of a script -/
theorem law_both {F : List D → VH → Out D} (H : ∀ (x : D) (h : VH) (ns : List Int), lsOf x h = some (ns.map D.int) → ns.length ≤ 63 → ∃ h', F [x] h = .ok (.bl true) h') (ns : List Int) (hl : ns.length ≤ 63) : (∃ h', F [.fls (ns.map D.int)] [] = .ok (.bl true) h') ∧ ∃ h', F [.ref 0] [.lst (ns.map D.int)] = .ok (.bl true) h' :=
  ⟨H _ _ ns rfl hl, H _ _ ns rfl hl⟩
end FL
set_option Elab.async false
set_option linter.all false
set_option maxRecDepth 100000
set_option maxHeartbeats 2000000
/-! FL19: closures (a lambda with a parameter, a generator expression): their context; a key function's call. -/
namespace FL
open PySem PySem.Spec PyProof.Rows L2

/-- the names of a closure: its own (with their places in N), or captured -/
structure CloS (N : List Str) (sc scope : Scope) (own : List (Str × Nat)) : Prop where
  kind : scope.kind = .function
  co : scope.isCoroutine = false
  uniq : ∀ y ∈ scope.names, scope.names.lookup y.1 = some y.2
  ix : ∀ p ∈ own, N[p.2]? = some p.1
  cell : ∀ y ∈ scope.names, y.2 ≠ .cell
  free : ∀ y ∈ scope.names, y.2 = .free → sc.names.lookup y.1 = some .cell ∨ sc.names.lookup y.1 = some .free
  own : ∀ y ∈ scope.names, y.2 = .local → y.1 ∈ own.map (·.1) ∨ y.1 ∉ N
def cloC (N : List Str) (sc scope : Scope) (own : List (Str × Nat)) : Bool :=
  decide (scope.kind = .function) && !scope.isCoroutine && (scope.names.all fun y => decide (scope.names.lookup y.1 = some y.2)) && (own.all fun p => decide (N[p.2]? = some p.1)) &&
  (scope.names.all fun y => !decide (y.2 = .cell)) &&
  (scope.names.all fun y => !decide (y.2 = .free) || decide (sc.names.lookup y.1 = some .cell) || decide (sc.names.lookup y.1 = some .free)) &&
  (scope.names.all fun y => !decide (y.2 = .local) || decide (y.1 ∈ own.map (·.1)) || !decide (y.1 ∈ N))
theorem clo_by {N : List Str} {sc scope : Scope} {own : List (Str × Nat)} (h : cloC N sc scope own = true) : CloS N sc scope own := by
  unfold cloC at h
  simp only [Bool.and_eq_true, Bool.or_eq_true, Bool.not_eq_true', decide_eq_true_eq, decide_eq_false_iff_not, List.all_eq_true] at h
  obtain ⟨⟨⟨⟨⟨⟨h1, h2⟩, h3⟩, h4⟩, h5⟩, h6⟩, h7⟩ := h
  refine ⟨h1, h2, h3, h4, h5, fun y hy e => ?_, fun y hy e => ?_⟩
  · rcases h6 y hy with (z | z) | z
    · exact absurd e z
    · exact .inl z
    · exact .inr z
  · rcases h7 y hy with (z | z) | z
    · exact absurd e z
    · exact .inl z
    · exact .inr z
/-- the context of a closure's body that starts at s -/
def cloCx (X : Cx) (A : Around) (cenv : Env) (s : Shared) (H : Hp) (fp : List Addr) (xe : Value → Shared → Prop) : Cx :=
  { prog := X.prog, w := X.w, K := X.K, mg := X.mg, base := X.base, A := A.deeper cenv, N := X.N, s_0 := s, H_0 := H, env := cenv, outer := X.stack, stack := cenv :: X.stack, ex := fp, fn := fun _ => false, calm := true, pn := [], xe := xe }
section
variable {X : Cx} {pins : List (Addr × Obj)} {σ τ : L2.St} {H : Hp} {s : Shared} {g : Gc}
theorem CloS.has {scope : Scope} {own : List (Str × Nat)} (C : CloS X.N X.env.scope scope own) (ok : X.Ok) : ∀ y ∈ scope.names, y.2 = .free → ∃ c, X.env.cells.lookup y.1 = some c := fun y hy e => by
  rcases C.free y hy e with k | k
  · exact ok.has _ (.inl k)
  · exact ok.has _ (.inr k)
theorem clo_start {A : Around} {scope : Scope} {own : List (Str × Nat)} {cenv : Env} {fp : List Addr} {xe : Value → Shared → Prop} {h₁ : Heap} {tk : Nat} {gs : Array GenState} {mp : Str → Option Value} (I : Inv X pins σ H s) (C : CloS X.N X.env.scope scope own) (hN : X.N.Nodup) (hd : A.handled = none) (hf : A.frames = some X.stack)
    (e1 : cenv.scope = scope) (e2 : cenv.globals = mainGlobals) (e3 : cenv.builtins = builtinsNs) (e4 : cenv.cells = cloFrom X.env.cells scope.names []) (e5 : cenv.locals = s.heap.objs.size) (e6 : cenv.frame = some cenv.locals) (hb : AllBare gs)
    (hfp : ∀ b ∈ fp, FpOk X pins H b ∧ b < s.heap.objs.size) (hns : h₁.Ns s.heap.objs.size mp) (kp : ∀ b o, s.heap.get? b = some o → h₁.get? b = some o) (hl : τ.length = σ.length)
    (hτ : ∀ (i : Nat) (y : Str) (v : V), X.N[i]? = some y → τ[i]? = some (some v) → (L2.wipe σ (own.map (·.2)))[i]? = some (some v) ∨ (scope.names.lookup y = some .local ∧ ∃ u, RelV v u ∧ mp y = some u)) :
    Inv (cloCx X A cenv s H fp xe) [] τ H { s with heap := h₁, toks := tk, gens := gs } := by
  have hfree := C.has I.ok
  have cm : ∀ {y c}, cenv.cells.lookup y = some c → X.env.cells.lookup y = some c := fun {y c} e => by
    rw [e4] at e
    rcases cloFrom_mem (PySem.mem_of_lookup e) with hm | ⟨h1, h2⟩
    · cases hm
    · obtain ⟨c1, hc⟩ := hfree _ h1 rfl
      have hc : X.env.cells.lookup y = some c1 := hc
      have z : c = c1 := by
        rw [h2, hc] <;> rfl
      rw [z]
      exact hc
  have look : ∀ {y}, scope.names.lookup y = some .free → ∃ c, cenv.cells.lookup y = some c := fun {y} hl => by
    have hy : (y, NameKind.free) ∈ scope.names := PySem.mem_of_lookup hl
    rw [e4]
    exact mem_lookup (cloFrom_has (cells := X.env.cells) (acc := []) hy)
  have cellK : ∀ {c : Addr} {v : Option Value}, s.heap.IsCell c v → h₁.IsCell c v := fun {c v} ⟨o, ho, hd⟩ => ⟨o, kp _ _ ho, hd⟩
  have okB : (cloCx X A cenv s H fp xe).Ok := by
    refine ⟨I.ok.mod, ?_, e2, e3, ?_, fun y z c h1 h2 => I.ok.inj y z c (cm h1) (cm h2), fun y hy => ?_, fun y c z _ => ?_, fun _ => hd, Around.frames_deeper hf, .inr ⟨rfl, e6⟩, fun b hb => ⟨?_, fun y c e z => ?_⟩, I.bs, Nat.le_trans I.ok.bsz I.sz, fun b o e hb => ?_, fun b hb z => ?_, I.stack, I.stkFree⟩
    · show cenv.scope.kind = _
      rw [e1]
      exact C.kind
    · show s.heap.objs.size ≤ cenv.locals
      rw [e5]
      exact Nat.le_refl _
    · have hy : cenv.scope.names.lookup y = some .cell ∨ cenv.scope.names.lookup y = some .free := hy
      rw [e1] at hy
      rcases hy with hy | hy
      · exact absurd rfl (C.cell _ (PySem.mem_of_lookup hy))
      · exact look hy
    · have z : false = true := z
      cases z
    · show b ≠ cenv.locals
      rw [e5]
      exact Nat.ne_of_lt (hfp b hb).2
    · exact (hfp b hb).1.2.2.2.2.1 y c (cm e) z
    · rcases (hfp b hb).1.2.2.2.1 with z | z
      · exact I.ok.noex b o e z
      · exact absurd (Nat.lt_of_lt_of_le (Heap.lt_size e) (Nat.le_trans I.ok.bsz z)) (Nat.lt_irrefl _)
    · rcases List.mem_cons.mp (I.stkSub b z) with z | z
      · exact (hfp b hb).1.2.1 z
      · exact (hfp b hb).1.2.2.1 z
  refine ⟨okB, rfl, hb, Un.kept kp, ⟨mp, ?_, fun i y v h1 h2 h3 => ?_⟩, fun y c e => ?_, ?_, fun y c e => ?_, fun q hq => absurd (show q ∈ ([] : List (Addr × Obj)) ++ [] from hq) (by simp), I.hok.kept kp, hl.trans I.len⟩
  · show h₁.Ns cenv.locals _
    rw [e5]
    exact hns
  · have h3 : Vis cenv.scope y := h3
    rw [e1] at h3
    rcases hτ i y v h1 h2 with h4 | ⟨h4, u, h5, h6⟩
    · obtain ⟨h4, hne⟩ := wipe_some h4
      rcases h3 with k | k | k
      · rcases C.own _ (PySem.mem_of_lookup k) rfl with z | z
        · obtain ⟨p, hp, hpy⟩ := List.mem_map.mp z
          have q := C.ix p hp
          have hpy : p.1 = y := hpy
          rw [hpy] at q
          exact absurd (List.mem_map.mpr ⟨p, hp, nodup_ix hN q h1⟩) hne
        · exact absurd (List.mem_of_getElem? h1) z
      · exact absurd rfl (C.cell _ (PySem.mem_of_lookup k))
      · obtain ⟨m, hn, hlk⟩ := I.loc
        have hvis : Vis X.env.scope y := (C.free _ (PySem.mem_of_lookup k) rfl).elim (fun k => .inr (.inl k)) (fun k => .inr (.inr k))
        obtain ⟨w', r, q⟩ := hlk i y v h1 h4 hvis
        obtain ⟨c2, hc2⟩ := look k
        refine ⟨w', r, .inr ⟨.inr ?_, c2, hc2, ?_⟩⟩
        · show cenv.scope.names.lookup y = _
          rw [e1]
          exact k
        have c1 := cm hc2
        rcases q with ⟨k', _⟩ | ⟨_, c3, e', z⟩
        · have k' : X.env.scope.names.lookup y = some .local := k'
          rcases C.free _ (PySem.mem_of_lookup k) rfl with k2 | k2 <;> rw [show X.env.scope.names.lookup y = _ from k2] at k' <;> cases k'
        · rw [c1] at e'
          cases e'
          exact cellK z
    · refine ⟨u, h5, .inl ⟨?_, h6⟩⟩
      show cenv.scope.names.lookup y = _
      rw [e1]
      exact h4
  · obtain ⟨w', z⟩ := I.cell y c (cm e)
    exact ⟨w', cellK z⟩
  · show H cenv.locals = none
    rw [e5]
    exact I.hok.fresh (Nat.le_refl _)
  · exact I.freeC y c (cm e)
/-- a key function: what a lambda's object is, and what it does to a value -/
structure LamF (X : Cx) (g : Gc) (k : Nat) (params : Arguments) (body : Expr) (scope : Scope) (own : List (Str × Nat)) (i : Nat) (fe : FE) : Prop where
  C : CloS X.N X.env.scope scope own
  gen : scope.isGenerator = false
  par : ∃ a, X.N[i]? = some a ∧ scope.names.lookup a = some .local ∧ ∀ (q : Str) (cl : List (Str × Addr)) (pm cv ctv u : Value), bindArgs (PySem.W.kla_fn "<lambda>" q params body scope cl pm cv ctv) ⟨[u], []⟩ = pure [(a, u)]
  body : ∀ (A : Around) (s : Shared) (H : Hp) (L f c' : Addr), Room k (A.deeper (LamX.lamEnv X scope L f c')) → PE (cloCx X A (LamX.lamEnv X scope L f c') s H [] (fun _ _ => False)) body (rd X.K g W0 fe)
theorem lam_call {k i : Nat} {params : Arguments} {body : Expr} {scope : Scope} {own : List (Str × Nat)} {fe : FE} {A : Around} {f c' : Addr} {pm ctv v : Value} {x : V} {Q : VK} (F : LamF X g k params body scope own i fe) (hN : X.N.Nodup) (I : Inv X pins σ H s)
    (hf : s.heap.get? f = some (PySem.W.kla_obj "<lambda>" (X.env.qual ++ "<lambda>") params body scope (cloFrom X.env.cells scope.names []) pm c' ctv)) (hc : H c' = some (LamX.CodeO c' (X.env.qual ++ "<lambda>"))) (hr : Room (k + 1) A) (hA : A.frames = some X.stack) (rx : RelV x v)
    (h : rd X.K g W0 fe ((L2.wipe σ (own.map (·.2))).set i (some x)) H Q) :
    wpAny (model X.prog X.w) A (call (.ref f) [v]) (EP X pins σ Q) (fun _ _ => False) s := by
  obtain ⟨a, ha, hal, hbind⟩ := F.par
  obtain ⟨⟨oc, vs, t, hoc, hdc, hvc⟩, _, _⟩ := I.hok c' _ hc
  have rc : codeAny (model X.prog X.w) A (.call (.ref f) ⟨[v], []⟩) (CR C8.CX0 X.stack X.prog X.w H s Q C8.E0) s := by
    refine PySem.W.kla_callFunE hr.depth hf rfl F.C.co F.gen rfl ⟨c', oc, vs, t, rfl, hoc, hdc, hvc⟩ ?_
    rw [hbind]
    refine wpAny_pure (wpAny_newFunctionEnv (fun y hy => F.C.cell y hy) (fun y hy => by
      rw [List.mem_singleton.mp hy]
      exact hal) (fun h₁ hns hsb => ⟨I.nolimit.fresh _ hsb, ?_⟩) F.C.kind)
    show codeAny _ _ (.expr body (LamX.lamEnv X scope s.heap.objs.size f c')) _ _
    have kp : ∀ b o, s.heap.get? b = some o → h₁.get? b = some o := fun b o e => hsb.extBut b o (Nat.ne_of_lt (Heap.lt_size e)) (Heap.get?_push_of_some _ e)
    have hlen : (L2.wipe σ (own.map (·.2))).length = σ.length := L2.wipe_length ..
    have J : Inv (cloCx X A (LamX.lamEnv X scope s.heap.objs.size f c') s H [] (fun _ _ => False)) [] ((L2.wipe σ (own.map (·.2))).set i (some x)) H { s with heap := h₁, toks := s.toks + ([(a, v)] : List (Str × Value)).length, gens := s.gens } := by
      refine clo_start I F.C hN hr.hd hA rfl rfl rfl rfl rfl rfl I.bare (fun b hb => absurd hb (by simp)) hns kp (by rw [List.length_set]; exact hlen) fun j y w hy hw => ?_
      by_cases hij : i = j
      · subst hij
        by_cases hl : i < (L2.wipe σ (own.map (·.2))).length
        · rw [List.getElem?_set_self hl] at hw
          cases hw
          rw [ha] at hy
          cases hy
          exact .inr ⟨hal, v, rx, by simp⟩
        · rw [List.getElem?_eq_none (by rw [List.length_set]; omega)] at hw
          cases hw
      · rw [List.getElem?_set_ne hij] at hw
        exact .inl hw
    refine PySem.W.kla_codeExpr (wpAny_mono ((F.body A s H _ f c' (hr.deeper _)).run [] _ _ H Q J h) (fun v s' hq => ?_) fun e s' hq => hq.elim)
    obtain ⟨w', H', J', rv, q⟩ := hq
    exact ⟨w', H', J'.os, J'.bare, J'.base, J'.hok, rv, q⟩
  refine wpAny_call (codeAny_mono rc fun r s2 hq => ?_)
  cases r with
  | error e => exact (show False from hq).elim
  | ok fl =>
    cases fl with
    | ret u => exact I.after hq
    | next => exact False.elim hq
    | brk => exact False.elim hq
    | cont => exact False.elim hq
end
end FL
set_option Elab.async false
set_option linter.all false
set_option maxRecDepth 100000
set_option maxHeartbeats 2000000
/-! FL20: sorted(xs, key=lambda x: ..). -/
namespace FL
open PySem PySem.Spec PyProof.Rows L2

/-- data without objects of the virtual heap -/
theorem allS_imp {α β : Type} {f f' : α → Option β} : ∀ {xs : List α} {l : List β}, (∀ x ∈ xs, ∀ b, f x = some b → f' x = some b) → allS (xs.map f) = some l → allS (xs.map f') = some l
  | [], l, _, e => e
  | x :: xs, l, h, e => by
    rw [List.map_cons] at e
    obtain ⟨a, l', e1, e2, rfl⟩ := allS_cons e
    rw [List.map_cons, h x List.mem_cons_self a e1]
    show (match allS (xs.map f') with | some l => some (a :: l) | none => none) = _
    rw [allS_imp (fun y hy => h y (List.mem_cons_of_mem _ hy)) e2]
theorem toP_nil : ∀ (n : Nat) (h : VH) (y : FL.D) (p : PyData), toP n [] y = some p → toP n h y = some p
  | 0, _, _, _, e => by cases e
  | n + 1, h, .tup xs, p, e => by
    unfold toP at e ⊢
    split at e
    · rename_i l hl
      rw [allS_imp (fun x _ b hb => toP_nil n h x b hb) hl]
      exact e
    · cases e
  | n + 1, h, .fls xs, p, e => by
    unfold toP at e ⊢
    split at e
    · rename_i l hl
      rw [allS_imp (fun x _ b hb => toP_nil n h x b hb) hl]
      exact e
    · cases e
  | n + 1, h, .ref k, p, e => by
    unfold toP at e
    simp at e
  | n + 1, h, .non, p, e => e
  | n + 1, h, .bl _, p, e => e
  | n + 1, h, .int _, p, e => e
  | n + 1, h, .str _, p, e => e
  | n + 1, h, .fdc _ _, p, e => by unfold toP at e; cases e
  | n + 1, h, .ty _, p, e => by unfold toP at e; cases e
  | n + 1, h, .adr _, p, e => by unfold toP at e; cases e

/-- a key: the function's answer changes no object and holds none -/
noncomputable def keyC (own : List Nat) (i : Nat) (fe : FE) (δ : DS) (h : VH) (x : FL.D) : Option (FL.D × PyData) := match fe ((FL.wipe δ own).set i (some x)) h with
  | .ok y h' => open Classical in if h' = h then (match toP deep [] y with
    | some p => some (y, p)
    | none => none) else none
  | _ => none
noncomputable def eSortK (a : FE) (own : List Nat) (i : Nat) (fe : FE) : FE := fun δ h => (a δ h).bind fun x h => match lsOf x h with
  | some xs => match allS (xs.map (keyC own i fe δ h)) with
    | some l => if (alikes (l.map (·.2)) && sortable (l.map (·.2))) = true then .ok (.fls (sortD (xs.zip (l.map (·.2))))) h else .bad
    | none => .bad
  | none => .bad
theorem keyC_some {own : List Nat} {i : Nat} {fe : FE} {δ : DS} {h : VH} {x : FL.D} {y : FL.D} {p : PyData} (e : keyC own i fe δ h x = some (y, p)) : fe ((FL.wipe δ own).set i (some x)) h = .ok y h ∧ toP deep [] y = some p := by
  unfold keyC at e
  split at e
  · rename_i y' h' he
    split at e
    · rename_i hh
      subst hh
      split at e
      · rename_i p' hp
        cases e
        exact ⟨he, hp⟩
      · cases e
    · cases e
  · cases e
section
variable {X : Cx} {pins : List (Addr × Obj)} {σ : L2.St} {H : Hp} {s : Shared} {g : Gc}
/-- untracked objects of ours at ch have changed, the one at a is tracked from now on -/
theorem Inv.adopt {h' : Heap} {t' : Nat} {gs' : Array GenState} {ch : List Addr} {a : Addr} {o : HO} (I : Inv X pins σ H s) (hch : ∀ b ∈ ch, FpOk X pins H b) (ha : a ∈ ch) (hg : AllBare gs')
    (k : ∀ b u, b ∉ ch → s.heap.get? b = some u → h'.get? b = some u) (new : ObjOk X.prog X.w (upd H a o) h' a o) (hi : ∀ b, o ≠ .own b) : Inv X pins σ (upd H a o) { s with heap := h', toks := t', gens := gs' } := by
  have nA : H a = none := (hch a ha).1
  have hn : ∀ b u, H b = some u → b ∉ ch := fun b u e z => by
    rw [(hch b z).1] at e
    cases e
  have hne : ∀ b u, H b = some u → b ≠ a := fun b u e => ne_of_none e nA
  refine I.call (g' := gs') (d' := s.drawn) (t' := t') (ch := ch) ⟨fun b u e n _ hx => k b u hx e, fun b u e n _ hx => ⟨u.slots, k b u hx e⟩, fun b u e n hx => ?_, fun b u e hx => ⟨u, k b u hx e⟩, fun b xs e => ?_, fun b ob xs e => ?_, fun b ps e => ⟨#[], ?_⟩⟩ (fun b u e => ?_) hg (fun b hb => ?_)
  · rw [upd_ne (fun z => hx (by rw [z]; exact ha))]
    exact n
  · rw [upd_ne (hne b _ e)]
    exact e
  · rw [upd_ne (hne b _ e)]
    exact e
  · rw [upd_ne (hne b _ e), e]
    simp
  · by_cases hb : b = a
    · subst hb
      rw [upd_same] at e
      cases e
      exact new
    · rw [upd_ne hb] at e
      refine (I.hok b u e).stay (fun d v hd q => k d v ?_ q) (fun d q => ?_) fun d xs q => ?_
      · rcases hd with z | z
        · rw [z]
          exact hn b u e
        · exact hn d _ z
      · rw [upd_ne (hne d _ q)]
        exact q
      · rw [upd_ne (hne d _ q)]
        exact q
  · obtain ⟨_, f1, f2, f3, f4, f5⟩ := hch b hb
    exact ⟨f3, f1, f4, f5⟩
/-- an untracked object of ours has changed -/
theorem Inv.turnF {h' : Heap} {t' : Nat} {a : Addr} (I : Inv X pins σ H s) (f : FpOk X pins H a) (k : ∀ b u, b ≠ a → s.heap.get? b = some u → h'.get? b = some u) : Inv X pins σ H { s with heap := h', toks := t' } := by
  obtain ⟨f0, f1, f2, f3, f4, f5⟩ := f
  exact I.turned k f0 f1 f3 f4 f5
theorem Inv.pinsub {pins' : List (Addr × Obj)} (I : Inv X pins σ H s) (h : ∀ p ∈ pins', p ∈ pins) : Inv X pins' σ H s := I.pins_of fun p hp => I.pin p (List.mem_append_right _ (h p hp))
/-- one more pin -/
theorem Inv.pin1 {a : Addr} {o : Obj} (I : Inv X pins σ H s) (f : FpOk X pins H a) (e : s.heap.get? a = some o) (hd : ∀ v, o.data ≠ .cell v) : Inv X (pins ++ [(a, o)]) σ H s := I.pins_of fun p hp => by
  rcases List.mem_append.mp hp with z | z
  · exact I.pin p (List.mem_append_right _ z)
  · rw [List.mem_singleton.mp z]
    exact ⟨e, f.1, f.2.1, f.2.2.1, hd⟩
theorem each_snd {R : Value → PyData → Prop} : ∀ {us : List Value} {xs : List FL.D} {l : List PyData}, l.length = xs.length → PySem.W.EachIs (fun v (b : FL.D × PyData) => R v b.2) us (xs.zip l) → PySem.W.EachIs R us l
  | us, [], [], _, h => by
    cases h
    exact .nil
  | us, [], _ :: _, hl, _ => by simp at hl
  | us, _ :: _, [], hl, _ => by simp at hl
  | us, x :: xs, a :: l, hl, h => by
    rw [List.zip_cons_cons] at h
    cases h with
    | cons h1 h2 => exact .cons h1 (each_snd (by simpa using hl) h2)
end
/-! ### the sort's own steps -/
section
variable {X : Cx} {pins : List (Addr × Obj)} {σ : L2.St} {s : Shared} {g : Gc}
/-- what the keys' loop keeps -/
structure KLoop (X : Cx) (g : Gc) (pins : List (Addr × Obj)) (σ : L2.St) (m0 : Nat → Addr) (h : VH) (H0 : Hp) (a kS : Addr) (e1 : Nat) (ys : List FL.D) (i : Nat) (s' : Shared) : Prop where
  ex : ∃ m H kA e ws, Inv X (pins ++ [(kS, seqObj "list" kA e), (a, seqObj "list" #[] e1)]) σ H s' ∧ Sim X.K g m h H ∧ Ext m0 h.length H0 m h.length H ∧ Vals ws kA.toList ∧ RDs X.K m h.length H (ys.take i) ws
theorem sort_keys {f : Value} {A : Around} {E : Value → Shared → Prop} {P : PySem.Fin → Shared → Prop} {m0 : Nat → Addr} {h : VH} {H0 : Hp} {a kS : Addr} {e1 : Nat} {ys : List FL.D} {vs : List Value} (hlen : ys.length = vs.length) (hZ : vs.length ≤ sizeLine) (hka : kS ≠ a)
    (fk : ∀ H, H kS = none → FpOk X pins H kS) (fa : ∀ H, H a = none → FpOk X pins H a)
    (h0 : KLoop X g pins σ m0 h H0 a kS e1 ys 0 s)
    (turn : ∀ (i : Nat) (v : Value) (y : FL.D), vs[i]? = some v → ys[i]? = some y → ∀ (s : Shared) (pins' : List (Addr × Obj)) (m : Nat → Addr) (H : Hp), Inv X (pins ++ pins') σ H s → Sim X.K g m h H → Ext m0 h.length H0 m h.length H →
      wpAny (model X.prog X.w) A (call f [v]) (EP X (pins ++ pins') σ fun w H' => ∃ m', Sim X.K g m' h H' ∧ Ext m h.length H m' h.length H' ∧ RD X.K m' h.length H' y w) (fun _ _ => False) s)
    (done : ∀ s' kA e m H ws, Inv X (pins ++ [(kS, seqObj "list" kA e), (a, seqObj "list" #[] e1)]) σ H s' → Sim X.K g m h H → Ext m0 h.length H0 m h.length H → Vals ws kA.toList → RDs X.K m h.length H ys ws → wpAny (model X.prog X.w) A (ksk_end a false vs.toArray e1 (.ref kS) kA) P E s') :
    wpAny (model X.prog X.w) A (ksk_rest a f false vs.toArray e1 (.ref kS)) P E s := by
  unfold ksk_rest
  refine wpAny_bind (wpAny_rule ?_)
  first
    | rw [List.forIn_toArray]
    | (rw [← Array.forIn_toList]; simp only [List.toList_toArray])
  refine wpAny_bind (ksk_fold (KLoop X g pins σ m0 h H0 a kS e1 ys) vs 0 s h0 (fun j x s' hx q => ?_) fun s' q => ?_)
  · rw [Nat.zero_add] at q ⊢
    obtain ⟨m, H, kA, e, ws, I, sm, ex, vw, rw'⟩ := q.ex
    have hj : j < vs.length := (List.getElem?_eq_some_iff.mp hx).1
    obtain ⟨y, hy⟩ : ∃ y, ys[j]? = some y := ⟨_, List.getElem?_eq_getElem (by omega)⟩
    have hz : kA.size ≤ vs.length := by
      have h1 := vw.length
      have h2 := rw'.length
      have h3 : kA.toList.length = kA.size := Array.length_toList
      rw [List.length_take] at h2
      omega
    refine wpAny_bind (wpAny_attempt (wpAny_mono (turn j x y hx hy s' _ m H I sm ex) (fun v s2 hq => ?_) fun _ _ z => z.elim))
    obtain ⟨w, H2, I2, rv, m2, sm2, ex2, ry⟩ := hq
    have pk := I2.pin (kS, seqObj "list" kA e) (List.mem_append_right _ (List.mem_append_right _ List.mem_cons_self))
    have pa := I2.pin (a, seqObj "list" #[] e1) (List.mem_append_right _ (List.mem_append_right _ (List.mem_cons_of_mem _ List.mem_cons_self)))
    have s1 := Heap.SameBut.update s2.heap kS (Obj.mapSeq (·.push v))
    obtain ⟨c2, hc2⟩ : ∃ c2, (s2.heap.update kS (Obj.mapSeq (·.push v))).get? kS = some (seqObj "list" (kA.push v) c2) := ⟨_, get?_update_seq pk.1 (·.push v)⟩
    refine wpAny_bind (listUpdate_at pk.1 rfl ?_ (Nat.le_trans hz hZ) (Nat.le_trans (Nat.le_of_eq (Array.size_push ..)) (Nat.succ_le_succ (Nat.le_trans hz hZ))))
    refine wpAny_pure ⟨rfl, ⟨m2, H2, kA.push v, c2, ws ++ [w], ?_, sm2, ex.trans ex2, ?_, ?_⟩⟩
    · have I3 : Inv X pins σ H2 { s2 with heap := s2.heap.update kS (Obj.mapSeq (·.push v)), toks := s2.toks } := Inv.turnF (FL.Inv.pinsub I2 fun p hp => List.mem_append_left _ hp) (fk H2 pk.2.1) fun b u hb e => (s1.2 b hb).trans e
      refine I3.pins_of fun p hp => ?_
      rcases List.mem_append.mp hp with z | z
      · exact I3.pin p (List.mem_append_right _ z)
      · rcases List.mem_cons.mp z with rfl | z
        · exact ⟨hc2, pk.2.1, pk.2.2.1, pk.2.2.2.1, fun v z => by cases z⟩
        · rw [List.mem_singleton.mp z]
          exact ⟨(s1.2 a hka.symm).trans pa.1, pa.2⟩
    · rw [Array.toList_push]
      exact vw.append (.cons rv .nil)
    · rw [List.take_add_one, hy]
      exact (RDs.mono (Nat.le_refl _) ex2.eq ex2.im _ _ rw').append (.cons ry .nil)
  · obtain ⟨m, H, kA, e, ws, I, sm, ex, vw, rw'⟩ := q.ex
    have nk := (I.pin (kS, seqObj "list" kA e) (List.mem_append_right _ (List.mem_append_right _ List.mem_cons_self))).1
    refine wpAny_bind (listItems_at nk rfl ?_)
    refine done s' kA e m H ws I sm ex vw ?_
    rw [List.take_of_length_le (by omega)] at rw'
    exact rw'
end
section
variable {X : Cx} {pins : List (Addr × Obj)} {σ : L2.St} {s : Shared} {g : Gc}
theorem sort_end {A : Around} {E : Value → Shared → Prop} {P : PySem.Fin → Shared → Prop} {m : Nat → Addr} {h : VH} {H : Hp} {a kS : Addr} {e e1 : Nat} {kA : Array Value} {ys xs : List FL.D} {vs : List Value} {ws us : List V} {l : List PyData} (hu : A.units + 13 < cLine) (hZ : vs.length ≤ sizeLine) (hka : kS ≠ a)
    (fk : FpOk X pins H kS) (fa : FpOk X pins H a) (I : Inv X (pins ++ [(kS, seqObj "list" kA e), (a, seqObj "list" #[] e1)]) σ H s) (sm : Sim X.K g m h H) (vw : Vals ws kA.toList) (rw' : RDs X.K m h.length H ys ws)
    (vu : Vals us vs) (ru : RDs X.K m h.length H xs us) (hl : allS (ys.map (toP deep [])) = some l) (hxy : ys.length = xs.length) (al : alikes l = true) (so : sortable l = true)
    (q : ∀ (h3 : Heap) (tk : Nat) (zs : List V), Inv X pins σ (upd H a (.lst zs)) { s with heap := h3, toks := tk } → RDs X.K m h.length H (sortD (xs.zip l)) zs → P (.done (.ret .none)) { s with heap := h3, toks := tk }) :
    wpAny (model X.prog X.w) A (ksk_end a false vs.toArray e1 (.ref kS) kA) P E s := by
  have pk := I.pin (kS, seqObj "list" kA e) (List.mem_append_right _ (List.mem_append_right _ List.mem_cons_self))
  have pa := I.pin (a, seqObj "list" #[] e1) (List.mem_append_right _ (List.mem_append_right _ (List.mem_cons_of_mem _ List.mem_cons_self)))
  have lly := allS_len hl
  have ll : l.length = xs.length := lly.trans hxy
  have hl2 : allS (ys.map (toP deep h)) = some l := allS_imp (fun x _ b hb => toP_nil deep h x b hb) hl
  obtain ⟨er, dp⟩ := each_read I sm rw' vw hl2
  have hk' : PySem.W.EachIs (fun v k => ∃ as, Reads s.heap v k as) kA.toList l := each_snd lly er
  have hsz : kA.size = vs.length := by
    have h1 := vw.length
    have h2 := rw'.length
    have h3 : kA.toList.length = kA.size := Array.length_toList
    have h4 := vu.length
    have h5 := ru.length
    omega
  have dpl : ∀ d ∈ l, A.units + d.depth < cLine := fun d hd => by
    have hd2 : d ∈ (ys.zip l).map (·.2) := by rw [zip_snd lly]; exact hd
    obtain ⟨b, hb, rfl⟩ := List.mem_map.mp hd2
    have := dp b hb
    have : deep = 12 := rfl
    omega
  obtain ⟨G, g1, g2⟩ := restrict s.heap fun b => !decide (b = kS)
  have gk : ∀ b o, b ≠ kS → s.heap.get? b = some o → G.get? b = some o := fun b o hb e => by rw [g1 b (by simp [hb])]; exact e
  refine PySem.W.keyH_end (κ := PySem.W.dataKind s.heap l) (h₁ := G) (fun b o hb e => ?_) (g2 kS (by simp)) pk.1 pa.1 hka (PySem.W.SortsAt.data hk' (alikes_all al) (sortable_of so) dpl) hsz hZ fun h3 tk3 c k3 n3 => ?_
  · by_cases hb2 : b = kS
    · rw [hb2, g2 kS (by simp)] at e
      cases e
    · rw [g1 b (by simp [hb2])] at e
      exact e
  · have ko : PySem.W.KeyedOut false l vs (PySem.W.sortVals (PySem.W.dataKind s.heap l) false kA.toList vs) := ⟨s.heap, kA.toList, alikes_all al, rfl, hk'⟩
    have e2 : PySem.W.EachIs (StD X.K m h.length H) (PySem.W.sortVals (PySem.W.dataKind s.heap l) false kA.toList vs) ((xs.zip l).mergeSort (PySem.W.dataLe false (·.2))) :=
      PySem.W.keyedOut_each (bs := xs.zip l) (·.2) (by rw [zip_snd ll]; exact ko) (each_std ru vu ll)
    obtain ⟨zs, z1, z2⟩ := sort_rds (X := X) e2
    refine q h3 tk3 zs ?_ z2
    refine Inv.adopt (ch := [kS, a]) (FL.Inv.pinsub I fun p hp => List.mem_append_left _ hp) (fun b hb => ?_) (List.mem_cons_of_mem _ List.mem_cons_self) I.bare (fun b u hb e => k3 b u (fun z => hb (by rw [z]; simp)) (gk b u (fun z => hb (by rw [z]; simp)) e)) ⟨?_, _, c, z1, n3⟩ (fun b z => by cases z)
    · rcases List.mem_cons.mp hb with rfl | hb
      · exact fk
      · rw [List.mem_singleton.mp hb]
        exact fa
    · have h6 := z2.length
      have h7 : (sortD (xs.zip l)).length = xs.length := by
        unfold sortD
        rw [List.length_map, List.length_mergeSort, List.length_zip, ll, Nat.min_self]
      have h8 := ru.length
      have h9 := vu.length
      rw [← h6, h7, h8, h9]
      exact hZ
end
end FL
set_option Elab.async false
set_option linter.all false
set_option maxRecDepth 100000
set_option maxHeartbeats 2000000
/-! FL21: the rules of sorted(xs, key=lambda x: ..), min(range(..), key=lambda x: ..). -/
namespace FL
open PySem PySem.Spec PyProof.Rows L2
section
variable {X : Cx} {pins : List (Addr × Obj)} {σ : L2.St} {H : Hp} {s : Shared} {g : Gc} {W : WX}
theorem allS_get {α β : Type} {f : α → Option β} : ∀ {xs : List α} {l : List β} {i : Nat} {x : α}, allS (xs.map f) = some l → xs[i]? = some x → ∃ b, l[i]? = some b ∧ f x = some b
  | [], _, _, _, _, h => by simp at h
  | x :: xs, l, i, y, e, h => by
    rw [List.map_cons] at e
    obtain ⟨a, l', e1, e2, rfl⟩ := allS_cons e
    cases i with
    | zero =>
      simp at h
      subst h
      exact ⟨a, by simp, e1⟩
    | succ i =>
      obtain ⟨b, h1, h2⟩ := allS_get (i := i) e2 (by simpa using h)
      exact ⟨b, by simpa using h1, h2⟩
theorem keys_nil {own : List Nat} {i : Nat} {fe : FE} {δ : DS} {h : VH} : ∀ {xs : List FL.D} {l : List (FL.D × PyData)}, allS (xs.map (keyC own i fe δ h)) = some l → allS ((l.map (·.1)).map (toP deep [])) = some (l.map (·.2))
  | [], l, e => by
    simp only [List.map_nil, allS, Option.some.injEq] at e
    subst e
    rfl
  | x :: xs, l, e => by
    rw [List.map_cons] at e
    obtain ⟨⟨y, p⟩, l', e1, e2, rfl⟩ := allS_cons e
    obtain ⟨_, hp⟩ := keyC_some e1
    show allS (toP deep [] y :: (l'.map (·.1)).map (toP deep [])) = _
    rw [hp]
    have ih := keys_nil e2
    simp only [allS, ih, List.map_cons]
/-- a lambda's object is made, and pinned -/
theorem lam_mk {P c : Addr} {params : Arguments} {body : Expr} {scope : Scope} {pos : Pos} {E : Value → Shared → Prop} {Q : Value → Shared → Prop} {m : Nat → Addr} {h : VH} {own : List (Str × Nat)} (I : Inv X pins σ H s) (sm : Sim X.K g m h H) (TB : LamX.TabB X.base X.mg c P) (hcode : X.env.code = .ref c)
    (hm : (P, X.env.qual ++ "<lambda>") ∈ g.T) (hu : ∀ p ∈ g.T, p.1 = P → p.2 = X.env.qual ++ "<lambda>") (C : CloS X.N X.env.scope scope own) (hdef : defaultsOf params X.env = ([], []))
    (q : ∀ (f c' : Addr) (pm ctv : Value) (H1 : Hp) (s' : Shared), Inv X (pins ++ [(f, PySem.W.kla_obj "<lambda>" (X.env.qual ++ "<lambda>") params body scope (cloFrom X.env.cells scope.names []) pm c' ctv)]) σ H1 s' → Ext m h.length H m h.length H1 → Sim X.K g m h H1 → H1 c' = some (LamX.CodeO c' (X.env.qual ++ "<lambda>")) → Q (.ref f) s') :
    wpAny (model X.prog X.w) X.A (eval (.Lambda params body scope pos) X.env) Q E s := by
  refine LamX.lam_make2 I TB hcode hm hu sm.tab hdef (C.has I.ok) fun f c' pm ctv H1 s' I1 eN T1 hf hfn hfr hc => ?_
  obtain ⟨e1, s1⟩ := Ext_of sm eN T1
  refine q f c' pm ctv H1 s' (I1.pins_of fun p hp => ?_) e1 s1 hc
  rcases List.mem_append.mp hp with z | z
  · exact I1.pin p (List.mem_append_right _ z)
  · rw [List.mem_singleton.mp z]
    have hL : f ∉ X.fs := fun hb => hfr (by
      rcases I.ok.stk with e | ⟨e, hf⟩
      · rw [e]
        exact hb
      · rw [e]
        unfold frs
        rw [List.filterMap_cons, hf]
        exact List.mem_cons_of_mem _ hb)
    refine ⟨hf, hfn, fun z => ?_, hL, fun v z => by cases z⟩
    obtain ⟨mm, ⟨o, es, ep, ho, hd, _⟩, _⟩ := I1.loc
    rw [← z, hf] at ho
    cases ho
    cases hd
/-- code objects stay -/
theorem Ext.code {K : PySem.W.Frag} {m m' : Nat → Addr} {h : VH} {n' : Nat} {H H' : Hp} {c : Addr} {q : Str} (sm : Sim K g m h H) (e : Ext m h.length H m' n' H') (hc : H c = some (LamX.CodeO c q)) : H' c = some (LamX.CodeO c q) := by
  refine e.fr c _ (fun k hk z => ?_) hc trivial
  have ro := sm.obj k h[k] (by simp [hk])
  rw [z] at ro
  unfold LamX.CodeO at hc
  cases ho : h[k] with
  | lst xs =>
    rw [ho] at ro
    obtain ⟨vs, e1, _⟩ := ro
    rw [hc] at e1
    cases e1
  | dct xs =>
    rw [ho] at ro
    obtain ⟨vs, e1, _⟩ := ro
    rw [hc] at e1
    cases e1
  | ins c fs =>
    rw [ho] at ro
    obtain ⟨C, dx, vs, _, e1, _⟩ := ro
    rw [hc] at e1
    cases e1
theorem sortK_run {k i : Nat} {params : Arguments} {body : Expr} {scope : Scope} {own : List (Str × Nat)} {fe : FE} {δ : DS} {f c' l : Addr} {pm ctv : Value} {m : Nat → Addr} {h : VH} {xs : List FL.D} {us : List V} {ll : List (FL.D × PyData)} {Q : VK} (F : LamF X g k params body scope own i fe) (hN : X.N.Nodup) (hr : Room (k + 1 + 1 + 1) X.A)
    (I : Inv X (pins ++ [(f, PySem.W.kla_obj "<lambda>" (X.env.qual ++ "<lambda>") params body scope (cloFrom X.env.cells scope.names []) pm c' ctv)]) σ H s) (sm : Sim X.K g m h H) (rr : RS X.K m h.length H δ σ) (hc : H c' = some (LamX.CodeO c' (X.env.qual ++ "<lambda>")))
    (hs : SqL X.K H l us) (ru : RDs X.K m h.length H xs us) (hk : allS (xs.map (keyC (own.map (·.2)) i fe δ h)) = some ll) (al : alikes (ll.map (·.2)) = true) (so : sortable (ll.map (·.2)) = true)
    (q : GoodE X.K g (fun c d H' => W c d σ H') m h.length H Q (.ok (.fls (sortD (xs.zip (ll.map (·.2))))) h)) :
    wpAny (model X.prog X.w) X.A (call (.builtin "sorted") [.ref l] [(Str.ofString "key", .ref f)]) (EP X pins σ Q) X.xe s := by
  obtain ⟨its, rv, hL, hz⟩ := I.list hs
  have hlen := rv.length
  have hZ : its.length ≤ sizeLine := by rw [← hlen]; exact hz
  have hxl := ru.length
  have hll : ll.length = xs.length := allS_len hk
  have lt0 : ∀ b o, s.heap.get? b = some o → b ≠ s.heap.objs.size + 1 := fun b o e => Nat.ne_of_lt (Nat.lt_succ_of_lt (Heap.lt_size e))
  refine PySem.W.sorted_of_sort hL.isList hZ (ksk_s1 _ _) (fun x => ksk_l1 _ _) fun E' => ?_
  rw [ksk_t1]
  generalize ea : s.heap.objs.size + 1 = a at lt0 ⊢
  have ho : (PySem.W.copyHeap s.heap its).get? a = some (seqObj "list" its.toArray 0) := by rw [← ea]; exact PySem.W.copyHeap_at ..
  have ha : a < (PySem.W.copyHeap s.heap its).objs.size := Heap.lt_size ho
  have k1 : ∀ b o, s.heap.get? b = some o → (PySem.W.copyHeap s.heap its).get? b = some o := fun b o e => PySem.W.copyHeap_old e
  generalize PySem.W.copyHeap s.heap its = hp at ho ha k1 ⊢
  have s1 := Heap.SameBut.update hp a (Obj.mapSeq fun _ => (#[] : Array Value))
  obtain ⟨e1, ho1⟩ : ∃ e1, (hp.update a (Obj.mapSeq fun _ => (#[] : Array Value))).get? a = some (seqObj "list" #[] e1) := ⟨_, get?_update_seq ho fun _ => #[]⟩
  have hkS : ((hp.update a (Obj.mapSeq fun _ => (#[] : Array Value))).push (seqObj "tuple" its.toArray 0)).objs.size = hp.objs.size + 1 := by rw [size_push', Heap.size_update]
  unfold ksk_tree
  refine wpAny_bind (listItems_at ho rfl ?_)
  refine wpAny_bind (listUpdate_at ho rfl ?_ (by rw [List.size_toArray]; exact hZ) (Nat.zero_le _))
  refine wpAny_bind (seqEpoch_at ho1 rfl ?_)
  refine wpAny_bind (wpAny_newTuple ?_ (by show its.length ≤ _; exact hZ))
  refine wpAny_bind (wpAny_newList ?_ (Nat.zero_le _))
  refine wpAny_holding ?_
  show wpAny _ _ (ksk_rest a (.ref f) false its.toArray e1 (.ref ((hp.update a (Obj.mapSeq fun _ => (#[] : Array Value))).push (seqObj "tuple" its.toArray 0)).objs.size)) _ _ { s with heap := ((hp.update a (Obj.mapSeq fun _ => (#[] : Array Value))).push (seqObj "tuple" its.toArray 0)).push (seqObj "list" #[] 0) }
  have hkat : (((hp.update a (Obj.mapSeq fun _ => (#[] : Array Value))).push (seqObj "tuple" its.toArray 0)).push (seqObj "list" #[] 0)).get? (hp.objs.size + 1) = some (seqObj "list" #[] 0) := by rw [← hkS]; exact Heap.get?_push_size _ rfl
  have hat : (((hp.update a (Obj.mapSeq fun _ => (#[] : Array Value))).push (seqObj "tuple" its.toArray 0)).push (seqObj "list" #[] 0)).get? a = some (seqObj "list" #[] e1) := Heap.get?_push_of_some _ (Heap.get?_push_of_some _ ho1)
  have k2 : ∀ b o, s.heap.get? b = some o → (((hp.update a (Obj.mapSeq fun _ => (#[] : Array Value))).push (seqObj "tuple" its.toArray 0)).push (seqObj "list" #[] 0)).get? b = some o := fun b o e => Heap.get?_push_of_some _ (Heap.get?_push_of_some _ ((s1.2 b (lt0 b o e)).trans (k1 b o e)))
  rw [hkS]
  generalize (((hp.update a (Obj.mapSeq fun _ => (#[] : Array Value))).push (seqObj "tuple" its.toArray 0)).push (seqObj "list" #[] 0)) = h4 at hkat hat k2 ⊢
  have hka : hp.objs.size + 1 ≠ a := Nat.ne_of_gt (Nat.lt_succ_of_lt ha)
  have hsz : s.heap.objs.size ≤ hp.objs.size + 1 := by omega
  have hsa : s.heap.objs.size ≤ a := by omega
  generalize hp.objs.size + 1 = kS at hkat hka hsz ⊢
  have fk : ∀ H', H' kS = none → FpOk X (pins ++ [(f, PySem.W.kla_obj "<lambda>" (X.env.qual ++ "<lambda>") params body scope (cloFrom X.env.cells scope.names []) pm c' ctv)]) H' kS := fun H' hn => I.fpOk hsz hn
  have fa : ∀ H', H' a = none → FpOk X (pins ++ [(f, PySem.W.kla_obj "<lambda>" (X.env.qual ++ "<lambda>") params body scope (cloFrom X.env.cells scope.names []) pm c' ctv)]) H' a := fun H' hn => I.fpOk hsa hn
  have I4 : Inv X (pins ++ [(f, PySem.W.kla_obj "<lambda>" (X.env.qual ++ "<lambda>") params body scope (cloFrom X.env.cells scope.names []) pm c' ctv)]) σ H { s with heap := h4, toks := s.toks } := I.kept k2
  have nk := I.hok.fresh hsz
  have na := I.hok.fresh hsa
  have I5 := FL.Inv.pin1 (FL.Inv.pin1 I4 (fk H nk) hkat (fun v z => by cases z)) (o := seqObj "list" #[] e1) (a := a) ⟨na, (fa H na).2.1, (fa H na).2.2.1, (fa H na).2.2.2.1, (fa H na).2.2.2.2.1, fun p hp => by
    rcases List.mem_append.mp hp with z | z
    · exact (fa H na).2.2.2.2.2 p (List.mem_append_left _ z)
    · rcases List.mem_append.mp z with z | z
      · exact (fa H na).2.2.2.2.2 p (List.mem_append_right _ z)
      · rw [List.mem_singleton.mp z]
        exact hka⟩ hat (fun v z => by cases z)
  rw [List.append_assoc] at I5
  refine sort_keys (ys := ll.map (·.1)) (g := g) (m0 := m) (h := h) (H0 := H) (by rw [List.length_map, hll, hxl, hlen]) hZ hka fk fa ⟨m, H, #[], 0, [], I5, sm, Ext.refl, .nil, by rw [List.take_zero]; exact .nil⟩ (fun j v y hv hy s' pins' m1 H1 I1 sm1 ex1 => ?_) fun s' kA e m1 H1 ws I1 sm1 ex1 vw rw' => ?_
  · have hj : j < us.length := by
      have := (List.getElem?_eq_some_iff.mp hv).1
      omega
    obtain ⟨x, hx⟩ : ∃ x, xs[j]? = some x := ⟨_, List.getElem?_eq_getElem (by omega)⟩
    obtain ⟨u, hu, rx⟩ := ru.get hx
    obtain ⟨v', hv', rv'⟩ := rv.get hu
    rw [hv] at hv'
    cases hv'
    obtain ⟨⟨y', p⟩, hb, hkx⟩ := allS_get hk hx
    rw [List.getElem?_map, hb] at hy
    cases hy
    obtain ⟨he, hp⟩ := keyC_some hkx
    have pf := I1.pin (f, PySem.W.kla_obj "<lambda>" (X.env.qual ++ "<lambda>") params body scope (cloFrom X.env.cells scope.names []) pm c' ctv) (List.mem_append_right _ (List.mem_append_left _ (List.mem_append_right _ List.mem_cons_self)))
    refine lam_call (A := X.A.in1.in1) F hN I1 pf.1 (Ext.code sm ex1 hc) hr.in1.in1 I.ok.frames rv' ?_
    refine ⟨(FL.wipe δ (own.map (·.2))).set i (some x), m1, h, ((RS.wipe (ex1.rs rr) _).set i (ex1.rd rx)), sm1, ?_⟩
    rw [he]
    exact fun m2 H2 e2 s2 w r2 => ⟨m2, s2, e2, r2⟩
  · have hu : X.A.in1.in1.units + 13 < cLine := by
      have := hr.un
      show X.A.units + 1 + 1 + 13 < cLine
      omega
    have pk := I1.pin (kS, seqObj "list" kA e) (List.mem_append_right _ (List.mem_append_right _ List.mem_cons_self))
    have pa := I1.pin (a, seqObj "list" #[] e1) (List.mem_append_right _ (List.mem_append_right _ (List.mem_cons_of_mem _ List.mem_cons_self)))
    refine sort_end hu hZ hka (fk H1 pk.2.1) (fa H1 pa.2.1) I1 sm1 vw rw' rv (ex1.rds ru) (keys_nil hk) (by rw [List.length_map]; exact hll) al so fun h3 tk zs I6 rz => ⟨rfl, ?_⟩
    have I7 := FL.Inv.pinsub I6 fun p hp => List.mem_append_left _ hp
    exact ep_fz ⟨.ref a, _, I7, rfl, sm1.fls pa.2.1 rz fun m2 H2 v e2 s2 r2 => q m2 H2 (ex1.trans e2) s2 v r2⟩
/-- sorted(a, key=lambda x: ..) -/
theorem fe_sortK {c P : Addr} {k i : Nat} {ae : Expr} {params : Arguments} {body : Expr} {scope : Scope} {own : List (Str × Nat)} {sl : List Nat} {fa fe : FE} {p lpos kpos pos : Pos} (hm : X.mg "sorted" = none) (TB : LamX.TabB X.base X.mg c P) (hcode : X.env.code = .ref c)
    (hmT : (P, X.env.qual ++ "<lambda>") ∈ g.T) (hu : ∀ p ∈ g.T, p.1 = P → p.2 = X.env.qual ++ "<lambda>") (hN : X.N.Nodup) (hr : Room (k + 1 + 1 + 1) X.A) (ha : PE X ae (rd X.K g W fa)) (F : LamF X g k params body scope own i fe) (hdef : defaultsOf params X.env = ([], [])) (hsl : own.map (·.2) = sl := by rfl) (hgl : Gl X "sorted" := by rfl)
    (he : backTo pos (starEach [ae] X.env) = (false, eval ae X.env) :: backTo pos (starEach [] X.env) := by rfl) (hpl : (backTo pos (starEach [ae] X.env)).any (·.1) = false := by rfl) :
    PE X (.Call (.Name "sorted" p) [ae] [⟨some "key", .Lambda params body scope lpos, kpos⟩] pos) (rd X.K g W (eSortK fa sl i fe)) := by
  subst hsl
  refine ⟨fun pins s σ H Q I hh => ?_⟩
  obtain ⟨δ, m, h, r, sm, q⟩ := hh
  refine wpAny_Call_Name_kw (ld_blt I hgl hm (u := .builtin "sorted") (by decide +kernel) ?_)
  refine PyProof.Rows.callWith_kw ?_ he hpl rfl rfl
  rw [he]
  refine Calls.spliced_cons (thn (ha.run pins s σ H (fun v H1 => ∃ x m1 h1 xs ll, Ext m h.length H m1 h1.length H1 ∧ Sim X.K g m1 h1 H1 ∧ RD X.K m1 h1.length H1 x v ∧ lsOf x h1 = some xs ∧ allS (xs.map (keyC (own.map (·.2)) i fe δ h1)) = some ll ∧ alikes (ll.map (·.2)) = true ∧ sortable (ll.map (·.2)) = true ∧
      GoodE X.K g (fun c d H' => W c d σ H') m1 h1.length H1 Q (.ok (.fls (sortD (xs.zip (ll.map (·.2))))) h1)) I ⟨δ, m, h, r, sm, Gd.bind q fun x h1 m1 H1 e1 s1 q1 v rv => ?_⟩) fun u s1 ⟨v, H1, I1, r1, x, m1, h1, xs, ll, e1, s1', rv, el, ek, al, so, q1⟩ => ?_)
  · cases el : lsOf x h1 with
    | none => rw [el] at q1; exact q1.elim
    | some xs =>
      rw [el] at q1
      simp only at q1
      cases ek : allS (xs.map (keyC (own.map (·.2)) i fe δ h1)) with
      | none => rw [ek] at q1; exact q1.elim
      | some ll =>
        rw [ek] at q1
        simp only at q1
        split at q1
        · rename_i hc
          rw [Bool.and_eq_true] at hc
          exact ⟨x, m1, h1, xs, ll, e1, s1, rv, el, ek, hc.1, hc.2, q1⟩
        · exact q1.elim
  · refine Calls.spliced_nil ?_
    show wpAny _ _ (evalAll [(do let v ← eval (.Lambda params body scope lpos) X.env; standAt pos; pure v)]) _ _ s1
    refine wpAny_evalAll_cons (wpAny_bind ?_)
    refine lam_mk I1 s1' TB hcode hmT hu F.C hdef fun f c' pm ctv H2 s2 I2 e2 sm2 hc => wpAny_bind (wpAny_standAt (wpAny_pure (wpAny_evalAll_nil ?_)))
    obtain ⟨l, us, ev, hs, ru⟩ := ls_of sm2 (e2.rd rv) el
    subst ev
    obtain rfl : u = Value.ref l := r1
    have rr := (e1.trans e2).rs r
    exact sortK_run F hN hr I2 sm2 rr hc hs ru ek al so (Gd.from e2 q1)
end
end FL
set_option Elab.async false
set_option linter.all false
set_option maxRecDepth 100000
set_option maxHeartbeats 2000000
/-! FL22: min(range(..), key=lambda x: ..). -/
namespace FL
open PySem PySem.Spec PyProof.Rows L2
def notNo : PyData → Bool
  | .none => false
  | _ => true
/-- the first of the least -/
def minP1 (b : FL.D × PyData) : List (FL.D × PyData) → FL.D × PyData
  | [] => b
  | a :: r => minP1 (if PySem.W.dataLt a.2 b.2 = true then a else b) r
def minP : List (FL.D × PyData) → Option FL.D
  | [] => none
  | a :: r => some (minP1 a r).1
noncomputable def eMinK (r : FA) (own : List Nat) (i : Nat) (fe : FE) : FE := fun δ h => (r δ h).bind fun xs h => match rEnds xs with
  | some (lo, hi) => match allS ((rng lo hi).map (keyC own i fe δ h)) with
    | some l => if (alikes (l.map (·.2)) && (l.map (·.2)).all notNo) = true then (match minP ((rng lo hi).zip (l.map (·.2))) with
      | some d => .ok d h
      | none => .bad) else .bad
    | none => .bad
  | none => .bad
section
variable {X : Cx} {pins : List (Addr × Obj)} {σ : L2.St} {H : Hp} {s : Shared} {g : Gc} {W : WX}
abbrev Cx.at (X : Cx) (A : Around) : Cx := { X with A := A }
theorem Inv.toAt {A : Around} (I : Inv X pins σ H s) (hd : A.handled = none) (hf : A.frames = X.A.frames) : Inv (FL.Cx.at X A) pins σ H s :=
  ⟨⟨I.ok.mod, I.ok.kind, I.ok.glob, I.ok.blt, I.ok.above, I.ok.inj, I.ok.has, I.ok.cab, fun _ => hd, hf.trans I.ok.frames, I.ok.stk, I.ok.exf, I.ok.bs, I.ok.bsz, I.ok.noex, I.ok.exfs, I.ok.funs, I.ok.frf⟩, I.os, I.bare, I.base, I.loc, I.cell, I.free, I.freeC, I.pin, I.hok, I.len⟩
theorem Inv.ofAt {A : Around} (I : Inv (FL.Cx.at X A) pins σ H s) (hd : X.calm = true → X.A.handled = none) (hf : X.A.frames = some X.stack) : Inv X pins σ H s :=
  ⟨⟨I.ok.mod, I.ok.kind, I.ok.glob, I.ok.blt, I.ok.above, I.ok.inj, I.ok.has, I.ok.cab, hd, hf, I.ok.stk, I.ok.exf, I.ok.bs, I.ok.bsz, I.ok.noex, I.ok.exfs, I.ok.funs, I.ok.frf⟩, I.os, I.bare, I.base, I.loc, I.cell, I.free, I.freeC, I.pin, I.hok, I.len⟩
/-- a key's data, read -/
theorem key_read {m : Nat → Addr} {h : VH} {y : FL.D} {p : PyData} {w : V} {u : Value} (I : Inv X pins σ H s) (sm : Sim X.K g m h H) (r : RD X.K m h.length H y w) (ru : RelV w u) (e : toP deep [] y = some p) : (∃ as, Reads s.heap u p as) ∧ p.depth ≤ deep := by
  have hl : allS ([y].map (toP deep h)) = some [p] := by
    simp only [List.map_cons, List.map_nil, toP_nil deep h y p e, allS]
  obtain ⟨k1, k2⟩ := each_read I sm (.cons r .nil) (.cons ru .nil) hl
  cases k1 with
  | cons h1 _ => exact ⟨h1, k2 (y, p) (by simp)⟩
/-- the least so far: its value and its key, in the builtin's own list at S -/
structure MBest (X : Cx) (g : Gc) (pins : List (Addr × Obj)) (σ : L2.St) (m0 : Nat → Addr) (h : VH) (H0 : Hp) (S it : Addr) (lo : Int) (n : Nat) (j : Nat) (b : FL.D × PyData) (s : Shared) : Prop where
  ex : ∃ m H vb kb c wb yb wk, Inv X (pins ++ [(S, seqObj "list" #[vb, kb] c)]) σ H s ∧ Sim X.K g m h H ∧ Ext m0 h.length H0 m h.length H ∧ H it = none ∧ IsRangeIter s.heap it (lo + (j : Nat) * 1) ((n : Int) - (j : Nat)) 1 ∧ RelV wb vb ∧ RD X.K m h.length H b.1 wb ∧ RelV wk kb ∧ RD X.K m h.length H yb wk ∧ toP deep [] yb = some b.2
section
variable {A : Around} {R : Result → Shared → Prop} {E : Value → Shared → Prop} {m0 : Nat → Addr} {h : VH} {H0 : Hp} {S it f : Addr} {lo : Int} {n : Nat} {ll : List (FL.D × PyData)} {d : FL.D} {kw : List (Str × Value)}
/-- what the loop of min needs of its surroundings -/
structure MinW (X : Cx) (g : Gc) (pins : List (Addr × Obj)) (σ : L2.St) (m0 : Nat → Addr) (h : VH) (H0 : Hp) (S it f : Addr) (lo : Int) (n : Nat) (ll : List (FL.D × PyData)) : Prop where
  hd : X.A.handled = none
  un : X.A.units + 14 < cLine
  fI : ∀ H, H it = none → FpOk X pins H it
  fS : ∀ H, H S = none → FpOk X pins H S
  ne : S ≠ it
  lk : ll.length = n
  al : alikes (ll.map (·.2)) = true
  nn : (ll.map (·.2)).all notNo = true
  tp : ∀ q ∈ ll, toP deep [] q.1 = some q.2
  turn : ∀ (i : Nat) (q : FL.D × PyData), ll[i]? = some q → ∀ (s : Shared) (pins' : List (Addr × Obj)) (m : Nat → Addr) (H : Hp) (v : Value) (w : V), Inv X (pins ++ pins') σ H s → Sim X.K g m h H → Ext m0 h.length H0 m h.length H → RelV w v → w = .int (lo + (i : Nat)) →
      wpAny (model X.prog X.w) X.A.in1 (call (.ref f) [v]) (EP X (pins ++ pins') σ fun w H' => ∃ m', Sim X.K g m' h H' ∧ Ext m h.length H m' h.length H' ∧ RD X.K m' h.length H' q.1 w) (fun _ _ => False) s
theorem drop_cons {α : Type} {l : List α} {j : Nat} {a : α} {r : List α} (e : l.drop j = a :: r) : l[j]? = some a ∧ l.drop (j + 1) = r := by
  have hl : j < l.length := by
    rcases Nat.lt_or_ge j l.length with z | z
    · exact z
    · rw [List.drop_eq_nil_of_le z] at e
      cases e
  rw [List.drop_eq_getElem_cons hl] at e
  cases e
  exact ⟨by simp [hl], rfl⟩
/-- the next item -/
theorem min_item (M : MinW X g pins σ m0 h H0 S it f lo n ll) {j : Nat} {o : Obj} {m : Nat → Addr} {H : Hp} {Q : Option Value → Shared → Prop} {s : Shared} (I : Inv X (pins ++ [(S, o)]) σ H s) (hn : H it = none) (ht : IsRangeIter s.heap it (lo + (j : Nat) * 1) ((n : Int) - (j : Nat)) 1) (hj : j < n)
    (q : ∀ (u : Value) (s' : Shared), Inv X (pins ++ [(S, o)]) σ H s' → IsRangeIter s'.heap it (lo + ((j + 1 : Nat) : Nat) * 1) ((n : Int) - ((j + 1 : Nat) : Nat)) 1 → RelV (.int (lo + (j : Nat))) u → Q (some u) s') :
    wpAny (model X.prog X.w) X.A.in1 (pyNext (.ref it)) Q E s := by
  obtain ⟨f0, f1, f2, f3, f4, f5⟩ := M.fI H hn
  have Wk := Walks.range (prog := X.prog) (w := X.w) (A := X.A.in1) M.hd it lo 1 n
  refine Wk.item j s _ _ hj ht fun v h' tk hv st' kk => ?_
  obtain ⟨t, rfl⟩ := hv
  have I1 : Inv X (pins ++ [(S, o)]) σ H { s with heap := h', toks := tk } := I.turned (fun b o hb e => kk b o (by simpa using hb) e) f0 f1 f3 f4 fun p hp => by
    rcases List.mem_append.mp hp with z | z
    · exact f5 p (List.mem_append_left _ z)
    · rcases List.mem_append.mp z with z | z
      · exact f5 p (List.mem_append_right _ z)
      · rw [List.mem_singleton.mp z]
        exact M.ne
  exact q _ _ I1 st' ⟨t, by rw [Int.mul_one]⟩
theorem min_stop (M : MinW X g pins σ m0 h H0 S it f lo n ll) {j : Nat} {o : Obj} {m : Nat → Addr} {H : Hp} {Q : Option Value → Shared → Prop} {s : Shared} (I : Inv X (pins ++ [(S, o)]) σ H s) (hn : H it = none) (ht : IsRangeIter s.heap it (lo + (j : Nat) * 1) ((n : Int) - (j : Nat)) 1) (hj : n ≤ j)
    (q : ∀ (s' : Shared), Inv X (pins ++ [(S, o)]) σ H s' → Q none s') : wpAny (model X.prog X.w) X.A.in1 (pyNext (.ref it)) Q E s := by
  obtain ⟨f0, f1, f2, f3, f4, f5⟩ := M.fI H hn
  refine wpAny_pyNext_range_end (A := X.A.in1) M.hd ht (by omega) fun h' eb => ?_
  exact q _ (I.turned (t' := s.toks) (fun b o hb e => eb b o hb e) f0 f1 f3 f4 fun p hp => by
    rcases List.mem_append.mp hp with z | z
    · exact f5 p (List.mem_append_left _ z)
    · rcases List.mem_append.mp z with z | z
      · exact f5 p (List.mem_append_right _ z)
      · rw [List.mem_singleton.mp z]
        exact M.ne)
theorem zip_at {α β : Type} {l : List α} {r : List β} {j : Nat} {a : α} {b : β} (h : (l.zip r)[j]? = some (a, b)) : l[j]? = some a ∧ r[j]? = some b := by
  rw [List.getElem?_zip_eq_some] at h
  exact h
theorem repin {a : Addr} {o o' : Obj} {h' : Heap} {t' : Nat} (I : Inv X (pins ++ [(a, o)]) σ H s) (f : FpOk X pins H a) (k : ∀ b u, b ≠ a → s.heap.get? b = some u → h'.get? b = some u) (e : h'.get? a = some o') (hd : ∀ v, o'.data ≠ .cell v) : Inv X (pins ++ [(a, o')]) σ H { s with heap := h', toks := t' } :=
  FL.Inv.pin1 (FL.Inv.turnF (FL.Inv.pinsub I fun p hp => List.mem_append_left _ hp) f k) f e hd
/-- the items and their keys from place j on -/
def itsFrom (lo : Int) (j : Nat) (ll : List (FL.D × PyData)) : List (FL.D × PyData) := match ll with
  | [] => []
  | q :: r => (.int (lo + (j : Nat)), q.2) :: itsFrom lo (j + 1) r
theorem min_loop (M : MinW X g pins σ m0 h H0 S it f lo n ll)
    (hR : ∀ u s', (∃ m H w, Inv X pins σ H s' ∧ Sim X.K g m h H ∧ Ext m0 h.length H0 m h.length H ∧ RelV w u ∧ RD X.K m h.length H d w) → R (.ok (.ret u)) s') :
    ∀ (rest : List (FL.D × PyData)) (j : Nat) (b : FL.D × PyData) (s : Shared), ll.drop j = rest → j ≤ n → b.2 ∈ ll.map (·.2) → (minP1 b (itsFrom lo j rest)).1 = d → MBest X g pins σ m0 h H0 S it lo n j b s →
      codeAny (model X.prog X.w) X.A (.builtin "min.loop" ⟨[.ref it, .ref f, .ref S], kw⟩) R s := by
  have hname : (toString "min" ++ toString ".loop" : String) = "min.loop" := by decide
  intro rest
  induction rest with
  | nil =>
    intro j b s hrest hj hb hd mb
    obtain ⟨m, H, vb, kb, c, wb, yb, wk, I, sm, ex, hn, ht, r1, r2, r3, r4, r5⟩ := mb.ex
    have hjn : n ≤ j := by
      have z := List.drop_eq_nil_iff.mp hrest
      have := M.lk
      omega
    have pS := I.pin (S, seqObj "list" #[vb, kb] c) (List.mem_append_right _ (List.mem_append_right _ List.mem_cons_self))
    refine (codeAny_builtin PySem.F.entry_min_loop ?_)
    rw [(Around.under_plainId PySem.F.plain_min_loop _)]
    show wpAny _ X.A.in1 (seqItems? (.ref S) >>= _) _ _ s
    refine wpAny_bind (wpAny_seqItems pS.1 rfl ?_)
    show wpAny _ X.A.in1 (tryCatch (pyNext (.ref it)) _ >>= _) _ _ s
    refine wpAny_bind (wpAny_tryCatch (min_stop (m := m) M I hn ht hjn fun s' I3 => ?_))
    have pS' := (I3.pin (S, seqObj "list" #[vb, kb] c) (List.mem_append_right _ (List.mem_append_right _ List.mem_cons_self))).1
    show wpAny _ X.A.in1 (updateSeq S (fun _ => #[]) >>= _) _ _ s'
    refine wpAny_bind ?_
    refine wpAny_updateSeq pS' rfl (wpAny_bind (wpAny_letGo (wpAny_pure ?_)))
    refine hR vb _ ⟨m, H, wb, FL.Inv.turnF (t' := s'.toks) (FL.Inv.pinsub I3 fun p hp => List.mem_append_left _ hp) (M.fS H pS.2.1) fun b u hb e => ((Heap.SameBut.update s'.heap S (Obj.mapSeq fun _ => #[])).2 b hb).trans e, sm, ex, r1, ?_⟩
    rw [← hd]
    exact r2
  | cons q rest ih =>
    intro j b s hrest hj hb hd mb
    obtain ⟨yk, p⟩ := q
    obtain ⟨m, H, vb, kb, c, wb, yb, wk, I, sm, ex, hn, ht, r1, r2, r3, r4, r5⟩ := mb.ex
    obtain ⟨hk, hrest'⟩ := drop_cons hrest
    have hlt : j < n := by
      have := (List.getElem?_eq_some_iff.mp hk).1
      have := M.lk
      omega
    have pS := I.pin (S, seqObj "list" #[vb, kb] c) (List.mem_append_right _ (List.mem_append_right _ List.mem_cons_self))
    have hpm : p ∈ ll.map (·.2) := List.mem_map.mpr ⟨(yk, p), List.mem_of_getElem? hk, rfl⟩
    have hpt : toP deep [] yk = some p := M.tp _ (List.mem_of_getElem? hk)
    refine (codeAny_builtin PySem.F.entry_min_loop ?_)
    rw [(Around.under_plainId PySem.F.plain_min_loop _)]
    show wpAny _ X.A.in1 (seqItems? (.ref S) >>= _) _ _ s
    refine wpAny_bind (wpAny_seqItems pS.1 rfl ?_)
    show wpAny _ X.A.in1 (tryCatch (pyNext (.ref it)) _ >>= _) _ _ s
    refine wpAny_bind (wpAny_tryCatch (min_item (m := m) M I hn ht hlt fun u s' I1 t1 r6 => ?_))
    have pI := M.fI H hn
    obtain ⟨oI, hoI⟩ : ∃ oI, s'.heap.get? it = some oI := ⟨_, t1⟩
    have I1' : Inv X ((pins ++ [(S, seqObj "list" #[vb, kb] c)]) ++ [(it, oI)]) σ H s' := FL.Inv.pin1 I1 ⟨pI.1, pI.2.1, pI.2.2.1, pI.2.2.2.1, pI.2.2.2.2.1, fun p hp => by
      rcases List.mem_append.mp hp with z | z
      · exact pI.2.2.2.2.2 p (List.mem_append_left _ z)
      · rcases List.mem_append.mp z with z | z
        · exact pI.2.2.2.2.2 p (List.mem_append_right _ z)
        · rw [List.mem_singleton.mp z]
          exact M.ne⟩ hoI (fun v z => by
        have e : s'.heap.get? it = _ := t1
        rw [hoI] at e
        cases e
        cases z)
    rw [List.append_assoc] at I1'
    show wpAny _ X.A.in1 (tryCatch (holding [u] (call (.ref f) [u])) _ >>= _) _ _ s'
    refine wpAny_bind (wpAny_tryCatch (wpAny_holding (wpAny_mono (M.turn j (yk, p) hk s' _ m H u _ I1' sm ex r6 rfl) (fun kx s2 hq => ?_) fun _ _ z => z.elim)))
    obtain ⟨w, H2, I2, r7, m2, sm2, ex2, r8⟩ := hq
    have I2' : Inv X (pins ++ [(S, seqObj "list" #[vb, kb] c)]) σ H2 s2 := FL.Inv.pinsub I2 fun p hp => by
      rcases List.mem_append.mp hp with z | z
      · exact List.mem_append_left _ z
      · exact List.mem_append_right _ (List.mem_append_left _ z)
    have pS2 := I2.pin (S, seqObj "list" #[vb, kb] c) (List.mem_append_right _ (List.mem_append_right _ (List.mem_append_left _ List.mem_cons_self)))
    have pI2 := I2.pin (it, oI) (List.mem_append_right _ (List.mem_append_right _ (List.mem_append_right _ List.mem_cons_self)))
    have t2 : IsRangeIter s2.heap it (lo + ((j + 1 : Nat) : Nat) * 1) ((n : Int) - ((j + 1 : Nat) : Nat)) 1 := by
      have e : s'.heap.get? it = _ := t1
      rw [hoI] at e
      cases e
      exact pI2.1
    obtain ⟨⟨as, ra⟩, da⟩ := key_read I2 sm2 r8 r7 hpt
    obtain ⟨⟨bs, rb⟩, db⟩ := key_read I2 sm2 (ex2.rd r4) r3 r5
    have hal : PySem.W.alike p b.2 = true := alikes_all M.al p hpm b.2 hb
    have hnn : p ≠ .none := fun z => by
      have := List.all_eq_true.mp M.nn p hpm
      rw [z] at this
      cases this
    have hu : X.A.in1.units + min p.depth b.2.depth < cLine := by
      have h1 := M.un
      have h2 : deep = 12 := rfl
      show X.A.units + 1 + _ < _
      omega
    show wpAny _ X.A.in1 (tryCatch (holding [u, kx] (richCompare .Lt kx kb >>= _)) _ >>= _) _ _ s2
    refine wpAny_bind (wpAny_tryCatch (wpAny_holding (wpAny_bind (PySem.W.rcLt_alike p b.2 X.A.in1 s2 kx kb as bs ra rb hal hnn hu _ _ _ _ ?_))))
    refine wpAny_bind (wpAny_holding (wpAny_truthy_bool ?_))
    refine wpAny_bind (wpAny_letGo (wpAny_pure ?_))
    have hfin : ∀ (b' : FL.D × PyData), (b' = if PySem.W.dataLt p b.2 = true then (FL.D.int (lo + (j : Nat)), p) else b) → (minP1 b' (itsFrom lo (j + 1) rest)).1 = d := fun b' e => by
      rw [e]
      exact hd
    cases hlt2 : PySem.W.dataLt p b.2 with
    | true =>
      simp only [if_true]
      refine wpAny_bind ?_
      have s1 := Heap.SameBut.update s2.heap S (Obj.mapSeq fun _ => #[u, kx])
      obtain ⟨c2, hc2⟩ : ∃ c2, (s2.heap.update S (Obj.mapSeq fun _ => #[u, kx])).get? S = some (seqObj "list" #[u, kx] c2) := ⟨_, get?_update_seq pS2.1 fun _ => #[u, kx]⟩
      refine wpAny_updateSeq pS2.1 rfl (wpAny_bind (wpAny_letGo ?_))
      rw [hname]
      refine wpAny_pure ⟨plainId_quiet PySem.F.plain_min_loop _, ih (j + 1) (.int (lo + (j : Nat)), p) _ hrest' hlt hpm (hfin _ (by rw [hlt2]; rfl)) ⟨m2, H2, u, kx, c2, .int (lo + (j : Nat)), yk, w, ?_, sm2, ex.trans ex2, pI2.2.1, (s1.2 it (Ne.symm M.ne)).trans t2, r6, .int _, r7, r8, hpt⟩⟩
      exact repin I2' (M.fS H2 pS2.2.1) (fun b u hb e => (s1.2 b hb).trans e) hc2 (fun v z => by cases z)
    | false =>
      simp only [Bool.false_eq_true, if_false]
      refine wpAny_bind (wpAny_letGo ?_)
      rw [hname]
      exact wpAny_pure ⟨plainId_quiet PySem.F.plain_min_loop _, ih (j + 1) b _ hrest' hlt hb (hfin _ (by rw [hlt2]; rfl)) ⟨m2, H2, vb, kb, c, wb, yb, wk, I2', sm2, ex.trans ex2, pI2.2.1, t2, r1, ex2.rd r2, r3, ex2.rd r4, r5⟩⟩
theorem min_first (M : MinW X g pins σ m0 h H0 S it f lo n ll) {q : FL.D × PyData} {rest : List (FL.D × PyData)} {c : Nat} (hl : ll = q :: rest) (hd : (minP1 (.int lo, q.2) (itsFrom lo 1 rest)).1 = d)
    (I : Inv X (pins ++ [(S, seqObj "list" #[] c)]) σ H0 s) (sm : Sim X.K g m0 h H0) (hn : H0 it = none) (ht : IsRangeIter s.heap it (lo + ((0 : Nat) : Nat) * 1) ((n : Int) - ((0 : Nat) : Nat)) 1)
    (hR : ∀ u s', (∃ m H w, Inv X pins σ H s' ∧ Sim X.K g m h H ∧ Ext m0 h.length H0 m h.length H ∧ RelV w u ∧ RD X.K m h.length H d w) → R (.ok (.ret u)) s') :
    codeAny (model X.prog X.w) X.A (.builtin "min.loop" ⟨[.ref it, .ref f, .ref S], kw⟩) R s := by
  have hname : (toString "min" ++ toString ".loop" : String) = "min.loop" := by decide
  have hlt : 0 < n := by
    have := M.lk
    rw [hl] at this
    simp at this
    omega
  have hk : ll[0]? = some q := by rw [hl]; rfl
  have pS := I.pin (S, seqObj "list" #[] c) (List.mem_append_right _ (List.mem_append_right _ List.mem_cons_self))
  refine (codeAny_builtin PySem.F.entry_min_loop ?_)
  rw [(Around.under_plainId PySem.F.plain_min_loop _)]
  show wpAny _ X.A.in1 (seqItems? (.ref S) >>= _) _ _ s
  refine wpAny_bind (wpAny_seqItems pS.1 rfl ?_)
  show wpAny _ X.A.in1 (tryCatch (pyNext (.ref it)) _ >>= _) _ _ s
  refine wpAny_bind (wpAny_tryCatch (min_item (m := m0) M I hn ht hlt fun u s' I1 t1 r6 => ?_))
  have pI := M.fI H0 hn
  obtain ⟨oI, hoI⟩ : ∃ oI, s'.heap.get? it = some oI := ⟨_, t1⟩
  have I1' : Inv X ((pins ++ [(S, seqObj "list" #[] c)]) ++ [(it, oI)]) σ H0 s' := FL.Inv.pin1 I1 ⟨pI.1, pI.2.1, pI.2.2.1, pI.2.2.2.1, pI.2.2.2.2.1, fun p hp => by
    rcases List.mem_append.mp hp with z | z
    · exact pI.2.2.2.2.2 p (List.mem_append_left _ z)
    · rcases List.mem_append.mp z with z | z
      · exact pI.2.2.2.2.2 p (List.mem_append_right _ z)
      · rw [List.mem_singleton.mp z]
        exact M.ne⟩ hoI (fun v z => by
      have e : s'.heap.get? it = _ := t1
      rw [hoI] at e
      cases e
      cases z)
  rw [List.append_assoc] at I1'
  show wpAny _ X.A.in1 (tryCatch (holding [u] (call (.ref f) [u])) _ >>= _) _ _ s'
  refine wpAny_bind (wpAny_tryCatch (wpAny_holding (wpAny_mono (M.turn 0 q hk s' _ m0 H0 u _ I1' sm Ext.refl r6 rfl) (fun kx s2 hq => ?_) fun _ _ z => z.elim)))
  obtain ⟨w, H2, I2, r7, m2, sm2, ex2, r8⟩ := hq
  have I2' : Inv X (pins ++ [(S, seqObj "list" #[] c)]) σ H2 s2 := FL.Inv.pinsub I2 fun p hp => by
    rcases List.mem_append.mp hp with z | z
    · exact List.mem_append_left _ z
    · exact List.mem_append_right _ (List.mem_append_left _ z)
  have pS2 := I2.pin (S, seqObj "list" #[] c) (List.mem_append_right _ (List.mem_append_right _ (List.mem_append_left _ List.mem_cons_self)))
  have pI2 := I2.pin (it, oI) (List.mem_append_right _ (List.mem_append_right _ (List.mem_append_right _ List.mem_cons_self)))
  have t2 : IsRangeIter s2.heap it (lo + ((0 + 1 : Nat) : Nat) * 1) ((n : Int) - ((0 + 1 : Nat) : Nat)) 1 := by
    have e : s'.heap.get? it = _ := t1
    rw [hoI] at e
    cases e
    exact pI2.1
  show wpAny _ X.A.in1 (updateSeq S (fun _ => #[u, kx]) >>= _) _ _ s2
  refine wpAny_bind ?_
  have s1 := Heap.SameBut.update s2.heap S (Obj.mapSeq fun _ => #[u, kx])
  obtain ⟨c2, hc2⟩ : ∃ c2, (s2.heap.update S (Obj.mapSeq fun _ => #[u, kx])).get? S = some (seqObj "list" #[u, kx] c2) := ⟨_, get?_update_seq pS2.1 fun _ => #[u, kx]⟩
  refine wpAny_updateSeq pS2.1 rfl ?_
  rw [hname]
  have e0 : lo + ((0 : Nat) : Int) = lo := by omega
  refine wpAny_pure ⟨plainId_quiet PySem.F.plain_min_loop _, min_loop M hR rest 1 (.int lo, q.2) _ (by rw [hl]; rfl) hlt (List.mem_map.mpr ⟨q, List.mem_of_getElem? hk, rfl⟩) hd ⟨m2, H2, u, kx, c2, .int (lo + ((0 : Nat) : Nat)), q.1, w, ?_, sm2, ex2, pI2.2.1, (s1.2 it (Ne.symm M.ne)).trans t2, r6, ?_, r7, r8, M.tp _ (List.mem_of_getElem? hk)⟩⟩
  · exact repin I2' (M.fS H2 pS2.2.1) (fun b u hb e => (s1.2 b hb).trans e) hc2 (fun v z => by cases z)
  · rw [e0]
    exact .int _
theorem zip_its : ∀ (l : List PyData) (lo : Int) (j : Nat) (ll : List (FL.D × PyData)), ll.map (·.2) = l → ((List.range ll.length).map fun (k : Nat) => FL.D.int (lo + ((j + k : Nat) : Nat))).zip l = itsFrom lo j ll
  | _, lo, j, [], e => by simp [itsFrom]
  | [], lo, j, q :: r, e => by simp at e
  | p :: l, lo, j, q :: r, e => by
    rw [List.map_cons] at e
    cases e
    rw [List.length_cons, List.range_succ_eq_map, List.map_cons, List.map_map, List.zip_cons_cons]
    show _ = (FL.D.int (lo + (j : Nat)), q.2) :: itsFrom lo (j + 1) r
    rw [← zip_its (r.map (·.2)) lo (j + 1) r rfl]
    congr 2
    refine List.map_congr_left fun k _ => ?_
    show FL.D.int (lo + ((j + (k + 1) : Nat) : Nat)) = FL.D.int (lo + ((j + 1 + k : Nat) : Nat))
    congr 3
    omega
/-- min(r, key=f), r a range, f a lambda -/
theorem minK_run {k i : Nat} {params : Arguments} {body : Expr} {scope : Scope} {own : List (Str × Nat)} {fe : FE} {δ : DS} {r c' : Addr} {pm ctv : Value} {m : Nat → Addr} {hi : Int} {t u v : Tok} {Q : VK} (F : LamF X g k params body scope own i fe) (hN : X.N.Nodup) (hr : Room (k + 1 + 1) X.A) (hcalm : X.calm = true)
    (h1 : -(2 ^ 62) ≤ lo) (h2 : lo < 2 ^ 62) (h3 : -(2 ^ 62) ≤ hi) (h4 : hi < 2 ^ 62)
    (I : Inv X (pins ++ [(r, { cls := .type "range", data := .fields #[.int lo t, .int hi u, .int 1 v] }), (f, PySem.W.kla_obj "<lambda>" (X.env.qual ++ "<lambda>") params body scope (cloFrom X.env.cells scope.names []) pm c' ctv)]) σ H s) (sm : Sim X.K g m h H) (rr : RS X.K m h.length H δ σ) (hc : H c' = some (LamX.CodeO c' (X.env.qual ++ "<lambda>")))
    (hk : allS ((rng lo hi).map (keyC (own.map (·.2)) i fe δ h)) = some ll) (al : alikes (ll.map (·.2)) = true) (nn : (ll.map (·.2)).all notNo = true) (hd : minP ((rng lo hi).zip (ll.map (·.2))) = some d)
    (q : GoodE X.K g (fun c d H' => W c d σ H') m h.length H Q (.ok d h)) :
    wpAny (model X.prog X.w) X.A (call (.builtin "min") [.ref r] [(Str.ofString "key", .ref f)]) (EP X pins σ Q) X.xe s := by
  have hname : (toString "min" ++ toString ".loop" : String) = "min.loop" := by decide
  have hll : ll.length = (hi - lo).toNat := by
    have := allS_len hk
    rw [this]
    unfold rng
    rw [List.length_map, List.length_range]
  have pr := (I.pin (r, { cls := .type "range", data := .fields #[.int lo t, .int hi u, .int 1 v] }) (List.mem_append_right _ (List.mem_append_right _ List.mem_cons_self))).1
  have hun := hr.un
  refine kmk_tree PySem.F.kind_min PySem.F.plain_min PySem.F.entry_min (kmk_min_key _ _) ?_
  show wpAny _ X.A.in1 (Builtin.Builtins.bindParams "min" ["key", "default"] 0 ⟨[], [(Str.ofString "key", .ref f)]⟩ >>= _) _ _ s
  refine wpAny_bind (wpAny_of_eq (a := [some (.ref f), none]) rfl ?_)
  refine wpAny_bind (wpAny_pure ?_)
  refine wpAny_bind (wpAny_pyIter_range pr (small_one h1 h2 h3 h4) ?_)
  generalize hit : s.heap.objs.size = it
  have k1 : ∀ b o, s.heap.get? b = some o → (s.heap.push { cls := .type "range_iterator", data := .fields #[rawInt lo, rawInt (Builtin.Range.rangeSize lo hi 1), rawInt 1] }).get? b = some o := fun b o e => Heap.get?_push_of_some _ e
  have gI : (s.heap.push { cls := .type "range_iterator", data := .fields #[rawInt lo, rawInt (Builtin.Range.rangeSize lo hi 1), rawInt 1] }).get? it = some { cls := .type "range_iterator", data := .fields #[rawInt lo, rawInt (Builtin.Range.rangeSize lo hi 1), rawInt 1] } := by rw [← hit]; exact Heap.get?_push_size _ rfl
  have sz : (s.heap.push { cls := .type "range_iterator", data := .fields #[rawInt lo, rawInt (Builtin.Range.rangeSize lo hi 1), rawInt 1] }).objs.size = it + 1 := by rw [Heap.size_push, hit]
  generalize (s.heap.push { cls := .type "range_iterator", data := .fields #[rawInt lo, rawInt (Builtin.Range.rangeSize lo hi 1), rawInt 1] }) = hp at k1 gI sz ⊢
  refine wpAny_bind (wpAny_newList ?_ (Nat.zero_le _))
  rw [hname]
  refine wpAny_pure ⟨plainId_quiet PySem.F.plain_min_loop _, ?_⟩
  rw [sz]
  have k2 : ∀ b o, s.heap.get? b = some o → (hp.push (seqObj "list" #[] 0)).get? b = some o := fun b o e => Heap.get?_push_of_some _ (k1 b o e)
  have gS : (hp.push (seqObj "list" #[] 0)).get? (it + 1) = some (seqObj "list" #[] 0) := by rw [← sz]; exact Heap.get?_push_size _ rfl
  have fI : ∀ H', H' it = none → FpOk X (pins ++ [(r, { cls := .type "range", data := .fields #[.int lo t, .int hi u, .int 1 v] }), (f, PySem.W.kla_obj "<lambda>" (X.env.qual ++ "<lambda>") params body scope (cloFrom X.env.cells scope.names []) pm c' ctv)]) H' it := fun H' hn => I.fpOk (by omega) hn
  have fS : ∀ H', H' (it + 1) = none → FpOk X (pins ++ [(r, { cls := .type "range", data := .fields #[.int lo t, .int hi u, .int 1 v] }), (f, PySem.W.kla_obj "<lambda>" (X.env.qual ++ "<lambda>") params body scope (cloFrom X.env.cells scope.names []) pm c' ctv)]) H' (it + 1) := fun H' hn => I.fpOk (by omega) hn
  have nI : H it = none := I.hok.fresh (by omega)
  have nS : H (it + 1) = none := I.hok.fresh (by omega)
  have I2 := FL.Inv.pin1 (a := it + 1) (I.kept (t' := s.toks) k2) (fS H nS) gS (fun v z => by cases z)
  cases hcs : ll with
  | nil =>
    rw [hcs, List.map_nil] at hd
    simp [minP] at hd
  | cons q0 rest =>
    have M : MinW X g (pins ++ [(r, { cls := .type "range", data := .fields #[.int lo t, .int hi u, .int 1 v] }), (f, PySem.W.kla_obj "<lambda>" (X.env.qual ++ "<lambda>") params body scope (cloFrom X.env.cells scope.names []) pm c' ctv)]) σ m h H (it + 1) it f lo (hi - lo).toNat ll := by
      refine ⟨hr.hd, by omega, fI, fS, Nat.succ_ne_self _, hll, al, nn, fun q hq => ?_, fun j q hq s' pins' m1 H1 v1 w1 I1 sm1 ex1 r1 e1 => ?_⟩
      · obtain ⟨j, hj⟩ := List.getElem?_of_mem hq
        have hjl := (List.getElem?_eq_some_iff.mp hj).1
        obtain ⟨b, e1, e2⟩ := allS_get (i := j) (x := FL.D.int (lo + (j : Nat))) hk (by
          unfold rng
          rw [List.getElem?_map, List.getElem?_range (by omega)]
          rfl)
        rw [hj] at e1
        cases e1
        exact (keyC_some e2).2
      · have hjl := (List.getElem?_eq_some_iff.mp hq).1
        obtain ⟨b, e3, e4⟩ := allS_get (i := j) (x := FL.D.int (lo + (j : Nat))) hk (by
          unfold rng
          rw [List.getElem?_map, List.getElem?_range (by omega)]
          rfl)
        rw [hq] at e3
        cases e3
        obtain ⟨he, hp2⟩ := keyC_some e4
        have pf := I1.pin (f, PySem.W.kla_obj "<lambda>" (X.env.qual ++ "<lambda>") params body scope (cloFrom X.env.cells scope.names []) pm c' ctv) (List.mem_append_right _ (List.mem_append_left _ (List.mem_append_right _ (List.mem_cons_of_mem _ List.mem_cons_self))))
        refine lam_call (A := X.A.in1) F hN I1 pf.1 (Ext.code sm ex1 hc) hr.in1 I.ok.frames r1 ?_
        refine ⟨(FL.wipe δ (own.map (·.2))).set i (some (.int (lo + (j : Nat)))), m1, h, ((RS.wipe (ex1.rs rr) _).set i (by rw [e1]; exact .int _)), sm1, ?_⟩
        rw [he]
        exact fun m2 H2 e2 s2 w r2 => ⟨m2, s2, e2, r2⟩
    refine min_first (d := d) M hcs ?_ I2 sm nI ?_ fun u' s' ⟨m1, H1, w, I3, sm3, ex3, r3, r4⟩ => ?_
    · have z := zip_its (ll.map (·.2)) lo 0 ll rfl
      have e0 : (List.range ll.length).map (fun (k : Nat) => FL.D.int (lo + ((0 + k : Nat) : Nat))) = rng lo hi := by
        unfold rng
        rw [hll]
        exact List.map_congr_left fun k _ => by rw [Nat.zero_add]
      rw [e0, hcs] at z
      rw [hcs, z] at hd
      have e2 : itsFrom lo 0 (q0 :: rest) = (.int (lo + ((0 : Nat) : Nat)), q0.2) :: itsFrom lo 1 rest := rfl
      rw [e2] at hd
      have e3 : lo + ((0 : Nat) : Int) = lo := by omega
      rw [e3] at hd
      exact Option.some.inj hd
    · have e1 : lo + ((0 : Nat) : Int) * 1 = lo := by simp
      have e2 : (((hi - lo).toNat : Nat) : Int) - ((0 : Nat) : Int) = Builtin.Range.rangeSize lo hi 1 := by rw [rangeSize_one]; split <;> omega
      show IsRangeIter _ _ (lo + ((0 : Nat) : Int) * 1) ((((hi - lo).toNat : Nat) : Int) - ((0 : Nat) : Int)) 1
      rw [e1, e2]
      exact Heap.get?_push_of_some _ gI
    · exact ⟨w, H1, FL.Inv.pinsub I3 fun p hp => List.mem_append_left _ hp, r3, q m1 H1 ex3 sm3 w r4⟩
end
/-- min(range(a, b), key=lambda x: ..) -/
theorem fe_minK {c P : Addr} {k i : Nat} {a b : Expr} {params : Arguments} {body : Expr} {scope : Scope} {own : List (Str × Nat)} {sl : List Nat} {ra : FA} {fe : FE} {p p2 lpos kpos pos pos2 : Pos} (hcalm : X.calm = true) (hm : X.mg "min" = none) (hm2 : X.mg "range" = none) (TB : LamX.TabB X.base X.mg c P) (hcode : X.env.code = .ref c)
    (hmT : (P, X.env.qual ++ "<lambda>") ∈ g.T) (hu : ∀ p ∈ g.T, p.1 = P → p.2 = X.env.qual ++ "<lambda>") (hN : X.N.Nodup) (hr : Room (k + 1 + 1) X.A) (ha : PA X [a, b] (FL.ra X.K g W ra)) (hn : ALen ra 2) (F : LamF X g k params body scope own i fe) (hdef : defaultsOf params X.env = ([], [])) (hsl : own.map (·.2) = sl := by rfl) (hgl : Gl X "min" := by rfl) (hgl2 : Gl X "range" := by rfl)
    (he : backTo pos (starEach [.Call (.Name "range" p2) [a, b] [] pos2] X.env) = (false, eval (.Call (.Name "range" p2) [a, b] [] pos2) X.env) :: backTo pos (starEach [] X.env) := by rfl) (hpl : (backTo pos (starEach [.Call (.Name "range" p2) [a, b] [] pos2] X.env)).any (·.1) = false := by rfl)
    (hs : starEach [a, b] X.env = [(false, eval a X.env), (false, eval b X.env)] := by rfl) (hs2 : starEach [b] X.env = [(false, eval b X.env)] := by rfl) :
    PE X (.Call (.Name "min" p) [.Call (.Name "range" p2) [a, b] [] pos2] [⟨some "key", .Lambda params body scope lpos, kpos⟩] pos) (rd X.K g W (eMinK ra sl i fe)) := by
  subst hsl
  refine ⟨fun pins s σ H Q I hh => ?_⟩
  obtain ⟨δ, m, h, r, sm, q⟩ := hh
  refine wpAny_Call_Name_kw (ld_blt I hgl hm (u := .builtin "min") (by decide +kernel) ?_)
  refine PyProof.Rows.callWith_kw ?_ he hpl rfl rfl
  rw [he]
  refine Calls.spliced_cons ?_
  refine Call_ (ld_blt I hgl2 hm2 boot_range (PyProof.Rows.callWith_type1 (thn (ha.run pos2 pins s σ H (fun vs H1 => ∃ xs lo hi m1 h1 ll d, vs = [.int lo, .int hi] ∧ (-(2 ^ 62) ≤ lo ∧ lo < 2 ^ 62 ∧ -(2 ^ 62) ≤ hi ∧ hi < 2 ^ 62) ∧ rEnds xs = some (lo, hi) ∧ Ext m h.length H m1 h1.length H1 ∧ Sim X.K g m1 h1 H1 ∧
      allS ((rng lo hi).map (keyC (own.map (·.2)) i fe δ h1)) = some ll ∧ alikes (ll.map (·.2)) = true ∧ (ll.map (·.2)).all notNo = true ∧ minP ((rng lo hi).zip (ll.map (·.2))) = some d ∧ GoodE X.K g (fun c d H' => W c d σ H') m1 h1.length H1 Q (.ok d h1)) I ⟨δ, m, h, r, sm, ?_⟩) fun us s1 ⟨vs, H1, I1, r1, xs, lo, hi, m1, h1, ll, d, ev, ⟨b1, b2, b3, b4⟩, el, e1, s1', ek, al, nn, hd, q1⟩ => ?_) (by rw [hs, hs2]) (by rw [hs2]; rfl)))
  · have q : GoodE X.K g (fun c d H' => W c d σ H') m h.length H Q ((ra δ h).bind fun xs h => match rEnds xs with
      | some (lo, hi) => match allS ((rng lo hi).map (keyC (own.map (·.2)) i fe δ h)) with
        | some l => if (alikes (l.map (·.2)) && (l.map (·.2)).all notNo) = true then (match minP ((rng lo hi).zip (l.map (·.2))) with
          | some d => .ok d h
          | none => .bad) else .bad
        | none => .bad
      | none => .bad) := q
    cases er : ra δ h with
    | bad => rw [er] at q; exact q.elim
    | err c p h1 => rw [er] at q; exact q
    | ok xs h1 =>
      rw [er] at q
      intro m1 H1 e1 s1 vs r1
      have q : GoodE X.K g (fun c d H' => W c d σ H') m h.length H Q (match rEnds xs with
        | some (lo, hi) => match allS ((rng lo hi).map (keyC (own.map (·.2)) i fe δ h1)) with
          | some l => if (alikes (l.map (·.2)) && (l.map (·.2)).all notNo) = true then (match minP ((rng lo hi).zip (l.map (·.2))) with
            | some d => .ok d h1
            | none => .bad) else .bad
          | none => .bad
        | none => .bad) := q
      cases ee : rEnds xs with
      | none => rw [ee] at q; exact q.elim
      | some pr =>
        obtain ⟨lo, hi⟩ := pr
        rw [ee] at q
        simp only at q
        cases ek : allS ((rng lo hi).map (keyC (own.map (·.2)) i fe δ h1)) with
        | none => rw [ek] at q; exact q.elim
        | some l =>
          rw [ek] at q
          simp only at q
          split at q
          · rename_i hc
            rw [Bool.and_eq_true] at hc
            cases hd : minP ((rng lo hi).zip (l.map (·.2))) with
            | none => rw [hd] at q; exact q.elim
            | some d =>
              rw [hd] at q
              obtain ⟨ev, hb⟩ := rEnds2 r1 ee (hn _ _ _ _ er)
              exact ⟨xs, lo, hi, m1, h1, l, d, ev, hb, ee, e1, s1, ek, hc.1, hc.2, hd, Gd.from e1 q⟩
          · exact q.elim
  · subst ev
    cases r1 with
    | cons t1 r2 =>
      cases r2 with
      | cons t2 r3 =>
        cases r3
        obtain ⟨t, rfl⟩ := t1
        obtain ⟨u, rfl⟩ := t2
        refine call_range_2 (Calls.spliced_nil ?_)
        have k1 : ∀ b o, s1.heap.get? b = some o → (s1.heap.push { cls := .type "range", data := .fields #[.int lo t, .int hi u, .int 1 s1.toks] }).get? b = some o := fun b o e => Heap.get?_push_of_some _ e
        have I2 := FL.Inv.pin1 (a := s1.heap.objs.size) (I1.kept (t' := s1.toks + 1) k1) (I1.fpOk (Nat.le_refl _) (I1.hok.fresh (Nat.le_refl _))) (Heap.get?_push_size _ rfl) (fun v z => by cases z)
        show wpAny _ _ (evalAll [(do let v ← eval (.Lambda params body scope lpos) X.env; standAt pos; pure v)]) _ _ _
        refine wpAny_evalAll_cons (wpAny_bind ?_)
        refine lam_mk I2 s1' TB hcode hmT hu F.C hdef fun f c' pm ctv H2 s2 I3 e2 sm2 hc => wpAny_bind (wpAny_standAt (wpAny_pure (wpAny_evalAll_nil ?_)))
        rw [List.append_assoc] at I3
        exact minK_run (W := W) (d := d) F hN hr hcalm b1 b2 b3 b4 I3 sm2 ((e1.trans e2).rs r) hc ek al nn hd (Gd.from e2 q1)
end
end FL
set_option Elab.async false
set_option linter.all false
set_option maxRecDepth 100000
set_option maxHeartbeats 2000000
/-! FL23: e.replace('c', ''), min of a list of data. -/
namespace FL
open PySem PySem.Spec PyProof.Rows L2
section
variable {X : Cx} {g : Gc} {W : WX} {a b e o : Expr} {es : List Expr} {fa fb fc : FE} {r : FA} {pos : Pos} {ta tb te : TE}
/-- an expression behind which a token has been given out -/
def P1 (X : Cx) (e : Expr) (t : TE) : Prop := ∀ (pins : List (Addr × Obj)) (s : Shared) (σ : L2.St) (H : Hp) (Q : VK), Inv X pins σ H s → t σ H Q → wpAny (model X.prog X.w) X.A (eval e X.env) (fun u s' => 1 ≤ s'.toks ∧ EP X pins σ Q u s') X.xe s
theorem p1_weak {t t' : TE} (h : P1 X e t) (i : ∀ σ H Q, t' σ H Q → t σ H Q) : P1 X e t' := fun pins s σ H Q I q => h pins s σ H Q I (i σ H Q q)
theorem up1 {α : Type} {t : Sem α} {Q : α → Shared → Prop} {E : Value → Shared → Prop} {M : Model} {A : Around} {s : Shared} (hn : 1 ≤ s.toks) (h : wpAny M A t Q E s) : wpAny M A t (fun a s' => 1 ≤ s'.toks ∧ Q a s') E s := wpAny_mono (PySem.wpAny_toks_of hn h) (fun _ _ x => x) fun _ _ x => x.2
theorem p1_int {i : Int} {j : Nat} : P1 X (.Constant (.int i) j pos) (rd X.K g W (eC (.int i))) := p1_weak (t := tC (.int i)) (fun pins s σ H Q I h => wpAny_Constant_int ⟨Nat.le_add_left 1 _, .int i, H, I.tok _, ⟨_, rfl⟩, h⟩) (rd_c fun _ _ _ => .int i)
theorem p1_neg (ha : P1 X a (rd X.K g W fa)) : P1 X (.UnaryOp .USub a pos) (rd X.K g W (e1 oNeg fa)) := p1_weak (t := tUn (rU fun i => .int (-i)) (rd X.K g W fa)) (fun pins s σ H Q I h => UnaryOp_ (thn (ha pins s σ H _ I h) fun v s1 ⟨h1, x, H1, I1, r1, q1⟩ => up1 h1 (un_neg pins s1 σ H1 x v Q I1 r1 q1))) (by
  rintro σ H Q ⟨δ, m, h, r, s, q⟩
  refine ⟨δ, m, h, r, s, Gd.bind q fun x h1 m1 H1 e1 s1 q1 v r1 => ?_⟩
  cases r1 with
  | int i => exact ⟨i, rfl, q1 m1 H1 Ext.refl s1 _ (.int _)⟩
  | _ => exact q1.elim)
theorem p1_ix (hu : X.A.units + 1 < cLine) (ha : PE X a (rd X.K g W fa)) (hb : P1 X b (rd X.K g W fb)) (hs : PlainIx b := by exact fun _ _ => rfl) : P1 X (.Subscript a b pos) (rd X.K g W (e2 oIx fa fb)) := p1_weak (t := tOp (rO2 X.K g oIx) (rd X.K g W fa) (rd X.K g W fb)) (fun pins s σ H Q I h =>
  Subscript_ (thn (ha.run pins s σ H _ I h) fun v s1 ⟨x, H1, I1, r1, q1⟩ => thn (hb pins s1 σ H1 _ I1 q1) fun u s2 ⟨h2, y, H2, I2, r2, q2⟩ => up1 h2 (or_ix hu a b pins s2 σ H2 x y v u Q I2 r1 r2 q2 (hs _ _)))) rd_e2
/-- f(e) -/
theorem p1_F {x : Str} {p : Pos} {k j : Nat} {F : List FL.D → VH → Out FL.D} (d : Df X.prog X.w X.K X.mg X.base g k x F) (tk : Takes X W) (hr : Room j X.A) (ha : P1 X e (rd X.K g W fa)) (hk : k ≤ j := by decide) (hg : Gl X x := by rfl) (hdb : (x == ("__debug__" : Str)) = false := by decide)
    (he : starEach [e] X.env = (false, eval e X.env) :: starEach [] X.env := by rfl) (hpl : (backTo pos (starEach [] X.env)).any (·.1) = false := by rfl) : P1 X (.Call (.Name x p) [e] [] pos) (rd X.K g W (eF F (aCons fa aNil))) := by
  obtain ⟨f, fd, ps, h1, h2, h3, h4⟩ := d.ex
  refine p1_weak (t := fun σ H Q => rd X.K g W fa σ H fun v H1 => spF X.K g F [v] H1 Q (WE W σ)) (fun pins s σ H Q I h => ?_) ?_
  · refine wpAny_Call_Name_kw (ld_glob I hg h1 ?_ hdb)
    refine PySem.W.callWith_K (h₀ := X.base) I.ok.mod.kin h2 ?_ he hpl
    rw [he]
    refine Calls.spliced_cons (thn (ha pins s σ H _ I h) fun u s1 ⟨h5, v, H1, I1, r1, q1⟩ => Calls.spliced_nil ⟨I1.kIn, ?_⟩)
    exact up1 h5 (run_fnS h4 (hr.mono hk) h3 (passAt tk σ) I1 (.cons r1 .nil) q1)
  · rintro σ H Q ⟨δ, m, h, r, s, q⟩
    refine ⟨δ, m, h, r, s, ?_⟩
    have q : GoodE X.K g (fun c d H' => W c d σ H') m h.length H Q (((fa δ h).bind fun x h => .ok [x] h).bind F) := q
    cases ef : fa δ h with
    | bad => rw [ef] at q; exact q.elim
    | err c p h1 => rw [ef] at q; exact q
    | ok d1 h1 =>
      rw [ef] at q
      intro m1 H1 e1 s1 v r1
      exact ⟨m1, h1, [d1], s1, .cons r1 .nil, Gd.from e1 q⟩
/-- signs struck out -/
def oStrike (c : Nat) : Op1
  | .str s, h => if s.length ≤ 8000000 then some (.str (s.filter fun x => x != c), h) else none
  | _, _ => none
/-- e.replace('c', '') -/
theorem fe_strike {y z : Str} {c j k : Nat} {c0 c1 apos pos : Pos} (ho : P1 X o (rd X.K g W fa)) (hy : y = ⟨#[c]⟩) (hz : z = ⟨#[]⟩) (hyz : (y == z) = false := by decide)
    (hst : starEach [.Constant (.str y) j c0, .Constant (.str z) k c1] X.env = [(false, eval (.Constant (.str y) j c0) X.env), (false, eval (.Constant (.str z) k c1) X.env)] := by rfl)
    (hbase : attributeBase o "replace" X.env (eval o X.env) = eval o X.env := by rfl) (hline : (apos.endLine == pos.line) = true := by rfl) :
    PE X (.Call (.Attribute o "replace" apos) [.Constant (.str y) j c0, .Constant (.str z) k c1] [] pos) (rd X.K g W (e1 (oStrike c) fa)) := by
  refine ⟨fun pins s σ H Q I hh => ?_⟩
  obtain ⟨δ, m, h, r, sm, q⟩ := hh
  refine PySem.Call_method2 hbase hst hline (thn (ho pins s σ H (fun v H1 => ∃ x m1 h1, v = .str x ∧ x.length ≤ 8000000 ∧ Ext m h.length H m1 h1.length H1 ∧ Sim X.K g m1 h1 H1 ∧ okS x.cps.toList = true ∧ GoodE X.K g (fun c d H' => W c d σ H') m1 h1.length H1 Q (.ok (.str (x.cps.toList.filter fun y => y != c)) h1)) I ⟨δ, m, h, r, sm, Gd.bind q fun d h1 m1 H1 e1 s1 q1 v rv => ?_⟩) fun v s1 ⟨h1, v', H1, I1, r1, x, m1, hv1, e1, hb, ex, s1', ok, q1⟩ => ?_)
  · cases rv with
    | str hl =>
      rename_i l
      have q1 : GoodE X.K g (fun c d H' => W c d σ H') m1 h1.length H1 Q (Out.of (if l.length ≤ 8000000 then some (.str (l.filter fun x => x != c), h1) else none)) := q1
      split at q1
      · rename_i hle
        exact ⟨⟨l.toArray⟩, m1, h1, rfl, by show l.toArray.size ≤ _; simpa using hle, e1, s1, hl, q1⟩
      · exact q1.elim
    | _ => exact q1.elim
  · subst e1
    obtain ⟨tx, e2⟩ := r1
    subst e2
    refine ⟨"str", _, PySem.F.plainAttrs_str, PySem.F.slot_str_replace, PySem.F.type_str_replace, typeIs_str _ _ _, (fun _ e => nomatch e), Calls.callWith_builtin rfl (Calls.evalArgs_plain (Calls.spliced_cons ?_))⟩
    refine Calls.Constant_str (Calls.spliced_cons (Calls.Constant_str (Calls.spliced_nil ?_)))
    have hlen : x.length + (x.length + 1) * z.length ≤ 16777216 := by
      rw [hz]
      show x.length + (x.length + 1) * 0 ≤ _
      omega
    refine PySem.SC.replace (by show s1.toks ≠ 0; omega) (by show s1.toks + 1 ≠ 0; omega) (by show s1.toks ≠ s1.toks + 1; omega) hyz hlen fun t' k => ⟨.str (Txt.replace x y z), H1, I1.tok k, ⟨t', rfl⟩, q1 m1 H1 Ext.refl s1' _ ?_⟩
    have e3 : (Txt.replace x y z).cps.toList = x.cps.toList.filter (· != c) := by
      rw [hy, hz]
      exact PyProof.Rows.replace_strikes x c
    have e4 : Txt.replace x y z = ⟨(x.cps.toList.filter fun y => y != c).toArray⟩ := str_of e3
    rw [e4]
    exact .str (okS.sub ok fun y hy => (List.mem_filter.mp hy).1)
end
/-! ### min of a list of data -/
def bMinD : List FL.D → VH → Option (FL.D × VH)
  | [x], h => match lsOf x h with
    | some xs => match allS (xs.map (toP deep h)) with
      | some l => if (alikes l && l.all notNo) = true then (match minP (xs.zip l) with
        | some d => some (d, h)
        | none => none) else none
      | none => none
    | none => none
  | _, _ => none
section
variable {X : Cx} {g : Gc}
theorem item_read {m : Nat → Addr} {h : VH} {H : Hp} {pins : List (Addr × Obj)} {σ : L2.St} {s : Shared} {y : FL.D} {p : PyData} {w : V} {u : Value} (I : Inv X pins σ H s) (sm : Sim X.K g m h H) (r : RD X.K m h.length H y w) (ru : RelV w u) (e : toP deep h y = some p) : (∃ as, Reads s.heap u p as) ∧ p.depth ≤ deep := by
  have hl : allS ([y].map (toP deep h)) = some [p] := by
    simp only [List.map_cons, List.map_nil, e, allS]
  obtain ⟨k1, k2⟩ := each_read I sm (.cons r .nil) (.cons ru .nil) hl
  cases k1 with
  | cons h1 _ => exact ⟨h1, k2 (y, p) (by simp)⟩
theorem minP1_fold : ∀ (l : List (FL.D × PyData)) (b : FL.D × PyData), minP1 b l = l.foldl (fun a y => if PySem.W.dataLt y.2 a.2 = true then y else a) b
  | [], _ => rfl
  | a :: l, b => by
    show minP1 _ l = _
    rw [minP1_fold l]
    rfl
theorem cr_minD (hc : X.calm = true) (hu : X.A.units + 64 < cLine) : CallR X (.builtin "min") (rB X.K g bMinD) := by
  rintro pins s σ H vs us Q I r ⟨m, h, ds, sm, rs, q⟩
  unfold bMinD at q
  split at q
  case h_2 => exact q.elim
  rename_i x
  obtain ⟨v, rfl, r1⟩ := rds1 rs
  obtain ⟨u, rfl, ru⟩ := vals1 r
  cases el : lsOf x h with
  | none => rw [el] at q; exact q.elim
  | some xs =>
    rw [el] at q
    simp only at q
    cases ek : allS (xs.map (toP deep h)) with
    | none => rw [ek] at q; exact q.elim
    | some l =>
      rw [ek] at q
      simp only at q
      split at q
      case isFalse => exact q.elim
      rename_i hc2
      rw [Bool.and_eq_true] at hc2
      cases hd : minP (xs.zip l) with
      | none => rw [hd] at q; exact q.elim
      | some d =>
        rw [hd] at q
        obtain ⟨a, ws, e1, hs, rw'⟩ := ls_of sm r1 el
        subst e1
        obtain rfl : u = Value.ref a := ru
        obtain ⟨its, rv, hL, hz⟩ := I.list hs
        have ll := allS_len ek
        have hlen := rv.length
        have hxl := rw'.length
        have hn : 0 < its.length := by
          rcases Nat.eq_zero_or_pos its.length with z | z
          · have : xs = [] := List.length_eq_zero_iff.mp (by omega)
            subst this
            simp [minP] at hd
          · exact z
        have at_ : ∀ (i : Nat) (vi : Value), its.toArray[i]? = some vi → ∃ y p w, xs[i]? = some y ∧ l[i]? = some p ∧ RelV w vi ∧ RD X.K m h.length H y w := fun i vi hi => by
          have hi' : its[i]? = some vi := by simpa using hi
          have hlt := (List.getElem?_eq_some_iff.mp hi').1
          obtain ⟨y, hy⟩ : ∃ y, xs[i]? = some y := ⟨_, List.getElem?_eq_getElem (by omega)⟩
          obtain ⟨w, hw, ry⟩ := rw'.get hy
          obtain ⟨u2, hu2, ru2⟩ := rv.get hw
          rw [hi'] at hu2
          cases hu2
          obtain ⟨p, hp, _⟩ := allS_get ek hy
          exact ⟨y, p, w, hy, hp, ru2, ry⟩
        refine PySem.call_min_walkH (PySem.W.iter_listW (A := X.A.in1) (I.ok.hd hc) hL.isList fun s₂ e W st hfp hw hk => ?_)
        refine ⟨_, _, _, _, _, _, _, s.heap, fun i j => PySem.W.dataLt (l.getD i .none) (l.getD j .none), rfl, W, st, hfp, by simpa using hn, hw, hk, fun i j vi vj s' Q' E' hk' hi hj hq => ?_, fun v' s' hP mv => ?_⟩
        · obtain ⟨yi, pi, wi, a1, a2, a3, a4⟩ := at_ i vi hi
          obtain ⟨yj, pj, wj, b1, b2, b3, b4⟩ := at_ j vj hj
          obtain ⟨p', c1, c2⟩ := allS_get ek a1
          rw [a2] at c1
          cases c1
          obtain ⟨p'', c3, c4⟩ := allS_get ek b1
          rw [b2] at c3
          cases c3
          obtain ⟨⟨as, ra⟩, da⟩ := item_read I sm a4 a3 c2
          obtain ⟨⟨bs, rb⟩, db⟩ := item_read I sm b4 b3 c4
          have e3 : l.getD i PyData.none = pi := by rw [List.getD_eq_getElem?_getD, a2]; rfl
          have e4 : l.getD j PyData.none = pj := by rw [List.getD_eq_getElem?_getD, b2]; rfl
          have hq : Q' (.bool (PySem.W.dataLt (l.getD i .none) (l.getD j .none))) s' := hq
          rw [e3, e4] at hq
          refine PySem.W.rcLt_alike pi pj X.A.in1 s' vi vj as bs (PySem.W.reads_keeps hk' ra) (PySem.W.reads_keeps hk' rb) (alikes_all hc2.1 _ (List.mem_of_getElem? a2) _ (List.mem_of_getElem? b2)) (fun z => ?_) ?_ _ _ _ _ hq
          · have := List.all_eq_true.mp hc2.2 pi (List.mem_of_getElem? a2)
            rw [z] at this
            cases this
          · have : deep = 12 := rfl
            show X.A.units + 1 + _ < _
            omega
        · obtain ⟨h', tk, rfl, hk'⟩ := PySem.W.moved_old e rfl mv
          obtain ⟨y, p, w, a1, a2, a3, a4⟩ := at_ _ v' hP
          refine ⟨w, H, I.kept (t' := tk) hk', a3, q m H w Ext.refl sm ?_⟩
          have zl : (xs.zip l).length = xs.length := by rw [List.length_zip, ll, Nat.min_self]
          cases hzl : xs.zip l with
          | nil =>
            rw [hzl] at hd
            simp [minP] at hd
          | cons z0 zs =>
            rw [hzl] at hd
            have hd' : (minP1 z0 zs).1 = d := Option.some.inj hd
            have zlen : zs.length = its.toArray.size - 1 := by
              have := congrArg List.length hzl
              rw [List.length_cons] at this
              simp
              omega
            have e5 := (PySem.W.argBest_fold (fun (a b : FL.D × PyData) => PySem.W.dataLt a.2 b.2) (FL.D.non, PyData.none) z0 zs zs.length (Nat.le_refl _)).2
            rw [List.take_length, ← minP1_fold, ← hzl, zlen] at e5
            have e6 : (fun i j => PySem.W.dataLt ((xs.zip l).getD i (FL.D.non, PyData.none)).2 ((xs.zip l).getD j (FL.D.non, PyData.none)).2) = fun i j => PySem.W.dataLt (l.getD i .none) (l.getD j .none) := by
              have e7 : ∀ i, ((xs.zip l).getD i (FL.D.non, PyData.none)).2 = l.getD i .none := fun i => by
                rw [List.getD_eq_getElem?_getD, List.getD_eq_getElem?_getD]
                rcases Nat.lt_or_ge i xs.length with z | z
                · rw [List.getElem?_eq_getElem (by omega), List.getElem?_eq_getElem (by omega), List.getElem_zip]
                  rfl
                · rw [List.getElem?_eq_none (by omega), List.getElem?_eq_none (by omega)]
                  rfl
              funext i j
              rw [e7, e7]
            rw [e6] at e5
            have e8 : (xs.zip l)[PySem.argBest (fun i j => PySem.W.dataLt (l.getD i .none) (l.getD j .none)) (its.toArray.size - 1)]? = some (y, p) := by
              rw [List.getElem?_zip_eq_some]
              exact ⟨a1, a2⟩
            rw [List.getD_eq_getElem?_getD, e8] at e5
            have e9 : (y, p) = minP1 z0 zs := e5
            rw [← hd', ← e9]
            exact a4
end
/-! ### y = [.. for .. in range(..)] on one line -/
section
variable {X : Cx} {g : Gc} {W : WX} {f : FG} {ft : FT} {fe : FE} {sl : List Nat} {elt tg a b : Expr} {ifs : List Expr} {scope : Scope} {own : List (Str × Nat)} {pos spos py p pos' : Pos} {r : FA} {i : Nat} {y : Str}
theorem fs_setLcR1 (hc : X.calm = true) (hN : X.N.Nodup) (hm : X.mg "range" = none) (hy : X.N[i]? = some y) (hyl : X.env.scope.names.lookup y = some .local) (hsw : swapsWith (.ListComp elt [⟨tg, .Call (.Name "range" p) [a] [] pos', ifs, 0⟩] scope pos) (some (.Name y py)) spos.line X.env = pure true)
    (ha : PA X [a] (FL.ra X.K g W r)) (hn : ALen r 1) (P : LcP X g elt tg ifs scope own f ft fe) (hsl : own.map (·.2) = sl := by rfl) (hgl : Gl X "range" := by rfl) (hst : starEach [a] X.env = [(false, eval a X.env)] := by rfl) (hs : ∀ x, foldedSetIterable (.Call (.Name "range" p) [a] [] pos') X.env x = pure x := by intro _; rfl) :
    PS X (.Assign [.Name y py] (.ListComp elt [⟨tg, .Call (.Name "range" p) [a] [] pos', ifs, 0⟩] scope pos) spos) (rs X.K g W (FL.sAs (FL.eLcR r f ft fe sl) (gN i))) := by
  subst hsl
  exact ps_weak (ps_fz (ps_setLc hc hN hy hyl hsw (pi_range1 hgl hm ha hst) P.ok P.hg P.ht P.he hs)) (fun D σ H q => rs_set (te := fun σ H Q => tLc _ _ _ _ _ σ H (FzQ Q)) (rd_lcR1 hn) D σ H q)
theorem fs_setLcR2 (hc : X.calm = true) (hN : X.N.Nodup) (hm : X.mg "range" = none) (hy : X.N[i]? = some y) (hyl : X.env.scope.names.lookup y = some .local) (hsw : swapsWith (.ListComp elt [⟨tg, .Call (.Name "range" p) [a, b] [] pos', ifs, 0⟩] scope pos) (some (.Name y py)) spos.line X.env = pure true)
    (ha : PA X [a, b] (FL.ra X.K g W r)) (hn : ALen r 2) (P : LcP X g elt tg ifs scope own f ft fe) (hsl : own.map (·.2) = sl := by rfl) (hgl : Gl X "range" := by rfl) (hst : starEach [a, b] X.env = [(false, eval a X.env), (false, eval b X.env)] := by rfl) (hst2 : starEach [b] X.env = [(false, eval b X.env)] := by rfl)
    (hs : ∀ x, foldedSetIterable (.Call (.Name "range" p) [a, b] [] pos') X.env x = pure x := by intro _; rfl) :
    PS X (.Assign [.Name y py] (.ListComp elt [⟨tg, .Call (.Name "range" p) [a, b] [] pos', ifs, 0⟩] scope pos) spos) (rs X.K g W (FL.sAs (FL.eLcR r f ft fe sl) (gN i))) := by
  subst hsl
  exact ps_weak (ps_fz (ps_setLc hc hN hy hyl hsw (pi_range2 hgl hm ha hst hst2) P.ok P.hg P.ht P.he hs)) (fun D σ H q => rs_set (te := fun σ H Q => tLc _ _ _ _ _ σ H (FzQ Q)) (rd_lcR2 hn) D σ H q)
end
/-! ### list(x) -/
theorem cr_list {X : Cx} {g : Gc} : CallR X (.type "list") (rB X.K g bList) := callr_weak (callr_fz call_list_of) (by
  rintro vs H Q ⟨m, h, ds, s, rs, q⟩
  unfold bList at q
  split at q
  case h_2 => exact q.elim
  obtain ⟨v, rfl, r1⟩ := rds1 rs
  rename_i d
  cases ed : seqOf d h with
  | none => rw [ed] at q; exact q.elim
  | some xs =>
    rw [ed] at q
    obtain ⟨p, ws, e1, e2, e3⟩ := sim_seq s r1 ed
    subst e1
    exact ⟨p, ws, rfl, e2, fun l hl => s.fls hl e3 fun m' H' v e s' r => q m' H' v e s' r⟩)
end FL
set_option Elab.async false
set_option linter.all false
set_option maxRecDepth 100000
set_option maxHeartbeats 2000000
/-! FL24: defs that make closures: what the top has written of them; the walk's end with several tables. -/
namespace FL
open PySem PySem.Spec PyProof.Rows L2
/-- a def whose code object's table is known -/
structure KeyD (K : PySem.W.Frag) (mg : Str → Option Value) (g : Gc) (cs : List (Addr × Addr)) (x : Str) (st : Stmt) (ps : List Str) (q : Str) : Prop where
  ex : ∃ (f c Pt : Addr) (oc kV doc pm ct : Value) (od an : Option Addr) (osl : Array (Option Value)), K.lookup f = some ⟨oc, od, .func (PySem.W.fnOf x x (defArgs st) (defBody st) (defScope st) .none kV doc pm an (.ref c) ct), osl⟩ ∧ PySem.W.codeIn K (.ref c) x = true ∧ mg x = some (.ref f) ∧ PySem.W.keepIn K (.ref f) = true ∧
    Binds K (PySem.W.fnOf x x (defArgs st) (defBody st) (defScope st) .none kV doc pm an (.ref c) ct) ps [] ∧ (c, Pt) ∈ cs ∧ (Pt, q) ∈ g.T ∧ ∀ p ∈ g.T, p.1 = Pt → p.2 = q
theorem kd_mk {K : PySem.W.Frag} {mg : Str → Option Value} {g : Gc} {cs : List (Addr × Addr)} {x : Str} {st : Stmt} {ps : List Str} {q : Str} {f c Pt : Addr} {oc kV doc pm ct : Value} {od an : Option Addr} {osl : Array (Option Value)} (m : mg x = some (.ref f)) (l : K.lookup f = some ⟨oc, od, .func (PySem.W.fnOf x x (defArgs st) (defBody st) (defScope st) .none kV doc pm an (.ref c) ct), osl⟩)
    (cd : PySem.W.codeIn K (.ref c) x = true) (k : PySem.W.keepIn K (.ref f) = true) (b : ∀ (kV doc pm : Value) (an : Option Addr) (cdv ct : Value) (us : List Value), us.length = ps.length → bindArgs (PySem.W.fnOf x x (defArgs st) (defBody st) (defScope st) .none kV doc pm an cdv ct) ⟨us, []⟩ = pure (ps.zip us)) (h1 : (c, Pt) ∈ cs) (h2 : (Pt, q) ∈ g.T) (h3 : ∀ p ∈ g.T, p.1 = Pt → p.2 = q) : KeyD K mg g cs x st ps q := by
  have Fn : L2.Fun K x x st f _ := fun_mk l cd k
  exact ⟨f, c, Pt, oc, kV, doc, pm, ct, od, an, osl, l, cd, m, k, Fn.binds b, h1, h2, h3⟩
section
variable {P : Program} {w : World} {K : PySem.W.Frag} {mg : Str → Option Value} {base : Heap} {g : Gc} {k : Nat}
theorem KeyD.df {cs : List (Addr × Addr)} {x : Str} {st : Stmt} {N ps : List Str} {q : Str} {sb : FSt} (D : KeyD K mg g cs x st ps q) (hTB : ∀ p ∈ cs, LamX.TabB base mg p.1 p.2) (S : FnScope N ps (defScope st))
    (body : ∀ (f c Pt : Addr) (A : Around) (outer : List Env) (s : Shared) (H : Hp) (E : XK), LamX.TabB base mg c Pt → (Pt, q) ∈ g.T → (∀ p ∈ g.T, p.1 = Pt → p.2 = q) → Room k (A.deeper (envOfC x (defScope st) s.heap.objs.size f (.ref c))) →
      PSs (cxOf (L2.CX P w) P w K mg base N x (defScope st) f (.ref c) A outer s H E) (defBody st) (rs K g (fun c d _ H' => E c d H') sb)) : Df P w K mg base g (k + 1) x (runF ps.length N.length sb) := by
  obtain ⟨f, c, Pt, oc, kV, doc, pm, ct, od, an, osl, l, cd, m, kp, b, h1, h2, h3⟩ := D.ex
  exact Df.mkC l cd S m kp b fun A outer s H E hr => body f c Pt A outer s H E (hTB _ h1) h2 h3 hr
end
/-- the tables of all defs are empty -/
def AllTab (K : PySem.W.Frag) (mg : Str → Option Value) (names : List Str) (h : Heap) : Prop := ∀ (x : Str) (fa : Addr), x ∈ names → mg x = some (.ref fa) → LamX.OwnTab K fa h
theorem walk_all {l : PySem.W.OpenLaw} {n k : Nat} {q : Program} {loose : List Str} {XP : (Str → Option Value) → Heap → Prop} {YP : World → Heap → Prop} {d : DefRec} {K : Params → PySem.W.Frag} {CX : World → CXT} {x : Str} (names : List Str)
    (hn : l.most = some n) (hn2 : n ≤ sizeLine) (hdf : d.params.defaults = []) (hr : Room k callerA) (hrec : (names.all fun y => (recsOf q).any fun e => e.name == y) = true) (hY : ∀ (w : World) (h : Heap), YP w h → (K w.params).In h)
    (F : ∀ (w : World) (mg : Str → Option Value) (fa : Addr) (h : Heap), YP w h → (K w.params).In h → h.Ns mainGlobals mg → mg d.name = some (.ref fa) → AllTab (K w.params) mg names h → LamX.LawAtS l w (K w.params) (CX w) k n x mg fa h)
    (hCX : ∀ (w : World) (H : Hp) (s : Shared) (e : Value) (s' : Shared), CX w [] H s (fun _ _ _ => False) e s' → False) :
    PySem.W.WalkO q loose XP YP l.row.toRowW d [] (fun f vs => PySem.call f vs) := by
  refine Att.attach_callB hn hdf (fun w s₀ s₁ mg mb fa o pm cd doc a vs ns G Y ho hd hcd hmg hobj hints hlen hbits hg => ?_)
  have KX := hY w _ Y
  have own : AllTab (K w.params) mg names s₁.heap := fun y f1 hy hm1 c P o1 fd1 e dd vs1 sl k1 k2 k3 k4 k5 => by
    obtain ⟨dL, hm, hn1⟩ := List.any_eq_true.mp (List.all_eq_true.mp hrec y hy)
    have e1 : dL.name = y := beq_iff_eq.mp hn1
    obtain ⟨a', o', fd', c', P', h1, h2, h3, h4, h5, h6⟩ := G.T.tab dL hm
    rw [e1, hm1] at h1
    cases h1
    have g1 := KX _ _ k1
    rw [g1] at h2
    cases h2
    rw [k2] at h3
    cases h3
    rw [k3] at h4
    cases h4
    obtain ⟨⟨oc, vc, u1, _, u3, u4⟩, hP⟩ := h6
    have g2 := KX _ _ k4
    rw [g2] at u1
    cases u1
    cases u3
    rw [k5] at u4
    cases u4
    exact hP
  obtain ⟨fd, cs, sp, hT, nT, C, hb, hsp, hF⟩ := F w mg fa _ Y KX G.T.g hmg own
  exact LamX.law_callTs KX G.T.g G.T.b G.T.builtins G.T.nolimit hg hT nT C G.T.bmain hobj hints (Nat.le_trans hlen hn2) hr hF hb (fun H hH hS => hsp H a ns hlen hbits hH hS) fun H e s' => hCX w H s₁ e s'
/-- what is known of a table -/
structure CodeT (K : PySem.W.Frag) (mg : Str → Option Value) (names : List Str) (x : Str) (c Pt : Addr) : Prop where
  ex : ∃ (f : Addr) (o : Obj) (fd : FuncData) (ec : Value) (dc : Option Addr) (vs : Array Value) (slc : Array (Option Value)), x ∈ names ∧ mg x = some (.ref f) ∧ K.lookup f = some o ∧ o.data = .func fd ∧ fd.code = .ref c ∧ K.lookup c = some ⟨ec, dc, .fields vs, slc⟩ ∧ vs[11]? = some (.ref Pt) ∧ PySem.W.codeHdIn K c Pt = true ∧ K.lookup Pt = none
theorem lawAt_all {l : PySem.W.OpenLaw} {w : World} {K : PySem.W.Frag} {mg : Str → Option Value} {g : Gc} {k : Nat} {fa : Addr} {h : Heap} {names : List Str} {fd : FuncData} {cs : List (Addr × Addr)} {F : List FL.D → VH → Out FL.D} (X : K.In h) (own : AllTab K mg names h) (hcs : ∀ p ∈ cs, ∃ x, CodeT K mg names x p.1 p.2) (gT : ∀ p ∈ g.T, p.1 ∈ cs.map (·.2)) (hbind : ∀ (s : Shared) (u : Value), BindsTo s fd ⟨[u], []⟩ [(Str.ofString "script", u)])
    (D : ∀ base : Heap, K.In base → base.Ns mainGlobals mg → (∀ p ∈ cs, LamX.TabB base mg p.1 p.2) → FnOk l.prog w K mg base (L2.CX l.prog w) k fa fd [Str.ofString "script"] (spF K g F))
    (S : ∀ ns : List Int, ns.length ≤ 63 → (∃ h', F [.fls (ns.map FL.D.int)] [] = .ok (.bl true) h') ∧ ∃ h', F [.ref 0] [.lst (ns.map FL.D.int)] = .ok (.bl true) h') :
    LamX.LawAtS l w K (L2.CX l.prog w) k 63 (Str.ofString "script") mg fa h := by
  refine ⟨fd, cs, spF K g F, fun p hp => ?_, fun p hp => ?_, fun p hp => ?_, hbind, ?_, ?_⟩
  · obtain ⟨x, f, o, fd1, ec, dc, vs, slc, h1, h2, h3, h4, h5, h6, h7, h8, h9⟩ := hcs p hp
    exact own x f h1 h2 p.1 p.2 o fd1 ec dc vs slc h3 h4 h5 h6 h7
  · obtain ⟨x, f, o, fd1, ec, dc, vs, slc, h1, h2, h3, h4, h5, h6, h7, h8, h9⟩ := hcs p hp
    exact h9
  · obtain ⟨x, f, o, fd1, ec, dc, vs, slc, h1, h2, h3, h4, h5, h6, h7, h8, h9⟩ := hcs p hp
    exact PySem.W.codeHd_of_K X h8
  · intro H a ns hl _ hT hS
    refine sp_law (fun p hp => ?_) hS (S ns hl).1 (S ns hl).2
    obtain ⟨q, hq, e⟩ := List.mem_map.mp (gT p hp)
    rw [← e]
    exact hT q hq
  · intro base hK hN hT
    exact D base hK hN hT
end FL
set_option Elab.async false
set_option linter.all false
set_option maxRecDepth 100000
set_option maxHeartbeats 2000000
/-! FL25: sorted and min by a key, plain. -/
namespace FL
open PySem
theorem allS_of {α β : Type} {f : α → Option β} {k : α → β} : ∀ {l : List α}, (∀ a ∈ l, f a = some (k a)) → allS (l.map f) = some (l.map k)
  | [], _ => rfl
  | a :: l, h => by
    have ih := allS_of (f := f) (k := k) (l := l) fun b hb => h b (List.mem_cons_of_mem _ hb)
    rw [List.map_cons, h a List.mem_cons_self]
    simp only [allS, ih, List.map_cons]
theorem alikes_of {α : Type} {u : α → PyData} {l : List α} (ha : ∀ a ∈ l, ∀ b ∈ l, PySem.W.alike (u a) (u b) = true) : alikes (l.map u) = true := by
  unfold alikes
  rw [List.all_map, List.all_eq_true]
  intro a ha'
  show ((l.map u).all fun b => PySem.W.alike (u a) b) = true
  rw [List.all_map, List.all_eq_true]
  exact fun b hb => ha a ha' b hb
theorem keyC_of {own : List Nat} {i : Nat} {fe : FE} {δ : DS} {h : VH} {x y : D} {p : PyData} (e1 : fe ((wipe δ own).set i (some x)) h = .ok y h) (e2 : toP deep [] y = some p) : keyC own i fe δ h x = some (y, p) := by
  unfold keyC
  rw [e1]
  simp only [if_true, e2]
section
variable {α : Type} {a : FE} {r : FA} {own : List Nat} {i : Nat} {fe : FE} {δ : DS} {h h1 : VH} {x : D} {l : List α} {f ky : α → D} {u : α → PyData}
theorem keys_of (hk : ∀ c ∈ l, fe ((wipe δ own).set i (some (f c))) h1 = .ok (ky c) h1) (hp : ∀ c ∈ l, toP deep [] (ky c) = some (u c)) : allS ((l.map f).map (keyC own i fe δ h1)) = some (l.map fun c => (ky c, u c)) := by
  rw [List.map_map]
  exact allS_of fun c hc => keyC_of (hk c hc) (hp c hc)
theorem sortK_of (e : a δ h = .ok x h1) (hl : lsOf x h1 = some (l.map f)) (hk : ∀ c ∈ l, fe ((wipe δ own).set i (some (f c))) h1 = .ok (ky c) h1) (hp : ∀ c ∈ l, toP deep [] (ky c) = some (u c)) (ha : ∀ a ∈ l, ∀ b ∈ l, PySem.W.alike (u a) (u b) = true) (hs : sortable (l.map u) = true) :
    eSortK a own i fe δ h = .ok (.fls ((l.mergeSort fun a b => PySem.W.dataLe false u a b).map f)) h1 := by
  have e1 : (l.map fun c => (ky c, u c)).map (·.2) = l.map u := by rw [List.map_map]; rfl
  unfold eSortK
  rw [e, bind_ok, hl]
  simp only [keys_of hk hp, e1, alikes_of ha, hs, sortD_map, Bool.and_true, if_true]
/-- the first of the least by u -/
def minB (u : α → PyData) (b : α) : List α → α
  | [] => b
  | a :: r => minB u (if PySem.W.dataLt (u a) (u b) = true then a else b) r
theorem minP1_map (f : α → D) (u : α → PyData) : ∀ (l : List α) (b : α), minP1 (f b, u b) (l.map fun a => (f a, u a)) = (f (minB u b l), u (minB u b l))
  | [], b => rfl
  | a :: l, b => by
    show minP1 (if PySem.W.dataLt (u a) (u b) = true then (f a, u a) else (f b, u b)) _ = _
    have e : (if PySem.W.dataLt (u a) (u b) = true then (f a, u a) else (f b, u b)) = (f (if PySem.W.dataLt (u a) (u b) = true then a else b), u (if PySem.W.dataLt (u a) (u b) = true then a else b)) := by
      split <;> rfl
    rw [e, minP1_map f u l]
    rfl
theorem minP_map (f : α → D) (u : α → PyData) (b : α) (l : List α) : minP (((b :: l).map f).zip ((b :: l).map u)) = some (f (minB u b l)) := by
  rw [zip_map_self]
  show some (minP1 (f b, u b) (l.map fun a => (f a, u a))).1 = _
  rw [minP1_map]
theorem minK_of {xs : List D} {lo hi : Int} {b : α} (e : r δ h = .ok xs h1) (hr : rEnds xs = some (lo, hi)) (hl : rng lo hi = (b :: l).map f) (hk : ∀ c ∈ b :: l, fe ((wipe δ own).set i (some (f c))) h1 = .ok (ky c) h1) (hp : ∀ c ∈ b :: l, toP deep [] (ky c) = some (u c)) (ha : ∀ a ∈ b :: l, ∀ c ∈ b :: l, PySem.W.alike (u a) (u c) = true) (hn : ∀ c ∈ b :: l, notNo (u c) = true) :
    eMinK r own i fe δ h = .ok (f (minB u b l)) h1 := by
  have e1 : ((b :: l).map fun c => (ky c, u c)).map (·.2) = (b :: l).map u := by rw [List.map_map]; rfl
  have e2 : (((b :: l).map u).all notNo) = true := by
    rw [List.all_map, List.all_eq_true]
    exact fun c hc => hn c hc
  have e3 : (alikes ((b :: l).map u) && ((b :: l).map u).all notNo) = true := by rw [alikes_of ha, e2] <;> rfl
  unfold eMinK
  rw [e, bind_ok, hr]
  dsimp only
  rw [hl, keys_of hk hp]
  dsimp only
  rw [e1, if_pos e3, minP_map]
theorem bMinD_of {b : α} (hl : lsOf x h = some ((b :: l).map f)) (hp : ∀ c ∈ b :: l, toP deep h (f c) = some (u c)) (ha : ∀ a ∈ b :: l, ∀ c ∈ b :: l, PySem.W.alike (u a) (u c) = true) (hn : ∀ c ∈ b :: l, notNo (u c) = true) : bMinD [x] h = some (f (minB u b l), h) := by
  have e2 : (((b :: l).map u).all notNo) = true := by
    rw [List.all_map, List.all_eq_true]
    exact fun c hc => hn c hc
  have e3 : (alikes ((b :: l).map u) && ((b :: l).map u).all notNo) = true := by rw [alikes_of ha, e2] <;> rfl
  have e4 : allS (((b :: l).map f).map (toP deep h)) = some ((b :: l).map u) := by
    rw [List.map_map]
    exact allS_of fun c hc => hp c hc
  show (match lsOf x h with
    | some xs => match allS (xs.map (toP deep h)) with
      | some l => if (alikes l && l.all notNo) = true then (match minP (xs.zip l) with
        | some d => some (d, h)
        | none => none) else none
      | none => none
    | none => none) = _
  rw [hl]
  dsimp only
  rw [e4]
  dsimp only
  rw [if_pos e3, minP_map]
theorem minB_mem (u : α → PyData) : ∀ (l : List α) (b : α), minB u b l ∈ b :: l
  | [], b => by simp [minB]
  | a :: l, b => by
    show minB u (if PySem.W.dataLt (u a) (u b) = true then a else b) l ∈ _
    have := minB_mem u l (if PySem.W.dataLt (u a) (u b) = true then a else b)
    rcases List.mem_cons.mp this with h | h
    · rw [h]
      split <;> simp
    · exact List.mem_cons_of_mem _ (List.mem_cons_of_mem _ h)
end
/-! ### in, of ints -/
theorem inD_intR {a : Int} {l : List Int} {k : Nat} {h : VH} (hk : h[k]? = some (.lst (l.map D.int))) : inD (.int a) (.ref k) h = some (decide (a ∈ l)) := by
  have e1 : toP deep h (.int a) = some (.int a) := (rfl)
  have e2 : allS ((l.map D.int).map (toP deep h)) = some (l.map .int) := toPs_int (n := 11) l
  simp only [inD, hk, e1, e2, any_ints]
theorem inD_intF {a : Int} {l : List Int} {h : VH} : inD (.int a) (.fls (l.map D.int)) h = some (decide (a ∈ l)) := by
  have e1 : toP deep h (.int a) = some (.int a) := (rfl)
  have e2 : allS ((l.map D.int).map (toP deep h)) = some (l.map .int) := toPs_int (n := 11) l
  simp only [inD, e1, e2, any_ints]
abbrev dN (n : Nat) : D := .int (n : Int)
theorem dN_map (l : List Nat) : l.map dN = (l.map fun n : Nat => (n : Int)).map D.int := by
  rw [List.map_map]
  rfl
theorem mem_ints {a : Nat} {l : List Nat} : decide ((a : Int) ∈ l.map fun n : Nat => (n : Int)) = decide (a ∈ l) := by
  apply decide_eq_decide.mpr
  rw [List.mem_map]
  constructor
  · rintro ⟨b, hb, e⟩
    have : b = a := by omega
    rwa [← this]
  · exact fun h => ⟨a, h, rfl⟩
theorem inN_R {a : Nat} {l : List Nat} {k : Nat} {h : VH} (hk : h[k]? = some (.lst (l.map dN))) : inD (.int (a : Int)) (.ref k) h = some (decide (a ∈ l)) := by
  rw [dN_map] at hk
  rw [inD_intR hk, mem_ints]
theorem inN_T {a : Nat} {l : List Nat} {h : VH} : inD (.int (a : Int)) (.tup (l.map dN)) h = some (decide (a ∈ l)) := by
  rw [dN_map, inD_intT, mem_ints]
theorem inN_F {a : Nat} {l : List Nat} {h : VH} : inD (.int (a : Int)) (.fls (l.map dN)) h = some (decide (a ∈ l)) := by
  rw [dN_map, inD_intF, mem_ints]
/-! ### == of lists of numbers -/
theorem toPs_nat {n : Nat} {h : VH} (l : List Nat) : allS ((l.map dN).map (toP (n + 1) h)) = some (l.map fun m : Nat => PyData.int (m : Int)) := allS_map (f := dN) (g := toP (n + 1) h) (u := fun m : Nat => PyData.int (m : Int)) (fun _ => rfl) l
theorem eqvAll_nats : ∀ l l' : List Nat, PyData.eqvAll (l.map fun m : Nat => PyData.int (m : Int)) (l'.map fun m : Nat => PyData.int (m : Int)) = decide (l = l')
  | [], [] => by simp [PyData.eqvAll]
  | [], _ :: _ => by simp [PyData.eqvAll]
  | _ :: _, [] => by simp [PyData.eqvAll]
  | a :: l, b :: l' => by
    rw [List.map_cons, List.map_cons]
    unfold PyData.eqvAll
    rw [eqvAll_nats l l', eqv_ii]
    by_cases e : a = b
    · subst e
      by_cases e2 : l = l' <;> simp [e2]
    · have : ¬ (a : Int) = (b : Int) := by omega
      simp [e, this]
theorem eqD_nats {l l' : List Nat} {h : VH} : eqD (.fls (l.map dN)) (.fls (l'.map dN)) h = some (decide (l = l')) := by
  rw [eqD_ls (h := h) (x := .fls (l.map dN)) (y := .fls (l'.map dN)) rfl rfl (toPs_nat l) (toPs_nat l')]
  have : PyData.eqv (.list (l.map fun m : Nat => PyData.int (m : Int))) (.list (l'.map fun m : Nat => PyData.int (m : Int))) = PyData.eqvAll (l.map fun m : Nat => PyData.int (m : Int)) (l'.map fun m : Nat => PyData.int (m : Int)) := by
    simp [PyData.eqv]
  rw [this, eqvAll_nats]
theorem cNe_nats {l l' : List Nat} {h : VH} : cNe (.fls (l.map dN)) (.fls (l'.map dN)) h = some (.bl (!decide (l = l')), h) := by
  have e : cNe (.fls (l.map dN)) (.fls (l'.map dN)) h = (match eqD (.fls (l.map dN)) (.fls (l'.map dN)) h with
    | some b => some (.bl (!b), h)
    | none => none) := rfl
  rw [e, eqD_nats]
theorem cNe_nats0 {l : List Nat} {h : VH} : cNe (.fls (l.map dN)) (.fls []) h = some (.bl (!decide (l = [])), h) := cNe_nats (l' := [])
end FL
set_option Elab.async false
set_option linter.all false
set_option maxRecDepth 100000
set_option maxHeartbeats 2000000
/-! FL26: generator expressions whose elements call defs. -/
namespace FL
open PySem PySem.Spec PyProof.Rows L2
theorem over_loop {A : Around} {elt : Expr} {gens : List Comprehension} {scope : Scope} {pos : Pos} {it acc : Value} {env : Env} : A.over (.compLoop (.GeneratorExp elt gens scope pos) 0 it acc env) [] = A.deeper env := by
  obtain ⟨hd, d, fr, gs, u⟩ := A
  cases fr <;> cases gs <;> rfl
theorem over_start {A : Around} {elt : Expr} {gens : List Comprehension} {scope : Scope} {pos : Pos} {it acc : Value} {env : Env} : A.over (.compStart (.GeneratorExp elt gens scope pos) 0 it acc env) [] = A.deeper env := by
  obtain ⟨hd, d, fr, gs, u⟩ := A
  cases fr <;> cases gs <;> rfl
/-- a generator's loop, told of abstract heaps: k a measure of the loop, m a bound of what is yet to be yielded -/
structure GenL (X : Cx) (J : It) (sl : List Nat) (σ : L2.St) (g : TG) (tt : TT) (te : TE) (St : Nat → Nat → Nat → Hp → Prop) (Yl : Nat → V → Hp → (Hp → Prop) → Prop) (Fin : Nat → Hp → Prop) : Prop where
  turn : ∀ i k m H, St i k m H → (J.stop i H ∧ Fin m H) ∨ (J.go i H ∧ ∀ x H', J.yld i H x H' → g x (L2.wipe σ sl) H' fun σ2 H2 => L2.wipe σ2 sl = L2.wipe σ sl ∧ tt σ2 H2 fun b H3 =>
    if b = true then te σ2 H3 fun y H4 => ∃ m', m = m' + 1 ∧ Yl m' y H4 fun H5 => ∃ k', St (i + 1) k' m' H5 else ∃ k', k' < k ∧ St (i + 1) k' m H3)
section
variable {X : Cx} {A : Around} {cenv : Env} {s₁ : Shared} {H₁ : Hp} {fp : List Addr} {pg : List (Addr × Obj)} {it : Addr} {tn : Nat → Heap → Prop} {J : It} {sl : List Nat} {σ : L2.St} {g : TG} {tt : TT} {te : TE} {St : Nat → Nat → Nat → Hp → Prop} {Yl : Nat → V → Hp → (Hp → Prop) → Prop} {Fin : Nat → Hp → Prop}
abbrev genX (X : Cx) (A : Around) (cenv : Env) (s₁ : Shared) (H₁ : Hp) (fp : List Addr) : Cx := cloCx X A cenv s₁ H₁ fp (fun _ _ => False)
/-- the generator stands between two turns -/
structure GenS (X : Cx) (A : Around) (cenv : Env) (s₁ : Shared) (H₁ : Hp) (fp : List Addr) (pg : List (Addr × Obj)) (tn : Nat → Heap → Prop) (sl : List Nat) (σ : L2.St) (i : Nat) (H : Hp) (s : Shared) : Prop where
  inv : Inv (genX X A cenv s₁ H₁ fp) pg (L2.wipe σ sl) H s
  tn : tn i s.heap
  fr : ∀ b ∈ fp, H b = none
def genY (X : Cx) (A : Around) (cenv : Env) (s₁ : Shared) (H₁ : Hp) (fp : List Addr) (pg : List (Addr × Obj)) (tn : Nat → Heap → Prop) (sl : List Nat) (σ : L2.St) (Yl : Nat → V → Hp → (Hp → Prop) → Prop) : Protocol := fun n _ v s κ =>
  ∃ i y H Kk, RelV y v ∧ GenS X A cenv s₁ H₁ fp pg tn sl σ i H s ∧ Yl n y H Kk ∧ ∀ s' H', GenS X A cenv s₁ H₁ fp pg tn sl σ i H' s' → Kk H' → κ (.send .none) s'
def genR (X : Cx) (A : Around) (cenv : Env) (s₁ : Shared) (H₁ : Hp) (fp : List Addr) (pg : List (Addr × Obj)) (sl : List Nat) (σ : L2.St) (Fin : Nat → Hp → Prop) : GenEnd := fun n _ r s => ((r = .ok (.ret .none) ∨ r = .ok .next) ∧ ∃ H, Inv (genX X A cenv s₁ H₁ fp) pg (L2.wipe σ sl) H s ∧ Fin n H) ∨ ∃ e, r = .error e ∧ False
theorem gen_loop {elt tg iter : Expr} {ifs : List Expr} {scope : Scope} {pos : Pos} (hd : A.handled = none) (hco : cenv.scope.isCoroutine = false) (hpg : ∀ p ∈ pg, ∀ b ∈ fp, p.1 ≠ b) (T : Turn X.prog X.w X.K tg J fp it tn) (G : GenL X J sl σ g tt te St Yl Fin)
    (hgt : PG (genX X A cenv s₁ H₁ fp) tg g) (pt : PTs (genX X A cenv s₁ H₁ fp) ifs tt) (pe : PE (genX X A cenv s₁ H₁ fp) elt te) :
    ∀ (m k i : Nat) (s₀ s : Shared) (H : Hp), St i k m H → GenS X A cenv s₁ H₁ fp pg tn sl σ i H s →
      Seg (model X.prog X.w) A (genR X A cenv s₁ H₁ fp pg sl σ Fin) (genY X A cenv s₁ H₁ fp pg tn sl σ Yl) m s₀ (.compLoop (.GeneratorExp elt [⟨tg, iter, ifs, 0⟩] scope pos) 0 (.ref it) .none cenv)
        ((model X.prog X.w).den (.compLoop (.GeneratorExp elt [⟨tg, iter, ifs, 0⟩] scope pos) 0 (.ref it) .none cenv)) [] s := by
  have stat : ∀ {σ' : L2.St} {H' : Hp} {s' : Shared}, Inv (genX X A cenv s₁ H₁ fp) pg σ' H' s' → (∀ b ∈ fp, H' b = none) → ∀ b ∈ fp, FpOk (genX X A cenv s₁ H₁ fp) pg H' b := fun {σ' H' s'} I' hn b hb =>
    ⟨hn b hb, (I'.ok.exf b hb).1, I'.ok.exfs b hb, .inl hb, fun x c e => (I'.ok.exf b hb).2 x c e, fun p hp => hpg p (show p ∈ ([] : List (Addr × Obj)) ++ pg from hp) b hb⟩
  have hA : A.over (.compLoop (.GeneratorExp elt [⟨tg, iter, ifs, 0⟩] scope pos) 0 (.ref it) .none cenv) [] = (genX X A cenv s₁ H₁ fp).A := over_loop
  intro m
  induction m using Nat.strongRecOn with
  | ind m ihm =>
  intro k
  induction k using Nat.strongRecOn with
  | ind k ih =>
  intro i s₀ s H w G0
  show Seg _ A _ _ _ s₀ _ ((compTurn (.GeneratorExp elt [⟨tg, iter, ifs, 0⟩] scope pos) 0 (.ref it) .none cenv).onRaise (leaving cenv)) [] s
  rw [compTurn_gen, Sem.onRaise_eq_wrap]
  refine seg_bind_wrap (wpAny_standAt ?_)
  rcases G.turn i k m H w with ⟨stop, fin⟩ | ⟨go, step⟩
  · refine seg_bind_wrap ?_
    rw [hA]
    refine thnF (T.done (genX X A cenv s₁ H₁ fp) rfl rfl rfl rfl i pg s _ H (fun _ _ => False) G0.inv (stat G0.inv G0.fr) G0.tn stop) fun r s6 ⟨hr, I6⟩ => ?_
    subst hr
    exact seg_end (.ok .next) (.inl ⟨.inr rfl, H, I6, fin⟩)
  · refine seg_bind_wrap ?_
    rw [hA]
    refine thnF (T.item (genX X A cenv s₁ H₁ fp) rfl rfl rfl rfl i pg s _ H (fun _ _ => False) G0.inv (stat G0.inv G0.fr) G0.tn go) fun r s6 ⟨u, hr, h6⟩ => ?_
    subst hr
    refine seg_bind_wrap ?_
    rw [hA]
    refine thnF h6 fun _ s7 ⟨x, H7, I7, r7, y7, st7, n7⟩ => ?_
    have I7' := I7.pinned (stat I7 n7) (T.obj _ _ st7)
    refine seg_bind_wrap ?_
    rw [hA]
    refine thnF (hgt.run _ s7 _ H7 x u _ I7' r7 (step x H7 y7)) fun _ s8 ⟨σ8, H8, I8, hw8, q8⟩ => ?_
    refine seg_bind_wrap ?_
    rw [hA]
    refine thnF (pt.run _ s8 σ8 H8 _ I8 q8) fun b s9 ⟨H9, I9, q9⟩ => ?_
    have back : ∀ {s' : Shared} {H' : Hp}, Inv (genX X A cenv s₁ H₁ fp) (pg ++ pinsAt fp s7.heap) σ8 H' s' → GenS X A cenv s₁ H₁ fp pg tn sl σ (i + 1) H' s' := fun {s' H'} I' => by
      have pin' : ∀ b ∈ fp, ∀ o, s7.heap.get? b = some o → s'.heap.get? b = some o ∧ H' b = none := fun b hb o e =>
        let z := I'.pin (b, o) (List.mem_append_right _ (List.mem_append_right _ (mem_pinsAt hb e)))
        ⟨z.1, z.2.1⟩
      have hl : (L2.wipe σ sl).length = σ8.length := by rw [← hw8, wipe_length]
      refine ⟨(I'.unpinned (pins := pg)).weak hl fun j v e => ?_, T.keep _ _ _ st7 fun b hb o e => (pin' b hb o e).1, fun b hb => ?_⟩
      · rw [← hw8] at e
        exact (wipe_some e).1
      · obtain ⟨o, e, _⟩ := T.obj _ _ st7 b hb
        exact (pin' b hb o e).2
    cases b with
    | false =>
      simp only [Bool.false_eq_true, if_false] at q9 ⊢
      obtain ⟨k', hk, w'⟩ := q9
      exact seg_again rfl (ih k' hk (i + 1) s₀ s9 H9 w' (back I9))
    | true =>
      simp only [if_true] at q9 ⊢
      have hy : ∀ v, yieldOut cenv v = yieldValue v := fun v => by simp only [yieldOut, hco, Bool.false_eq_true, if_false]
      simp only [hy]
      rw [Sem.bind_eq_wrap', Sem.bind_eq_wrap', Sem.wrap_wrap, Sem.wrap_wrap]
      refine seg_wrap ?_
      rw [hA]
      refine thnF (pe.run _ s9 σ8 H9 _ I9 q9) fun z s10 ⟨y, H10, I10, r10, m', em, yl⟩ => ?_
      subst em
      refine seg_at (seg_yield rfl rfl rfl ⟨i + 1, y, H10, _, r10, back I10, yl, fun s' H' G' ⟨k', w'⟩ => ?_⟩)
      exact seg_again rfl (ihm m' (Nat.lt_succ_self _) k' (i + 1) s' s' H' w' G')
theorem gen_start {elt tg iter : Expr} {ifs : List Expr} {scope : Scope} {pos : Pos} (hd : A.handled = none) (hco : cenv.scope.isCoroutine = false) (hpg : ∀ p ∈ pg, ∀ b ∈ fp, p.1 ≠ b) (T : Turn X.prog X.w X.K tg J fp it tn) (G : GenL X J sl σ g tt te St Yl Fin)
    (hgt : PG (genX X A cenv s₁ H₁ fp) tg g) (pt : PTs (genX X A cenv s₁ H₁ fp) ifs tt) (pe : PE (genX X A cenv s₁ H₁ fp) elt te) {m k : Nat} {s₀ s : Shared} {H : Hp} (w : St 0 k m H) (G0 : GenS X A cenv s₁ H₁ fp pg tn sl σ 0 H s) :
    Seg (model X.prog X.w) A (genR X A cenv s₁ H₁ fp pg sl σ Fin) (genY X A cenv s₁ H₁ fp pg tn sl σ Yl) m s₀ (.compStart (.GeneratorExp elt [⟨tg, iter, ifs, 0⟩] scope pos) 0 (.ref it) .none cenv)
      ((model X.prog X.w).den (.compStart (.GeneratorExp elt [⟨tg, iter, ifs, 0⟩] scope pos) 0 (.ref it) .none cenv)) [] s := by
  have loop := gen_loop (iter := iter) (scope := scope) (pos := pos) hd hco hpg T G hgt pt pe m k 0 s₀ s H w G0
  show Seg _ A _ _ _ s₀ _ ((compStart (.GeneratorExp elt [⟨tg, iter, ifs, 0⟩] scope pos) 0 (.ref it) .none cenv).onRaise (leaving cenv)) [] s
  unfold compStart
  rw [Sem.onRaise_eq_wrap]
  show Seg _ A _ _ _ s₀ _ ((ask >>= _).wrap _ _ _ _) [] s
  refine seg_bind_wrap (wpAny_askSetting ?_)
  split
  · exact seg_again rfl loop
  · first
      | exact seg_bind_wrap (wpAny_rule (seg_bind_wrap (wpAny_standAt (seg_bind_wrap (T.self _ 0 _ _ _ G0.tn (seg_again rfl loop))))))
      | (refine seg_bind_wrap (wpAny_rule ?_)
         show Seg _ A _ _ _ s₀ _ ((standAt iter.pos >>= _).wrap _ _ _ _) [] s
         exact seg_bind_wrap (wpAny_standAt (seg_bind_wrap (T.self _ 0 _ _ _ G0.tn (seg_again rfl loop)))))
end
end FL
set_option Elab.async false
set_option linter.all false
set_option maxRecDepth 100000
set_option maxHeartbeats 2000000
/-! FL27: any, all, sum of a generator. -/
namespace FL
open PySem PySem.Spec PyProof.Rows L2 GenW
section
variable {X : Cx} {A : Around} {cenv : Env} {s₁ : Shared} {H₁ : Hp} {fp : List Addr} {pg : List (Addr × Obj)} {tn : Nat → Heap → Prop} {sl : List Nat} {σ : L2.St} {Yl : Nat → V → Hp → (Hp → Prop) → Prop} {Fin : Nat → Hp → Prop}
theorem GenS.gens {i : Nat} {H : Hp} {s : Shared} {gs : Array GenState} (G : GenS X A cenv s₁ H₁ fp pg tn sl σ i H s) (hb : AllBare gs) : GenS X A cenv s₁ H₁ fp pg tn sl σ i H { s with gens := gs } :=
  ⟨G.inv.call' (ch := []) rfl (Un.kept fun _ _ e => e) G.inv.hok hb fun b z => absurd z (by simp), G.tn, G.fr⟩
/-- the generator object's form -/
def IsG (ob : Obj) (gn : Nat) : Prop := ∃ nm qn, ob.cls = .type "generator" ∧ ob.data = .fields #[.int gn 0, nm, qn] ∧ ob.slots = #[]
/-- one item more, or the end -/
theorem gen_next {A' : Around} {a : Addr} {gn m i : Nat} {ob : Obj} {H : Hp} {s : Shared} {gs : GenState} {Q : Option Value → Shared → Prop} {E : Value → Shared → Prop} (hh : A'.handled = none) (hroom : A'.depth < recursionLimit) (hob : (a, ob) ∈ pg) (hg : IsG ob gn)
    (G : GenS X A'.in1 cenv s₁ H₁ fp pg tn sl σ i H s) (hgs : s.gens[gn]? = some gs) (hgo : gs.Goes (model X.prog X.w) A'.in1 (genR X A'.in1 cenv s₁ H₁ fp pg sl σ Fin) (genY X A'.in1 cenv s₁ H₁ fp pg tn sl σ Yl) m (.send .none) (s.setGen gn .running))
    (hY : ∀ v y i' H' s' gs' Kk, RelV y v → GenS X A'.in1 cenv s₁ H₁ fp pg tn sl σ i' H' s' → Yl (m - 1) y H' Kk → gs'.bare = true →
      (∀ s'' H'', GenS X A'.in1 cenv s₁ H₁ fp pg tn sl σ i' H'' s'' → Kk H'' → ∃ m', m = m' + 1 ∧ gs'.Goes (model X.prog X.w) A'.in1 (genR X A'.in1 cenv s₁ H₁ fp pg sl σ Fin) (genY X A'.in1 cenv s₁ H₁ fp pg tn sl σ Yl) m' (.send .none) s'') →
      gn < s'.gens.size → Q (some v) (s'.setGen gn gs'))
    (hP : ∀ s' H' h', Inv (genX X A'.in1 cenv s₁ H₁ fp) pg (L2.wipe σ sl) H' s' → Fin m H' → (∀ b o, s'.heap.get? b = some o → h'.get? b = some o) → Q none { s'.setGen gn .finished with heap := h' }) :
    wpAny (model X.prog X.w) A' (pyNext (.ref a)) Q E s := by
  obtain ⟨nm, qn, g1, g2, g3⟩ := hg
  have pin := G.inv.pin (a, ob) (List.mem_append_right _ hob)
  have hl : gn < s.gens.size := (Array.getElem?_eq_some_iff.mp hgs).1
  have goes : ∀ {gs : GenState} {n : Nat} {s : Shared}, gs.Goes (model X.prog X.w) A'.in1 (genR X A'.in1 cenv s₁ H₁ fp pg sl σ Fin) (genY X A'.in1 cenv s₁ H₁ fp pg tn sl σ Yl) n (.send .none) s →
      gs.Goes (model X.prog X.w) A'.in1 (fun n s₀ r s1 => ((r = .ok (.ret .none) ∨ r = .ok .next) ∧ ∃ H, Inv (genX X A'.in1 cenv s₁ H₁ fp) pg (L2.wipe σ sl) H s1 ∧ Fin n H) ∨ ∃ e, r = .error e ∧ (fun _ _ => False) e s1) (genY X A'.in1 cenv s₁ H₁ fp pg tn sl σ Yl) n (.send .none) s := fun h => h
  refine wpAny_gsz (n := gn + 1) hl (next_genG (F := fun n _ s1 => ∃ H, Inv (genX X A'.in1 cenv s₁ H₁ fp) pg (L2.wipe σ sl) H s1 ∧ Fin n H) (Er := fun _ _ => False) hh G.inv.nolimit hroom ⟨ob, nm, qn, pin.1, g1, g2, g3⟩ hgs (goes hgo) (fun v s' gs' hb hv => ?_) (fun s' hp h' hk => ?_) fun e s' he => he.elim)
  · intro hsz
    obtain ⟨i', y, H', Kk, ry, G', yl, hk⟩ := hv
    have hsz' : gn < s'.gens.size := by
      have q : (s'.setGen gn gs').gens.size = s'.gens.size := setGen_size _ _ _
      have z : gn + 1 ≤ (s'.setGen gn gs').gens.size := hsz
      omega
    refine hY v y i' H' s' gs' Kk ry G' yl hb (fun s'' H'' G'' k'' => ?_) hsz'
    have := hk s'' H'' G'' k''
    cases m with
    | zero => exact False.elim this
    | succ m => exact ⟨m, rfl, this⟩
  · intro _
    obtain ⟨H', I', f'⟩ := hp
    exact hP s' H' h' I' f' hk
/-- any (c is true), all (c is false) -/
def YlB (c : Bool) (Res : Bool → Hp → Prop) : Nat → V → Hp → (Hp → Prop) → Prop := fun _ y H Kk => ∃ b, y = .bl b ∧ (b = c → Res c H) ∧ (b = !c → Kk H)
def FinB (c : Bool) (Res : Bool → Hp → Prop) : Nat → Hp → Prop := fun _ H => Res (!c) H
theorem any_loop {A₀ : Around} {a : Addr} {gn : Nat} {ob : Obj} {R : Result → Shared → Prop} {Res : Bool → Hp → Prop} (hh : A₀.handled = none) (hroom : A₀.in1.depth < recursionLimit) (hob : (a, ob) ∈ pg) (hg : IsG ob gn)
    (hend : ∀ b s' H', Inv (genX X A₀.in1.in1 cenv s₁ H₁ fp) pg (L2.wipe σ sl) H' s' → Res b H' → R (.ok (.ret (.bool b))) s') :
    ∀ (m i : Nat) (H : Hp) (s : Shared) (gs : GenState), GenS X A₀.in1.in1 cenv s₁ H₁ fp pg tn sl σ i H s → s.gens[gn]? = some gs →
      gs.Goes (model X.prog X.w) A₀.in1.in1 (genR X A₀.in1.in1 cenv s₁ H₁ fp pg sl σ (FinB true Res)) (genY X A₀.in1.in1 cenv s₁ H₁ fp pg tn sl σ (YlB true Res)) m (.send .none) (s.setGen gn .running) →
      codeAny (model X.prog X.w) A₀ (.builtin "any.loop" ⟨[.ref a], []⟩) R s := by
  intro m
  induction m with
  | zero =>
    intro i H s gs G hgs hgo
    refine codeAny_builtin F.entry_any_loop ?_
    rw [Around.under_plainId F.plain_any_loop _]
    show wpAny _ A₀.in1 (pyNext (.ref a) >>= _) _ _ s
    refine wpAny_bind (gen_next (A' := A₀.in1) hh hroom hob hg G hgs hgo (fun v y i' H' s' gs' Kk ry G' yl hb hk hsz => ?_) fun s' H' h' I' f' hk => ?_)
    · obtain ⟨b, rfl, y1, y2⟩ := yl
      cases ry
      refine wpAny_bind (wpAny_holding (wpAny_truthy_bool ?_))
      refine wpAny_bind (wpAny_letGo ?_)
      have G2 : GenS X A₀.in1.in1 cenv s₁ H₁ fp pg tn sl σ i' H' (s'.setGen gn gs') := G'.gens (allBare_setGen G'.inv.bare hb)
      cases b with
      | false =>
        obtain ⟨m', e, _⟩ := hk _ H' G2 (y2 rfl)
        cases e
      | true =>
        simp only [if_true]
        refine wpAny_bind (wpAny_rule (wpAny_pure ?_))
        exact hend true _ H' G2.inv (y1 rfl)
    · refine wpAny_bind (wpAny_rule (wpAny_pure ?_))
      have I2 : Inv (genX X A₀.in1.in1 cenv s₁ H₁ fp) pg (L2.wipe σ sl) H' { s'.setGen gn .finished with heap := h' } := I'.call' (ch := []) rfl (Un.kept hk) (I'.hok.kept hk) (allBare_setGen I'.bare rfl) fun b z => absurd z (by simp)
      exact hend false _ H' I2 f'
  | succ m ih =>
    intro i H s gs G hgs hgo
    refine codeAny_builtin F.entry_any_loop ?_
    rw [Around.under_plainId F.plain_any_loop _]
    show wpAny _ A₀.in1 (pyNext (.ref a) >>= _) _ _ s
    refine wpAny_bind (gen_next (A' := A₀.in1) hh hroom hob hg G hgs hgo (fun v y i' H' s' gs' Kk ry G' yl hb hk hsz => ?_) fun s' H' h' I' f' hk => ?_)
    · obtain ⟨b, rfl, y1, y2⟩ := yl
      cases ry
      refine wpAny_bind (wpAny_holding (wpAny_truthy_bool ?_))
      refine wpAny_bind (wpAny_letGo ?_)
      have G2 : GenS X A₀.in1.in1 cenv s₁ H₁ fp pg tn sl σ i' H' (s'.setGen gn gs') := G'.gens (allBare_setGen G'.inv.bare hb)
      cases b with
      | false =>
        simp only [Bool.false_eq_true, if_false]
        obtain ⟨m', e, go⟩ := hk _ H' (G2.gens (allBare_setGen (s := s'.setGen gn gs') G2.inv.bare (x := .running) rfl)) (y2 rfl)
        cases e
        exact wpAny_pure ⟨plainId_quiet F.plain_any_loop _, ih i' H' (s'.setGen gn gs') gs' G2 (setGen_at hsz) go⟩
      | true =>
        simp only [if_true]
        refine wpAny_bind (wpAny_rule (wpAny_pure ?_))
        exact hend true _ H' G2.inv (y1 rfl)
    · refine wpAny_bind (wpAny_rule (wpAny_pure ?_))
      have I2 : Inv (genX X A₀.in1.in1 cenv s₁ H₁ fp) pg (L2.wipe σ sl) H' { s'.setGen gn .finished with heap := h' } := I'.call' (ch := []) rfl (Un.kept hk) (I'.hok.kept hk) (allBare_setGen I'.bare rfl) fun b z => absurd z (by simp)
      exact hend false _ H' I2 f'
theorem all_loop {A₀ : Around} {a : Addr} {gn : Nat} {ob : Obj} {R : Result → Shared → Prop} {Res : Bool → Hp → Prop} (hh : A₀.handled = none) (hroom : A₀.in1.depth < recursionLimit) (hob : (a, ob) ∈ pg) (hg : IsG ob gn)
    (hend : ∀ b s' H', Inv (genX X A₀.in1.in1 cenv s₁ H₁ fp) pg (L2.wipe σ sl) H' s' → Res b H' → R (.ok (.ret (.bool b))) s') :
    ∀ (m i : Nat) (H : Hp) (s : Shared) (gs : GenState), GenS X A₀.in1.in1 cenv s₁ H₁ fp pg tn sl σ i H s → s.gens[gn]? = some gs →
      gs.Goes (model X.prog X.w) A₀.in1.in1 (genR X A₀.in1.in1 cenv s₁ H₁ fp pg sl σ (FinB false Res)) (genY X A₀.in1.in1 cenv s₁ H₁ fp pg tn sl σ (YlB false Res)) m (.send .none) (s.setGen gn .running) →
      codeAny (model X.prog X.w) A₀ (.builtin "all.loop" ⟨[.ref a], []⟩) R s := by
  intro m
  induction m with
  | zero =>
    intro i H s gs G hgs hgo
    refine codeAny_builtin F.entry_all_loop ?_
    rw [Around.under_plainId F.plain_all_loop _]
    show wpAny _ A₀.in1 (pyNext (.ref a) >>= _) _ _ s
    refine wpAny_bind (gen_next (A' := A₀.in1) hh hroom hob hg G hgs hgo (fun v y i' H' s' gs' Kk ry G' yl hb hk hsz => ?_) fun s' H' h' I' f' hk => ?_)
    · obtain ⟨b, rfl, y1, y2⟩ := yl
      cases ry
      refine wpAny_bind (wpAny_holding (wpAny_truthy_bool ?_))
      refine wpAny_bind (wpAny_letGo ?_)
      have G2 : GenS X A₀.in1.in1 cenv s₁ H₁ fp pg tn sl σ i' H' (s'.setGen gn gs') := G'.gens (allBare_setGen G'.inv.bare hb)
      cases b with
      | true =>
        obtain ⟨m', e, _⟩ := hk _ H' G2 (y2 rfl)
        cases e
      | false =>
        simp only [Bool.false_eq_true, if_false]
        refine wpAny_bind (wpAny_rule (wpAny_pure ?_))
        exact hend false _ H' G2.inv (y1 rfl)
    · refine wpAny_bind (wpAny_rule (wpAny_pure ?_))
      have I2 : Inv (genX X A₀.in1.in1 cenv s₁ H₁ fp) pg (L2.wipe σ sl) H' { s'.setGen gn .finished with heap := h' } := I'.call' (ch := []) rfl (Un.kept hk) (I'.hok.kept hk) (allBare_setGen I'.bare rfl) fun b z => absurd z (by simp)
      exact hend true _ H' I2 f'
  | succ m ih =>
    intro i H s gs G hgs hgo
    refine codeAny_builtin F.entry_all_loop ?_
    rw [Around.under_plainId F.plain_all_loop _]
    show wpAny _ A₀.in1 (pyNext (.ref a) >>= _) _ _ s
    refine wpAny_bind (gen_next (A' := A₀.in1) hh hroom hob hg G hgs hgo (fun v y i' H' s' gs' Kk ry G' yl hb hk hsz => ?_) fun s' H' h' I' f' hk => ?_)
    · obtain ⟨b, rfl, y1, y2⟩ := yl
      cases ry
      refine wpAny_bind (wpAny_holding (wpAny_truthy_bool ?_))
      refine wpAny_bind (wpAny_letGo ?_)
      have G2 : GenS X A₀.in1.in1 cenv s₁ H₁ fp pg tn sl σ i' H' (s'.setGen gn gs') := G'.gens (allBare_setGen G'.inv.bare hb)
      cases b with
      | true =>
        simp only [if_true]
        obtain ⟨m', e, go⟩ := hk _ H' (G2.gens (allBare_setGen (s := s'.setGen gn gs') G2.inv.bare (x := .running) rfl)) (y2 rfl)
        cases e
        exact wpAny_pure ⟨plainId_quiet F.plain_all_loop _, ih i' H' (s'.setGen gn gs') gs' G2 (setGen_at hsz) go⟩
      | false =>
        simp only [Bool.false_eq_true, if_false]
        refine wpAny_bind (wpAny_rule (wpAny_pure ?_))
        exact hend false _ H' G2.inv (y1 rfl)
    · refine wpAny_bind (wpAny_rule (wpAny_pure ?_))
      have I2 : Inv (genX X A₀.in1.in1 cenv s₁ H₁ fp) pg (L2.wipe σ sl) H' { s'.setGen gn .finished with heap := h' } := I'.call' (ch := []) rfl (Un.kept hk) (I'.hok.kept hk) (allBare_setGen I'.bare rfl) fun b z => absurd z (by simp)
      exact hend true _ H' I2 f'
end
end FL
set_option Elab.async false
set_option linter.all false
set_option maxRecDepth 100000
set_option maxHeartbeats 2000000
/-! FL28: a generator expression is made; any(..), all(..). -/
namespace FL
open PySem PySem.Spec PyProof.Rows L2 GenW
/-- a generator that has been made at s5, not yet begun -/
structure GMadeX (X : Cx) (pins : List (Addr × Obj)) (σ : L2.St) (sl : List Nat) (A : Around) (cenv : Env) (elt tg iter : Expr) (ifs : List Expr) (scope : Scope) (pos : Pos) (s4 : Shared) (H4 : Hp) (fp : List Addr) (pg : List (Addr × Obj)) (it : Addr) (tn : Nat → Heap → Prop) (J : It) (a gn : Nat) (ob : Obj) (s5 : Shared) : Prop where
  inv : Inv X pins σ H4 s4
  fpok : ∀ b ∈ fp, FpOk X pins H4 b
  T : Turn X.prog X.w X.K tg J fp it tn
  hpg : ∀ p ∈ pg, ∀ b ∈ fp, p.1 ≠ b
  mem : (a, ob) ∈ pg
  isg : IsG ob gn
  gen : s5.gens[gn]? = some (.fresh (.compStart (.GeneratorExp elt [⟨tg, iter, ifs, 0⟩] scope pos) 0 (.ref it) .none cenv))
  isgen : s5.heap.IsGen a gn
  st : ∀ gs' : Array GenState, AllBare gs' → GenS X A cenv s4 H4 fp pg tn sl σ 0 H4 { s5 with gens := gs' }
  bare : AllBare s5.gens
abbrev gxEnv (X : Cx) (scope : Scope) (L : Addr) (code : Value) : Env := genEnv scope (cloFrom X.env.cells scope.names []) L code builtinsNs X.env
section
variable {X : Cx} {pins : List (Addr × Obj)} {σ : L2.St} {H : Hp} {s : Shared} {g : Gc}
theorem gx_make {A : Around} {c P : Addr} {elt tg iter : Expr} {ifs : List Expr} {scope : Scope} {own : List (Str × Nat)} {pos : Pos} {wi : TI} {R : It → Hp → Prop} {k : Nat} {Q' : Value → Shared → Prop} (hr : Room k X.A) (hN : X.N.Nodup) (hAd : A.handled = none) (hAf : A.frames = some X.stack)
    (TB : LamX.TabB X.base X.mg c P) (hcode : X.env.code = .ref c) (hm : (P, X.env.qual ++ "<genexpr>") ∈ g.T) (hu : ∀ p ∈ g.T, p.1 = P → p.2 = X.env.qual ++ "<genexpr>") (C : CloS X.N X.env.scope scope own) (h0 : scope.names.lookup (".0" : Str) = some NameKind.local)
    (hi : PI X tg iter wi) (hs : ∀ v, genFold iter X.env v = pure v) (I : Inv X pins σ H s) (hw : wi σ H R) (hT : ∀ J H2, R J H2 → LamX.Tabs g.T H2)
    (hQ : ∀ (s4 : Shared) (H2 H4 : Hp) (fp : List Addr) (it : Addr) (tn : Nat → Heap → Prop) (J : It) (a gn : Nat) (ob : Obj) (code : Value) (s5 : Shared), R J H2 → LamX.ExtN H2 H4 → LamX.Tabs g.T H4 → GMadeX X pins σ (own.map (·.2)) A (gxEnv X scope s4.heap.objs.size code) elt tg iter ifs scope pos s4 H4 fp [(a, ob)] it tn J a gn ob s5 → Q' (.ref a) s5) :
    wpAny (model X.prog X.w) X.A (eval (.GeneratorExp elt [⟨tg, iter, ifs, 0⟩] scope pos) X.env) Q' X.xe s := by
  refine wpAny_GeneratorExp_make (cl := cloFrom X.env.cells scope.names []) C.co (closure_ok (C.has I.ok)) C.cell h0 C.kind (by have := hr.dp; omega) ?_ hs
  refine thn (hi.run pins s σ H R I hw) fun v s1 h1 => thn h1 fun itv s2 h2 => ?_
  obtain ⟨it, fp, tn, J, H2, rfl, I2, T, st2, f2, w2⟩ := h2
  have hT2 := hT J H2 w2
  obtain ⟨ps, hP, ht, ha⟩ := hT2 _ hm
  have cd : PySem.W.CodeHd s2.heap c P := TB.code.keeps I2.bk
  have hP' : s2.heap.get? P = some { cls := .none, data := .fields ps } := I2.hok P _ hP
  have fpP : ∀ b ∈ fp, b ≠ P := fun b hb z => by
    have := (f2 b hb).1
    rw [z, hP] at this
    cases this
  refine ⟨I2.nolimit, ?_⟩
  have cont : ∀ (code : Value) (s4 : Shared) (H4 : Hp), Inv X pins σ H4 s4 → LamX.ExtN H2 H4 → LamX.Tabs g.T H4 → tn 0 s4.heap → (∀ b ∈ fp, FpOk X pins H4 b) →
      wpAny (model X.prog X.w) X.A (builtinsFor X.env.globals X.env.builtins) (fun bi s₄ => ∀ h', h'.Ns s₄.heap.objs.size (fun y => if y = ".0" then some (.ref it) else none) → Heap.SameBut s₄.heap.objs.size (s₄.heap.push { cls := .type "frame", data := .dict #[] }) h' →
          Q' (.ref h'.objs.size) { s₄ with
            gens := s₄.gens.push (.fresh (.compStart (.GeneratorExp elt [⟨tg, iter, ifs, 0⟩] scope pos) 0 (.ref it) .none (genEnv scope (cloFrom X.env.cells scope.names []) s₄.heap.objs.size code bi X.env))),
            toks := s₄.toks + 1 + 1 + 1,
            heap := h'.push { cls := .type "generator", data := .fields #[.int s₄.gens.size 0, .str "<genexpr>" (s₄.toks + 1), .str (X.env.qual ++ "<genexpr>") (s₄.toks + 1 + 1)] } }) X.xe s4 := by
    intro code s4 H4 I4 eN T4 t4 f4
    obtain ⟨bm, ob, e1, e2, e3, e4, e5, e6, e7, e8⟩ := TB.bm
    refine wpAny_builtinsFor (m := X.mg) (by rw [I4.ok.glob]; exact I4.mod.glob.keeps I4.bk) e1 e2 (I4.bk _ _ e5) e6 e7 e8 ?_
    intro h' hn' hs'
    have hsz : h'.objs.size = s4.heap.objs.size + 1 := by rw [hs'.1, Heap.size_push]
    have keep' : ∀ b o, s4.heap.get? b = some o → h'.get? b = some o := fun b o e => hs'.extBut b o (Nat.ne_of_lt (Heap.lt_size e)) (Heap.get?_push_of_some _ e)
    have fpl : ∀ b ∈ fp, b < s4.heap.objs.size := fun b hb => by
      obtain ⟨o, e, _⟩ := T.obj _ _ t4 b hb
      exact Heap.lt_size e
    generalize eob : ({ cls := .type "generator", data := .fields #[.int s4.gens.size 0, .str "<genexpr>" (s4.toks + 1), .str (X.env.qual ++ "<genexpr>") (s4.toks + 1 + 1)] } : Obj) = gob
    have hget : (h'.push gob).get? h'.objs.size = some gob := Heap.get?_push_size _ (by rw [← eob] <;> rfl)
    have keep5 : ∀ b o, s4.heap.get? b = some o → (h'.push gob).get? b = some o := fun b o e => Heap.get?_push_of_some _ (keep' b o e)
    have bare5 : AllBare (s4.gens.push (.fresh (.compStart (.GeneratorExp elt [⟨tg, iter, ifs, 0⟩] scope pos) 0 (.ref it) .none (gxEnv X scope s4.heap.objs.size code)))) := I4.bare.push rfl
    have hisg : IsG gob s4.gens.size := ⟨_, _, by rw [← eob], by rw [← eob], by rw [← eob]⟩
    have hnC : H4 h'.objs.size = none := I4.hok.fresh (by omega)
    refine hQ s4 H2 H4 fp it tn J h'.objs.size s4.gens.size gob code _ w2 eN T4 ⟨I4, f4, T, fun p hp b hb z => ?_, List.mem_cons_self, hisg, by simp, ?_, fun gs' hb => ?_, bare5⟩
    · rw [List.mem_singleton.mp hp] at z
      have z : h'.objs.size = b := z
      have h1 := fpl b hb
      rw [← z, hsz] at h1
      exact absurd h1 (Nat.not_lt.mpr (Nat.le_succ _))
    · obtain ⟨nm, qn, i1, i2, i3⟩ := hisg
      exact ⟨gob, nm, qn, hget, i1, i2, i3⟩
    · have I5 : Inv (cloCx X A (gxEnv X scope s4.heap.objs.size code) s4 H4 fp (fun _ _ => False)) [] (L2.wipe σ (own.map (·.2))) H4 { s4 with heap := h'.push gob, toks := s4.toks + 1 + 1 + 1, gens := gs' } :=
        clo_start I4 C hN hAd hAf rfl I4.ok.glob rfl rfl rfl rfl hb (fun b hb => ⟨f4 b hb, fpl b hb⟩) (hn'.keeps fun b o e => Heap.get?_push_of_some _ e) keep5 (L2.wipe_length ..) fun i y w hy hw => .inl hw
      refine ⟨I5.pins_of fun p hp => ?_, T.keep _ _ _ t4 fun b _ o e => keep5 b o e, fun b hb => (f4 b hb).1⟩
      rw [List.mem_singleton.mp hp]
      refine ⟨hget, hnC, ?_, fun z => ?_, fun v z => ?_⟩
      · show h'.objs.size ≠ s4.heap.objs.size
        omega
      · have z : h'.objs.size ∈ frs X.stack := z
        rcases List.mem_cons.mp (I4.stkSub _ z) with e | e
        · have h1 := I4.lt
          rw [← e, hsz] at h1
          exact absurd h1 (Nat.not_lt.mpr (Nat.le_succ _))
        · exact I4.nofs (by show (s4.heap.objs.size : Nat) ≤ h'.objs.size; omega) e
      · obtain ⟨nm, qn, i1, i2, i3⟩ := hisg
        rw [i2] at z
        cases z
  cases hc : codeAmong pos ps.toList with
  | none =>
    refine wpAny_genexprCodeX hcode (cd.code hP' ht) (cd.tab hP') hc fun c' h' tk hx hge hlt hco' hrec htab' _ => ?_
    obtain ⟨o1, vs1, f1, tf, fl, tg1, inF, tx, tt, op, _, _, _, _, _, _, _, _, _, htr, _⟩ := hco'
    obtain ⟨c2, oc, vs, t, e2, hoc, hd, hv⟩ := hrec
    cases e2
    have nC : H2 c' = none := I2.hok.fresh hge
    have I4 := LamX.inv_table (t' := tk) (q := X.env.qual ++ "<genexpr>") (more := #[rawInt pos.line, rawInt pos.col, .ref c']) (h' := h') I2 hP (fun b o hb e => hx b o hb e) htab'.2 hge ⟨oc, vs, t, hoc, hd, hv⟩
    have hE : LamX.ExtN H2 (upd (upd H2 P (.tbl (ps ++ #[rawInt pos.line, rawInt pos.col, .ref c']))) c' (LamX.CodeO c' (X.env.qual ++ "<genexpr>"))) := fun b o e n => by
      rw [upd_ne (ne_of_none e nC), upd_ne (fun z => n ps (Option.some.inj (e.symm.trans (by rw [z]; exact hP))))]
      exact e
    have eL : (ps ++ #[rawInt pos.line, rawInt pos.col, .ref c']).toList = ps.toList ++ [rawInt pos.line, rawInt pos.col, .ref c'] := by simp
    refine cont (.ref c') _ _ I4 hE (fun p hp => ?_) (T.keep _ _ _ st2 fun b hb o e => hx b o (fpP b hb) e) fun b hb => ?_
    · by_cases hb : p.1 = P
      · rw [hu p hp hb, hb]
        refine ⟨_, by rw [upd_ne (ne_of_none hP nC), upd_same], by rw [eL]; exact PySem.TriplesOk_snoc _ _ _ _ ht, fun p' cv hcv => ?_⟩
        rw [eL] at hcv
        rcases LamX.among_app _ ht hcv with z | z
        · obtain ⟨c0, e1, e2⟩ := ha p' cv z
          exact ⟨c0, e1, hE _ _ e2 LamX.codeO_ne⟩
        · exact ⟨c', z, upd_same⟩
      · obtain ⟨ps', a1, a2, a3⟩ := hT2 p hp
        refine ⟨ps', by rw [upd_ne (ne_of_none a1 nC), upd_ne hb]; exact a1, a2, fun p' cv hcv => ?_⟩
        obtain ⟨c0, e1, e2⟩ := a3 p' cv hcv
        exact ⟨c0, e1, hE _ _ e2 LamX.codeO_ne⟩
    · obtain ⟨z0, z1⟩ := f2 b hb
      refine ⟨?_, z1⟩
      obtain ⟨o, e, _⟩ := T.obj _ _ st2 b hb
      have := Heap.lt_size e
      rw [upd_ne (fun z => by rw [z] at this; exact Nat.lt_irrefl _ (Nat.lt_of_lt_of_le this hge)), upd_ne (fpP b hb)]
      exact z0
  | some cv =>
    refine wpAny_genexprCode_hit hcode (cd.code hP' ht) hc ?_
    exact cont cv s2 H2 I2 (LamX.ExtN.refl _) hT2 st2 f2
end
end FL
set_option Elab.async false
set_option linter.all false
set_option maxRecDepth 100000
set_option maxHeartbeats 2000000
/-! FL29: the rules of any(.. for ..), all(.. for ..). -/
namespace FL
open PySem PySem.Spec PyProof.Rows L2 GenW
/-- the tests of a generator expression, until one is c -/
def stT (c : Bool) (g : FG) (t : FT) (e : FE) (own : List Nat) (δ : DS) : List FL.D → VH → Out Bool
  | [], h => .ok (!c) h
  | x :: xs, h => match g x (FL.wipe δ own) h with
    | none => .bad
    | some (δ1, h) => match t δ1 h with
      | .ok false h => stT c g t e own δ xs h
      | .ok true h => match e δ1 h with
        | .ok (.bl b) h => if b = c then .ok c h else stT c g t e own δ xs h
        | _ => .bad
      | _ => .bad
def stEnd (o : Out Bool) : Out FL.D := match o with
  | .ok b h => .ok (.bl b) h
  | _ => .bad
def stX (c : Bool) (g : FG) (t : FT) (e : FE) (own : List Nat) (δ : DS) (x : FL.D) (h : VH) : Out FL.D := match x with
  | .tup xs => stEnd (stT c g t e own δ xs h)
  | .fls xs => stEnd (stT c g t e own δ xs h)
  | .fdc ks _ => stEnd (stT c g t e own δ ks h)
  | .str s => stEnd (stT c g t e own δ (s.map fun c => .str [c]) h)
  | _ => .bad
def eStG (c : Bool) (a : FE) (g : FG) (t : FT) (e : FE) (own : List Nat) : FE := fun δ h => (a δ h).bind fun x h => stX c g t e own δ x h
def eStR (c : Bool) (r : FA) (g : FG) (t : FT) (e : FE) (own : List Nat) : FE := fun δ h => (r δ h).bind fun xs h => match rEnds xs with
  | some (i, j) => stEnd (stT c g t e own δ (rng i j) h)
  | none => .bad
/-- the parts of a generator expression -/
structure GenP (X : Cx) (g : Gc) (k : Nat) (elt tg : Expr) (ifs : List Expr) (scope : Scope) (own : List (Str × Nat)) (f : FG) (ft : FT) (fe : FE) : Prop where
  C : CloS X.N X.env.scope scope own
  h0 : scope.names.lookup (".0" : Str) = some NameKind.local
  hg : ∀ (A : Around) (s : Shared) (H : Hp) (L : Addr) (code : Value) (fp : List Addr), Room k (A.deeper (gxEnv X scope L code)) → PG (cloCx X A (gxEnv X scope L code) s H fp (fun _ _ => False)) tg (rg X.K g (own.map (·.2)) f)
  ht : ∀ (A : Around) (s : Shared) (H : Hp) (L : Addr) (code : Value) (fp : List Addr), Room k (A.deeper (gxEnv X scope L code)) → PTs (cloCx X A (gxEnv X scope L code) s H fp (fun _ _ => False)) ifs (rt X.K g W0 ft)
  he : ∀ (A : Around) (s : Shared) (H : Hp) (L : Addr) (code : Value) (fp : List Addr), Room k (A.deeper (gxEnv X scope L code)) → PE (cloCx X A (gxEnv X scope L code) s H fp (fun _ _ => False)) elt (rd X.K g W0 fe)
section
variable {X : Cx} {pins : List (Addr × Obj)} {σ : L2.St} {H : Hp} {s : Shared} {g : Gc} {W : WX} {own : List Nat} {f : FG} {ft : FT} {fe : FE} {δ : DS} {Q : VK} {c : Bool}
/-- what is left of the generator, good -/
abbrev GoodB (K : PySem.W.Frag) (g : Gc) (m : Nat → Addr) (n : Nat) (H : Hp) (Q : VK) (o : Out Bool) : Prop := GoodT K g (fun _ _ _ => False) m n H (fun b H' => Q (.bl b) H') o
def GW (K : PySem.W.Frag) (g : Gc) (own : List Nat) (f : FG) (ft : FT) (fe : FE) (c : Bool) (δ : DS) (σ : L2.St) (Q : VK) (J : It) (H : Hp) : Prop :=
  ∃ (C : Hp → Prop) (vs : List V) (xs : List FL.D) (m : Nat → Addr) (h : VH), TreeIt J C vs ∧ C H ∧ RS K m h.length H δ σ ∧ Sim K g m h H ∧ RDs K m h.length H xs vs ∧ GoodB K g m h.length H Q (stT c f ft fe own δ xs h)
theorem gl_of {J : It} {C : Hp → Prop} {vs : List V} (T : TreeIt J C vs) : GenL X J own σ (rg X.K g own f) (rt X.K g W0 ft) (rd X.K g W0 fe)
    (fun i k n H => ∃ m h rest, C H ∧ RS X.K m h.length H δ σ ∧ Sim X.K g m h H ∧ RDs X.K m h.length H rest (vs.drop i) ∧ k = rest.length ∧ rest.length ≤ n ∧ GoodB X.K g m h.length H Q (stT c f ft fe own δ rest h))
    (YlB c fun b H => Q (.bl b) H) (FinB c fun b H => Q (.bl b) H) := by
  refine ⟨?_⟩
  rintro i k n H ⟨m, h, rest, hc, r, sm, rx, rfl, hn, q⟩
  cases rest with
  | nil =>
    have hl := rx.length
    rw [List.length_drop] at hl
    exact .inl ⟨T.stop i H hc (by simp at hl; omega), q m H Ext.refl sm⟩
  | cons x rest =>
    have hi : ∃ v, vs[i]? = some v ∧ RD X.K m h.length H x v ∧ RDs X.K m h.length H rest (vs.drop (i + 1)) := by
      have hl := rx.length
      rw [List.length_drop] at hl
      have hlt : i < vs.length := by simp at hl; omega
      rw [List.drop_eq_getElem_cons hlt] at rx
      cases rx with
      | cons r1 r2 => exact ⟨vs[i], by simp [hlt], r1, r2⟩
    obtain ⟨v, hv, r1, r2⟩ := hi
    refine .inr ⟨T.go i H v hc hv, fun y H' hy => ?_⟩
    obtain ⟨e1, e2⟩ := T.yld i H y H' v hc hy hv
    subst e1
    subst e2
    refine ⟨FL.wipe δ own, m, h, x, r.wipe own, sm, r1, ?_⟩
    unfold stT at q
    cases eg : f x (FL.wipe δ own) h with
    | none => rw [eg] at q; exact q
    | some p =>
      obtain ⟨δ1, h1⟩ := p
      rw [eg] at q
      intro m1 H1 σ1 e1 s1 rr1 hw
      refine ⟨hw.trans (wipe_wipe σ own), δ1, m1, h1, rr1, s1, ?_⟩
      dsimp only at q
      cases et : ft δ1 h1 with
      | bad => rw [et] at q; exact q
      | err c p h2 => rw [et] at q; exact q.elim
      | ok b h2 =>
        rw [et] at q
        intro m2 H2 e2 s2
        have e12 := e1.trans e2
        cases b with
        | false =>
          dsimp only at q
          simp only [Bool.false_eq_true, if_false]
          exact ⟨rest.length, by simp, m2, h2, rest, T.st _ _ e12.im hc, e12.rs r, s2, e12.rds r2, rfl, by simp at hn; omega, Gd.from e12 q⟩
        | true =>
          dsimp only at q
          simp only [if_true]
          refine ⟨δ1, m2, h2, e2.rs rr1, s2, ?_⟩
          cases ee : fe δ1 h2 with
          | bad => rw [ee] at q; exact q
          | err c p h3 => rw [ee] at q; exact q.elim
          | ok y h3 =>
            rw [ee] at q
            intro m3 H3 e3 s3 w rw'
            have e := e12.trans e3
            cases rw' with
            | bl b =>
              dsimp only at q
              cases n with
              | zero => simp at hn
              | succ n =>
                refine ⟨n, rfl, b, rfl, fun hb => ?_, fun hb => ?_⟩
                · rw [if_pos hb] at q
                  exact q m3 H3 e s3
                · rw [if_neg (by rw [hb]; cases c <;> simp)] at q
                  exact ⟨rest.length, m3, h3, rest, T.st _ _ e.im hc, e.rs r, s3, e.rds r2, rfl, by simpa using hn, Gd.from e q⟩
            | _ => exact q.elim
theorem gx_any {elt tg iter : Expr} {ifs : List Expr} {scope : Scope} {pos : Pos} {k : Nat} {ow : List (Str × Nat)} {s4 s5 : Shared} {H4 : Hp} {fp : List Addr} {it : Addr} {tn : Nat → Heap → Prop} {J : It} {a gn : Nat} {ob : Obj} {code : Value} {L : Addr} (hr : Room (k + 1 + 1 + 1) X.A)
    (P : GenP X g k elt tg ifs scope ow f ft fe) (G : GMadeX X pins σ (ow.map (·.2)) X.A.in1.in1 (gxEnv X scope L code) elt tg iter ifs scope pos s4 H4 fp [(a, ob)] it tn J a gn ob s5) (w : GW X.K g (ow.map (·.2)) f ft fe true δ σ Q J H4) :
    wpAny (model X.prog X.w) X.A (call (.builtin "any") [.ref a]) (EP X pins σ Q) X.xe s5 := by
  obtain ⟨C, vs, xs, m, h, T, hc, r, sm, rx, q⟩ := w
  refine call_function_tree F.kind_any F.plain_any F.entry_any (F.args_any1 _) ?_
  unfold Builtin.«any»
  refine wpAny_bind (m := oneArg "any" _) (wpAny_pure ?_)
  refine wpAny_bind (wpAny_pyIter_gen G.isgen ?_)
  have hrm : Room k (X.A.in1.in1.deeper (gxEnv X scope L code)) := hr.in1.in1.deeper _
  refine wpAny_pure ⟨plainId_quiet F.plain_any_loop _, any_loop (X := X) (cenv := gxEnv X scope L code) (s₁ := s4) (H₁ := H4) (fp := fp) (tn := tn) (sl := ow.map (·.2)) (σ := σ) (Res := fun b H => Q (.bl b) H) hr.hd (by have := hr.dp; show X.A.depth < _; omega) G.mem G.isg (fun b s' H' I' q' => ?_) xs.length 0 H4 s5 _ (G.st s5.gens G.bare) G.gen ⟨rfl, ?_⟩⟩
  · exact ⟨.bl b, H', G.inv.call' (ch := fp) I'.os I'.base I'.hok I'.bare fun b hb => ⟨(G.fpok b hb).2.2.2.1, (G.fpok b hb).2.1, (G.fpok b hb).2.2.2.2.1, (G.fpok b hb).2.2.2.2.2⟩, rfl, q'⟩
  · refine gen_start (A := X.A.in1.in1) (k := xs.length) hr.hd P.C.co G.hpg G.T (gl_of (c := true) (δ := δ) (Q := Q) T) (P.hg _ _ _ _ _ _ hrm) (P.ht _ _ _ _ _ _ hrm) (P.he _ _ _ _ _ _ hrm) ⟨m, h, xs, hc, r, sm, rx, rfl, Nat.le_refl _, q⟩ ?_
    exact G.st _ (allBare_setGen G.bare rfl)
theorem gx_all {elt tg iter : Expr} {ifs : List Expr} {scope : Scope} {pos : Pos} {k : Nat} {ow : List (Str × Nat)} {s4 s5 : Shared} {H4 : Hp} {fp : List Addr} {it : Addr} {tn : Nat → Heap → Prop} {J : It} {a gn : Nat} {ob : Obj} {code : Value} {L : Addr} (hr : Room (k + 1 + 1 + 1) X.A)
    (P : GenP X g k elt tg ifs scope ow f ft fe) (G : GMadeX X pins σ (ow.map (·.2)) X.A.in1.in1 (gxEnv X scope L code) elt tg iter ifs scope pos s4 H4 fp [(a, ob)] it tn J a gn ob s5) (w : GW X.K g (ow.map (·.2)) f ft fe false δ σ Q J H4) :
    wpAny (model X.prog X.w) X.A (call (.builtin "all") [.ref a]) (EP X pins σ Q) X.xe s5 := by
  obtain ⟨C, vs, xs, m, h, T, hc, r, sm, rx, q⟩ := w
  refine call_function_tree F.kind_all F.plain_all F.entry_all (F.args_all1 _) ?_
  unfold Builtin.«all»
  refine wpAny_bind (m := oneArg "all" _) (wpAny_pure ?_)
  refine wpAny_bind (wpAny_pyIter_gen G.isgen ?_)
  have hrm : Room k (X.A.in1.in1.deeper (gxEnv X scope L code)) := hr.in1.in1.deeper _
  refine wpAny_pure ⟨plainId_quiet F.plain_all_loop _, all_loop (X := X) (cenv := gxEnv X scope L code) (s₁ := s4) (H₁ := H4) (fp := fp) (tn := tn) (sl := ow.map (·.2)) (σ := σ) (Res := fun b H => Q (.bl b) H) hr.hd (by have := hr.dp; show X.A.depth < _; omega) G.mem G.isg (fun b s' H' I' q' => ?_) xs.length 0 H4 s5 _ (G.st s5.gens G.bare) G.gen ⟨rfl, ?_⟩⟩
  · exact ⟨.bl b, H', G.inv.call' (ch := fp) I'.os I'.base I'.hok I'.bare fun b hb => ⟨(G.fpok b hb).2.2.2.1, (G.fpok b hb).2.1, (G.fpok b hb).2.2.2.2.1, (G.fpok b hb).2.2.2.2.2⟩, rfl, q'⟩
  · refine gen_start (A := X.A.in1.in1) (k := xs.length) hr.hd P.C.co G.hpg G.T (gl_of (c := false) (δ := δ) (Q := Q) T) (P.hg _ _ _ _ _ _ hrm) (P.ht _ _ _ _ _ _ hrm) (P.he _ _ _ _ _ _ hrm) ⟨m, h, xs, hc, r, sm, rx, rfl, Nat.le_refl _, q⟩ ?_
    exact G.st _ (allBare_setGen G.bare rfl)
theorem GW.ext {J : It} {H2 H4 : Hp} (w : GW X.K g own f ft fe c δ σ Q J H2) (e : LamX.ExtN H2 H4) (t : LamX.Tabs g.T H4) : GW X.K g own f ft fe c δ σ Q J H4 := by
  obtain ⟨C, vs, xs, m, h, T, hc, r, sm, rx, q⟩ := w
  obtain ⟨e1, s1⟩ := Ext_of sm e t
  exact ⟨C, vs, xs, m, h, T, T.st _ _ e1.im hc, e1.rs r, s1, e1.rds rx, Gd.from e1 q⟩
theorem GW.tabs {J : It} {H2 : Hp} (w : GW X.K g own f ft fe c δ σ Q J H2) : LamX.Tabs g.T H2 := by
  obtain ⟨C, vs, xs, m, h, T, hc, r, sm, rx, q⟩ := w
  exact sm.tab
end
section
variable {X : Cx} {g : Gc} {W : WX} {f : FG} {ft : FT} {fe fa : FE} {sl : List Nat} {elt tg iter : Expr} {ifs : List Expr} {scope : Scope} {own : List (Str × Nat)} {pos gpos p : Pos} {r : FA} {cc : Bool} {k : Nat} {c P : Addr}
theorem st_fin {m : Nat → Addr} {n : Nat} {H : Hp} {Q : VK} {o : Out Bool} {W : Value → Option Addr → Hp → Prop} (z : GoodE X.K g W m n H Q (stEnd o)) : GoodB X.K g m n H Q o := by
  cases o with
  | ok b h' => exact fun m' H' e s => z m' H' e s _ (.bl b)
  | err c p h' => exact z.elim
  | bad => exact z
theorem rd_st : ∀ σ H Q, rd X.K g W (eStG cc fa f ft fe sl) σ H Q → ∃ δ,
    ((iList X.K (rd X.K g W fa) σ H (GW X.K g sl f ft fe cc δ σ Q) ∨ iTup X.K (rd X.K g W fa) σ H (GW X.K g sl f ft fe cc δ σ Q)) ∨ iStr (rd X.K g W fa) σ H (GW X.K g sl f ft fe cc δ σ Q)) ∨ iKeys (rd X.K g W fa) σ H (GW X.K g sl f ft fe cc δ σ Q) := by
  rintro σ H Q ⟨δ, m, h, r, s, q⟩
  refine ⟨δ, ?_⟩
  have q : GoodE X.K g (fun c d H' => W c d σ H') m h.length H Q ((fa δ h).bind fun x h => stX cc f ft fe sl δ x h) := q
  cases ea : fa δ h with
  | bad => rw [ea] at q; exact q.elim
  | err c p h1 =>
    rw [ea] at q
    refine .inl (.inr ⟨δ, m, h, r, s, ?_⟩)
    rw [ea]
    exact q
  | ok d h1 =>
    have go : ∀ {R : V → Hp → Prop}, (∀ m1 H1 v, Ext m h.length H m1 h1.length H1 → Sim X.K g m1 h1 H1 → RD X.K m1 h1.length H1 d v → GoodE X.K g (fun c d H' => W c d σ H') m1 h1.length H1 Q (stX cc f ft fe sl δ d h1) → R v H1) → rd X.K g W fa σ H R := fun {R} hR => by
      refine ⟨δ, m, h, r, s, ?_⟩
      rw [ea] at q ⊢
      have q : GoodE X.K g (fun c d H' => W c d σ H') m h.length H Q (stX cc f ft fe sl δ d h1) := q
      exact fun m1 H1 e1 s1 v r1 => hR m1 H1 v e1 s1 r1 (Gd.from e1 q)
    cases d with
    | tup xs =>
      refine .inl (.inl (.inr (go fun m1 H1 v e1 s1 r1 q1 => ?_)))
      cases r1 with
      | tup h2 h3 => exact ⟨_, rfl, ⟨_, h2.sq⟩, _, _, _, m1, h1, tree_tup, h2, e1.rs r, s1, h3, st_fin q1⟩
    | fls xs =>
      refine .inl (.inl (.inl (go fun m1 H1 v e1 s1 r1 q1 => ?_)))
      cases r1 with
      | fls h2 h3 => exact ⟨_, rfl, ⟨_, h2.seq⟩, _, _, _, m1, h1, tree_fls, h2, e1.rs r, s1, h3, st_fin q1⟩
    | str l =>
      refine .inl (.inr (go fun m1 H1 v e1 s1 r1 q1 => ?_))
      cases r1 with
      | str h2 => exact ⟨_, rfl, _, _, _, m1, h1, tree_str, trivial, e1.rs r, s1, sign_rel h2, st_fin q1⟩
    | fdc ks vs =>
      refine .inr (go fun m1 H1 v e1 s1 r1 q1 => ?_)
      cases r1 with
      | fdc h1' h2 h3 h4 =>
        subst h2
        exact ⟨_, _, rfl, .inl ⟨_, h1', _, _, _, m1, h1, tree_keys, h1', e1.rs r, s1, keys_rel h3, st_fin q1⟩⟩
    | _ =>
      refine .inl (.inr (go fun m1 H1 v e1 s1 r1 q1 => ?_))
      exact q1.elim
theorem starG {A B : Sem Value} : True := trivial
/-- any(elt for tg in iter if ..) -/
theorem fe_anyG (hm : X.mg "any" = none) (TB : LamX.TabB X.base X.mg c P) (hcode : X.env.code = .ref c) (hmT : (P, X.env.qual ++ "<genexpr>") ∈ g.T) (hu : ∀ p ∈ g.T, p.1 = P → p.2 = X.env.qual ++ "<genexpr>") (hN : X.N.Nodup) (hr : Room (k + 1 + 1 + 1) X.A) (ha : PE X iter (rd X.K g W fa)) (G : GenP X g k elt tg ifs scope own f ft fe) (hsl : own.map (·.2) = sl := by rfl) (hgl : Gl X "any" := by rfl) (hs : ∀ v, genFold iter X.env v = pure v := by intro _; rfl)
    (he : starEach [.GeneratorExp elt [⟨tg, iter, ifs, 0⟩] scope gpos] X.env = (false, eval (.GeneratorExp elt [⟨tg, iter, ifs, 0⟩] scope gpos) X.env) :: starEach [] X.env := by rfl) :
    PE X (.Call (.Name "any" p) [.GeneratorExp elt [⟨tg, iter, ifs, 0⟩] scope gpos] [] pos) (rd X.K g W (eStG true fa f ft fe sl)) := by
  subst hsl
  refine ⟨fun pins s σ H Q I hh => ?_⟩
  obtain ⟨δ, hw⟩ := rd_st σ H Q hh
  refine wpAny_Call_Name_kw (ld_blt I hgl hm boot_any ?_)
  refine PyProof.Rows.callWith_builtin1 ?_ he (by rfl)
  rw [he]
  show wpAny _ _ (spliced ((false, eval (.GeneratorExp elt [⟨tg, iter, ifs, 0⟩] scope gpos) X.env) :: backTo pos (starEach [] X.env))) _ _ s
  refine Calls.spliced_cons (gx_make (A := X.A.in1.in1) (g := g) hr hN hr.hd I.ok.frames TB hcode hmT hu G.C G.h0 (pi_or (pi_or (pi_or (pi_list ha) (pi_tup ha)) (pi_str ha)) (pi_keys ha)) hs I hw (fun J H2 w => w.tabs) fun s4 H2 H4 fp it tn J a gn ob code s5 w e t GM => ?_)
  exact Calls.spliced_nil (gx_any hr G GM (w.ext e t))
theorem fe_allG (hm : X.mg "all" = none) (TB : LamX.TabB X.base X.mg c P) (hcode : X.env.code = .ref c) (hmT : (P, X.env.qual ++ "<genexpr>") ∈ g.T) (hu : ∀ p ∈ g.T, p.1 = P → p.2 = X.env.qual ++ "<genexpr>") (hN : X.N.Nodup) (hr : Room (k + 1 + 1 + 1) X.A) (ha : PE X iter (rd X.K g W fa)) (G : GenP X g k elt tg ifs scope own f ft fe) (hsl : own.map (·.2) = sl := by rfl) (hgl : Gl X "all" := by rfl) (hs : ∀ v, genFold iter X.env v = pure v := by intro _; rfl)
    (he : starEach [.GeneratorExp elt [⟨tg, iter, ifs, 0⟩] scope gpos] X.env = (false, eval (.GeneratorExp elt [⟨tg, iter, ifs, 0⟩] scope gpos) X.env) :: starEach [] X.env := by rfl) :
    PE X (.Call (.Name "all" p) [.GeneratorExp elt [⟨tg, iter, ifs, 0⟩] scope gpos] [] pos) (rd X.K g W (eStG false fa f ft fe sl)) := by
  subst hsl
  refine ⟨fun pins s σ H Q I hh => ?_⟩
  obtain ⟨δ, hw⟩ := rd_st σ H Q hh
  refine wpAny_Call_Name_kw (ld_blt I hgl hm (u := .builtin "all") (by decide +kernel) ?_)
  refine PyProof.Rows.callWith_builtin1 ?_ he (by rfl)
  rw [he]
  show wpAny _ _ (spliced ((false, eval (.GeneratorExp elt [⟨tg, iter, ifs, 0⟩] scope gpos) X.env) :: backTo pos (starEach [] X.env))) _ _ s
  refine Calls.spliced_cons (gx_make (A := X.A.in1.in1) (g := g) hr hN hr.hd I.ok.frames TB hcode hmT hu G.C G.h0 (pi_or (pi_or (pi_or (pi_list ha) (pi_tup ha)) (pi_str ha)) (pi_keys ha)) hs I hw (fun J H2 w => w.tabs) fun s4 H2 H4 fp it tn J a gn ob code s5 w e t GM => ?_)
  exact Calls.spliced_nil (gx_all hr G GM (w.ext e t))
end
end FL
set_option Elab.async false
set_option linter.all false
set_option maxRecDepth 100000
set_option maxHeartbeats 2000000
/-! FL30: sources that lay new tuples (enumerate); range with a step back; text * int; text.index; sorted of tuples and texts. -/
namespace FL
open PySem PySem.Spec PyProof.Rows L2
/-- an iterator whose items are told ahead, though each may be laid anew -/
structure SrcOk (K : PySem.W.Frag) (g : Gc) (J : It) (xs : List FL.D) (C : (Nat → Addr) → Nat → Hp → Prop) : Prop where
  st : ∀ {m m' : Nat → Addr} {n n' : Nat} {H H' : Hp}, n ≤ n' → (∀ k, k < n → m' k = m k) → Imm H H' → C m n H → C m' n' H'
  stop : ∀ m n H i, C m n H → xs.length ≤ i → J.stop i H
  item : ∀ m h H i x, Sim K g m h H → C m h.length H → xs[i]? = some x → J.go i H ∧ ∀ y H', J.yld i H y H' → Ext m h.length H m h.length H' ∧ Sim K g m h H' ∧ RD K m h.length H' x y
section
variable {X : Cx} {g : Gc} {W : WX} {f : FG} {ft : FT} {fe : FE} {own : List Nat} {δ : DS} {σ : L2.St} {D : Addr} {Q : VK}
theorem lc_src {J : It} {C : (Nat → Addr) → Nat → Hp → Prop} {xs : List FL.D} {m : Nat → Addr} {h : VH} {H : Hp} (S : SrcOk X.K g J xs C) (c0 : C m h.length H) (hD : H D = none) (r : RS X.K m h.length H δ σ) (s : Sim X.K g m h H)
    (q : FinL X.K g m h.length H Q (lcT f ft fe own δ xs h [])) : LcW X.K g own f ft fe J σ D (FzQ Q) H := by
  obtain ⟨i0, a0⟩ := Acc.new (D := D) s hD
  have ms : ∀ {m1 : Nat → Addr} {h1 : VH} {H1 : Hp} {m2 : Nat → Addr} {h2 : VH} {H2 : Hp}, h1.length ≤ h2.length → (∀ k, k < h1.length → m2 k = m1 k) → Imm H1 H2 → RS X.K m1 h1.length H1 δ σ → RS X.K m2 h2.length H2 δ σ := fun a b c r => ⟨r.1, fun i d hd => let ⟨v, h1, h2⟩ := r.2 i d hd; ⟨v, h1, RD.mono a b c _ _ h2⟩⟩
  refine ⟨fun i c H1 => ∃ m1 h1 acc, C m1 h1.length H1 ∧ RS X.K m1 h1.length H1 δ σ ∧ Acc X.K g m h.length H D m1 h1 H1 acc ∧ c = xs.length - i ∧ FinL X.K g m h.length H Q (lcT f ft fe own δ (xs.drop i) h1 acc), ⟨_, m, h, [], S.st (Nat.le_refl _) (fun _ _ => rfl) i0 c0, ms (Nat.le_refl _) (fun _ _ => rfl) i0 r, a0, rfl, by rw [List.drop_zero]; exact q⟩, ?_⟩
  rintro i c H1 ⟨m1, h1, acc, hc, r, a, rfl, q⟩
  cases hx : xs[i]? with
  | none =>
    have hl : xs.length ≤ i := List.getElem?_eq_none_iff.mp hx
    rw [List.drop_eq_nil_of_le hl] at q
    exact .inl ⟨S.stop _ _ H1 i hc hl, a.end hD q⟩
  | some x =>
    obtain ⟨hlt, ex⟩ := List.getElem?_eq_some_iff.mp hx
    rw [List.drop_eq_getElem_cons hlt, ex] at q
    obtain ⟨go, yl⟩ := S.item m1 h1 H1 i x a.sm hc hx
    refine .inr ⟨go, _, fun H' z => ⟨xs.length - (i + 1), by omega, z⟩, fun y H' hy => ?_⟩
    obtain ⟨e1, s1, rx⟩ := yl y H' hy
    have a1 := a.from e1 s1
    refine turn_ok hD a1 (e1.rs r) rx (go := lcT f ft fe own δ (xs.drop (i + 1))) q fun h2 m2 H2 acc2 e2 e3 e4 a2 q2 => ?_
    exact ⟨m2, h2, acc2, S.st e2 e3 (e1.im.trans e4) hc, ms e2 e3 e4 (e1.rs r), a2, rfl, q2⟩
theorem for_src {sb : FSt} {D : Ends} {J : It} {C : (Nat → Addr) → Nat → Hp → Prop} {xs : List FL.D} {m : Nat → Addr} {h : VH} {H : Hp} {δ : DS} {σ : L2.St} (S : SrcOk X.K g J xs C) (c0 : C m h.length H) (r : RS X.K m h.length H δ σ) (s : Sim X.K g m h H)
    (q : GoodS X.K g W m h.length H D (forT f sb xs δ h)) : ForW X.K g W own f sb D J σ H := by
  refine ⟨fun i k σ H => ∃ δ m h, C m h.length H ∧ RS X.K m h.length H δ σ ∧ Sim X.K g m h H ∧ k = xs.length - i ∧ GoodS X.K g W m h.length H D (forT f sb (xs.drop i) δ h), ⟨_, δ, m, h, c0, r, s, rfl, by rw [List.drop_zero]; exact q⟩, ?_⟩
  rintro i k σ H ⟨δ, m, h, c, r, s, rfl, q⟩
  cases hx : xs[i]? with
  | none =>
    have hl : xs.length ≤ i := List.getElem?_eq_none_iff.mp hx
    rw [List.drop_eq_nil_of_le hl] at q
    exact .inl ⟨S.stop _ _ H i c hl, q m H σ Ext.refl s r⟩
  | some x =>
    obtain ⟨hlt, ex⟩ := List.getElem?_eq_some_iff.mp hx
    rw [List.drop_eq_getElem_cons hlt, ex] at q
    obtain ⟨go, yl⟩ := S.item m h H i x s c hx
    refine .inr ⟨go, _, fun σ' H' z => ⟨xs.length - (i + 1), by omega, z⟩, fun y H' hy => ?_⟩
    obtain ⟨e0, s0, rx⟩ := yl y H' hy
    refine GoodS.tgt (e0.rs r) s0 rx (GoodS.from e0 q) fun δ1 h1 m1 H1 σ1 e1 s1 rr1 q1 => ?_
    refine ⟨δ1, m1, h1, rr1, s1, GoodS.loop q1 fun δ2 h2 m2 H2 σ2 e2 s2 rr2 q2 => ?_⟩
    have e := (e0.trans e1).trans e2
    exact ⟨δ2, m2, h2, S.st e.le e.eq e.im c, rr2, s2, rfl, q2⟩
end
/-! ### enumerate -/
/-- a text's signs, each in a new pair -/
def IteS (x : Str) : It := ⟨fun i _ => i < x.cps.size, fun i H v H' => ∃ (T : Addr) (o : Obj) (c : Nat), v = .ref T ∧ H T = none ∧ o.dict = none ∧ H' = upd H T (.frz o (.tup [.int (i : Nat), .str ⟨#[c]⟩])) ∧ x.cps[i]? = some c, fun i _ => x.cps.size ≤ i⟩
theorem turn_enumS {P : Program} {w : World} {K : PySem.W.Frag} {elts : List Expr} {kk : Nat} {tpos : Pos} (e it : Addr) (x : Str) (t : Tok) (ty : String) (hty : ty = "str_ascii_iterator" ∨ ty = "str_iterator") :
    Turn P w K (.Tuple elts kk tpos) (IteS x) [e, it] e (fun i h => (∃ old, IsEnum h e it ((i : Nat) : Int) old) ∧ h.IsStrIter it ty x t i ∧ e ≠ it) where
  mem := by simp
  obj := fun i h st b hb => by
    obtain ⟨⟨old, he⟩, ⟨o, ho, hc, hd⟩, _⟩ := st
    have e' : b = e ∨ b = it := by simpa using hb
    rcases e' with z | z
    · rw [z]; exact ⟨_, he, fun v q => nomatch q⟩
    · rw [z]; exact ⟨o, ho, fun v q => by rw [hd] at q; cases q⟩
  keep := fun i h h' st k => let ⟨⟨old, he⟩, ⟨o, ho, hc, hd⟩, hne⟩ := st; ⟨⟨old, k e (by simp) _ he⟩, ⟨o, k it (by simp) _ ho, hc, hd⟩, hne⟩
  item := by
    intro X hP hw hK hc i pins s σ H E I hf st hg
    subst hP hw hK
    obtain ⟨⟨old, he⟩, hit, hne⟩ := st
    have hg : i < x.cps.size := hg
    have D : Draws X.prog X.w X.A.in1 it [it] x.cps.size (fun i v => ∃ c u, x.cps[i]? = some c ∧ v = .str ⟨#[c]⟩ u) (fun i h => h.IsStrIter it ty x t i) := by
      rcases hty with z | z
      · rw [z]; exact Draws.strAscii (A := X.A.in1) (I.ok.hd hc) it x t
      · rw [z]; exact Draws.strWide (A := X.A.in1) (I.ok.hd hc) it x t
    have hel : e < s.heap.objs.size := Heap.lt_size he
    have hil : it < s.heap.objs.size := by obtain ⟨_, q, _⟩ := hit; exact Heap.lt_size q
    refine wpAny_pyNext_enum_itemD D he hit hg hne (by simpa using hne) fun v h' tk hv ho hit' hT hsz hk => ?_
    obtain ⟨c, u, hcx, rfl⟩ := hv
    refine ⟨_, rfl, wpAny_letOwnedTupleGo_enum (s := { s with heap := h', toks := tk + 1 }) ho fun h'' he' sb => ?_⟩
    have hT2 : h''.get? s.heap.objs.size = some { cls := .type "tuple", data := .seq #[.int i tk, .str ⟨#[c]⟩ u] } := (sb.2 _ (Nat.ne_of_gt hel)).trans hT
    have new : ObjOk X.prog X.w (upd H s.heap.objs.size (.frz { cls := .type "tuple", data := .seq #[.int i tk, .str ⟨#[c]⟩ u] } (.tup [.int (i : Nat), .str ⟨#[c]⟩]))) h'' s.heap.objs.size (.frz { cls := .type "tuple", data := .seq #[.int i tk, .str ⟨#[c]⟩ u] } (.tup [.int (i : Nat), .str ⟨#[c]⟩])) :=
      ⟨hT2, by show 2 ≤ sizeLine; decide, [.int i tk, .str ⟨#[c]⟩ u], .cons ⟨_, rfl⟩ (.cons ⟨_, rfl⟩ .nil), ⟨_, hT2, rfl, _, rfl⟩⟩
    have I1 := I.turnedNew (t' := tk + 1) (ch := [e, it]) (fun b ob hb q => (sb.2 b (fun z => hb (by simp [z]))).trans (hk b ob (fun z => hb (by simp [z])) (fun z => hb (by simp [z])) q)) hf (Nat.le_refl _) new
    refine ⟨.ref s.heap.objs.size, _, I1, rfl, ⟨_, _, c, rfl, I.hok.fresh (Nat.le_refl _), rfl, rfl, hcx⟩, ⟨⟨.str ⟨#[c]⟩ u, ?_⟩, ?_, hne⟩, fun b hb => ?_⟩
    · have e1 : ((i + 1 : Nat) : Int) = (i : Int) + 1 := by omega
      rw [e1]; exact he'
    · obtain ⟨o, q, r⟩ := hit'
      exact ⟨o, (sb.2 it (Ne.symm hne)).trans q, r⟩
    · have hb' : b < s.heap.objs.size := by
        have e' : b = e ∨ b = it := by simpa using hb
        rcases e' with z | z
        · rw [z]; exact hel
        · rw [z]; exact hil
      rw [upd_ne (Nat.ne_of_lt hb')]
      exact (hf b hb).1
  done := by
    intro X hP hw hK hc i pins s σ H E I hf st hg
    subst hP hw hK
    obtain ⟨⟨old, he⟩, hit, hne⟩ := st
    have hg : x.cps.size ≤ i := hg
    obtain ⟨f0, f1, f2, f3, f4, f5⟩ := hf it (by simp)
    have hx : x.cps[i]? = none := Array.getElem?_eq_none hg
    have D : Draws X.prog X.w X.A.in1 it [it] i (fun _ _ => False) (fun j h => h.IsStrIter it ty x t j ∧ j = i) := by
      refine ⟨fun j h st => let ⟨⟨o, ho, _⟩, _⟩ := st; ⟨o, ho⟩, fun j h h' st hk => let ⟨⟨o, ho, r⟩, e⟩ := st; ⟨⟨o, hk it (by simp) o ho, r⟩, e⟩, fun j s Q E hj st _ => absurd st.2 (Nat.ne_of_lt hj), fun s Q E st hE => ?_⟩
      rcases hty with z | z
      · have st1 := st.1
        rw [z] at st1
        exact wpAny_nextOf_ascii_end (A := X.A.in1) (I.ok.hd hc) st1 hx hE
      · have st1 := st.1
        rw [z] at st1
        exact wpAny_nextOf_wide_end (A := X.A.in1) (I.ok.hd hc) st1 hx hE
    exact wpAny_pyNext_enum_endD D he ⟨hit, rfl⟩ fun h' eb => ⟨rfl, I.turned (t' := s.toks) (fun b o hb q => eb b o hb q) f0 f1 f3 f4 f5⟩
  self := fun A i s Q E st h => let ⟨⟨_, he⟩, _⟩ := st; wpAny_pyIter_enum he h
def iEnumS (ta : TA) : TI := fun σ H R => ta σ H fun vs H1 => ∃ x, vs = [.str x] ∧ R (IteS x) H1
theorem pi_enumS {X : Cx} {e : Expr} {ta : TA} {p pos tpos : Pos} {elts : List Expr} {kk : Nat} (hg : Gl X "enumerate") (hm : X.mg "enumerate" = none) (ha : PA X [e] ta) (hs : starEach [e] X.env = [(false, eval e X.env)] := by rfl) :
    PI X (.Tuple elts kk tpos) (.Call (.Name "enumerate" p) [e] [] pos) (iEnumS ta) := by
  refine ⟨fun pins s σ H R I h => ?_⟩
  refine Call_ (ld_blt I hg hm boot_enumerate (PyProof.Rows.callWith_type1 (thn (ha.run pos pins s σ H _ I h) fun us s1 ⟨vs, H1, I1, r1, q1⟩ => ?_) hs rfl))
  obtain ⟨x, ex, q⟩ := q1
  subst ex
  cases r1 with
  | cons r rr =>
    cases rr
    obtain ⟨t, rfl⟩ := r
    refine call_enumerate_str fun h' he hit hsz hk => wpAny_pyIter_enum he ?_
    have I2 : Inv X pins σ H1 { s1 with heap := h' } := I1.kept (t' := s1.toks) hk
    have hty : strIterType x = "str_ascii_iterator" ∨ strIterType x = "str_iterator" := by
      unfold strIterType
      split
      · exact .inl rfl
      · exact .inr rfl
    refine ⟨s1.heap.objs.size + 1, [s1.heap.objs.size + 1, s1.heap.objs.size], _, _, H1, rfl, I2, turn_enumS (s1.heap.objs.size + 1) s1.heap.objs.size x t _ hty, ⟨⟨.none, he⟩, hit, Nat.succ_ne_self _⟩, fun b hb => ?_, q⟩
    have e' : b = s1.heap.objs.size + 1 ∨ b = s1.heap.objs.size := by simpa using hb
    have hle : s1.heap.objs.size ≤ b := by
      rcases e' with z | z
      · rw [z]; exact Nat.le_add_right _ _
      · rw [z]; exact Nat.le_refl _
    exact I1.fpOk hle (I1.hok.fresh hle)
/-- items with their places -/
def enumFrom : Nat → List FL.D → List FL.D
  | _, [] => []
  | k, x :: xs => .tup [.int (k : Nat), x] :: enumFrom (k + 1) xs
theorem enumFrom_len : ∀ (k : Nat) (xs : List FL.D), (enumFrom k xs).length = xs.length
  | _, [] => rfl
  | k, x :: xs => by simp [enumFrom, enumFrom_len (k + 1) xs]
theorem enumFrom_get : ∀ (k : Nat) (xs : List FL.D) (i : Nat), (enumFrom k xs)[i]? = (xs[i]?).map fun x => .tup [.int ((k + i : Nat) : Int), x]
  | k, [], i => by simp [enumFrom]
  | k, x :: xs, 0 => by simp [enumFrom]
  | k, x :: xs, i + 1 => by
    show (enumFrom (k + 1) xs)[i]? = _
    rw [enumFrom_get (k + 1) xs i, List.getElem?_cons_succ]
    congr 1
    funext x
    rw [show k + 1 + i = k + (i + 1) by omega]
theorem src_enumS {K : PySem.W.Frag} {g : Gc} {l : List Nat} (hl : okS l = true) : SrcOk K g (IteS ⟨l.toArray⟩) (enumFrom 0 (l.map fun c => .str [c])) (fun _ _ _ => True) where
  st := fun _ _ _ c => c
  stop := fun m n H i _ hi => by
    rw [enumFrom_len, List.length_map] at hi
    show (l.toArray).size ≤ i
    simpa using hi
  item := fun m h H i x sm _ hx => by
    rw [enumFrom_get, List.getElem?_map] at hx
    cases hli : l[i]? with
    | none => rw [hli] at hx; cases hx
    | some c =>
      rw [hli] at hx
      simp only [Option.map_some, Option.some.injEq, Nat.zero_add] at hx
      subst hx
      have hlt := (List.getElem?_eq_some_iff.mp hli).1
      refine ⟨by show i < (l.toArray).size; simpa using hlt, ?_⟩
      rintro y H' ⟨T, o, c', rfl, hT, ho, rfl, hc'⟩
      have e2 : l[i]? = some c' := by simpa using hc'
      rw [hli] at e2
      cases e2
      obtain ⟨e, s'⟩ := sm.tup (o := .frz o (.tup [.int (i : Nat), .str ⟨#[c]⟩])) hT
      refine ⟨e, s', .tup (.of upd_same ho) (.cons (.int _) (.cons (.str (l := [c]) (okS.sub hl fun z hz => ?_)) .nil))⟩
      rw [List.mem_singleton.mp hz]
      exact List.mem_of_getElem? hli
def enOf (x : FL.D) : Option (List FL.D) := match x with
  | .str s => some (enumFrom 0 (s.map fun c => .str [c]))
  | _ => none
def eLcE (a : FE) (g : FG) (t : FT) (e : FE) (own : List Nat) : FE := fun δ h => (a δ h).bind fun x h => match enOf x with
  | some xs => lcEnd (lcT g t e own δ xs h [])
  | none => .bad
section
variable {X : Cx} {g : Gc} {W : WX} {f : FG} {ft : FT} {fe fa : FE} {sl : List Nat} {elt iter : Expr} {elts : List Expr} {kk : Nat} {tpos : Pos} {ifs : List Expr} {scope : Scope} {own : List (Str × Nat)} {pos spos py : Pos} {r : FA}
theorem lc_fin {m : Nat → Addr} {n : Nat} {H : Hp} {Q : VK} {o : Out (List FL.D)} {W : Value → Option Addr → Hp → Prop} (z : GoodE X.K g W m n H Q (lcEnd o)) : FinL X.K g m n H Q o := by
  cases o with
  | ok xs h' => exact z
  | _ => exact z.elim
theorem rd_lcE : ∀ σ H Q, rd X.K g W (eLcE fa f ft fe sl) σ H Q → tLc (iEnumS (FL.ra X.K g W (aCons fa aNil))) (rg X.K g sl f) (rt X.K g W0 ft) (rd X.K g W0 fe) sl σ H (FzQ Q) := by
  rintro σ H Q ⟨δ, m, h, r, s, q⟩
  refine ⟨δ, m, h, r, s, ?_⟩
  have q : GoodE X.K g (fun c d H' => W c d σ H') m h.length H Q ((fa δ h).bind fun x h => match enOf x with
    | some xs => lcEnd (lcT f ft fe sl δ xs h [])
    | none => .bad) := q
  show Gd _ _ _ _ _ _ _ ((fa δ h).bind fun x h => (Out.ok ([] : List FL.D) h).bind fun xs h => Out.ok (x :: xs) h)
  cases ea : fa δ h with
  | bad => rw [ea] at q; exact q.elim
  | err c p h1 => rw [ea] at q; exact q
  | ok d h1 =>
    rw [ea] at q
    intro m1 H1 e1 s1 vs rv
    have q1 := Gd.from e1 q
    cases rv with
    | cons rv rr =>
      cases rr
      have q1 : GoodE X.K g (fun c d H' => W c d σ H') m1 h1.length H1 Q (match enOf d with
        | some xs => lcEnd (lcT f ft fe sl δ xs h1 [])
        | none => .bad) := q1
      cases rv with
      | str hl => exact ⟨_, rfl, fun D hD => lc_src (src_enumS hl) trivial hD (e1.rs r) s1 (lc_fin q1)⟩
      | _ => exact q1.elim
/-- [elt for k, x in enumerate(text) if ..] -/
theorem fe_lcE {p pos' : Pos} (hc : X.calm = true) (hN : X.N.Nodup) (hm : X.mg "enumerate" = none) (ha : PE X iter (rd X.K g W fa)) (P : LcP X g elt (.Tuple elts kk tpos) ifs scope own f ft fe) (hsl : own.map (·.2) = sl := by rfl) (hgl : Gl X "enumerate" := by rfl) (hst : starEach [iter] X.env = [(false, eval iter X.env)] := by rfl)
    (hs : ∀ x, foldedSetIterable (.Call (.Name "enumerate" p) [iter] [] pos') X.env x = pure x := by intro _; rfl) : PE X (.ListComp elt [⟨.Tuple elts kk tpos, .Call (.Name "enumerate" p) [iter] [] pos', ifs, 0⟩] scope pos) (rd X.K g W (eLcE fa f ft fe sl)) := by
  subst hsl
  exact pe_weak (pe_fz (pe_lc hc hN (pi_enumS hgl hm (fa_cons ha fa_nil hst) hst) P.ok P.hg P.ht P.he hs)) rd_lcE
theorem fs_setLcE {i : Nat} {y : Str} {p pos' : Pos} (hc : X.calm = true) (hN : X.N.Nodup) (hm : X.mg "enumerate" = none) (hy : X.N[i]? = some y) (hyl : X.env.scope.names.lookup y = some .local) (hsw : swapsWith (.ListComp elt [⟨.Tuple elts kk tpos, .Call (.Name "enumerate" p) [iter] [] pos', ifs, 0⟩] scope pos) (some (.Name y py)) spos.line X.env = pure true)
    (ha : PE X iter (rd X.K g W fa)) (P : LcP X g elt (.Tuple elts kk tpos) ifs scope own f ft fe) (hsl : own.map (·.2) = sl := by rfl) (hgl : Gl X "enumerate" := by rfl) (hst : starEach [iter] X.env = [(false, eval iter X.env)] := by rfl) (hs : ∀ x, foldedSetIterable (.Call (.Name "enumerate" p) [iter] [] pos') X.env x = pure x := by intro _; rfl) :
    PS X (.Assign [.Name y py] (.ListComp elt [⟨.Tuple elts kk tpos, .Call (.Name "enumerate" p) [iter] [] pos', ifs, 0⟩] scope pos) spos) (rs X.K g W (FL.sAs (eLcE fa f ft fe sl) (gN i))) := by
  subst hsl
  exact ps_weak (ps_fz (ps_setLc hc hN hy hyl hsw (pi_enumS hgl hm (fa_cons ha fa_nil hst) hst) P.ok P.hg P.ht P.he hs)) (fun D σ H q => rs_set (te := fun σ H Q => tLc _ _ _ _ _ σ H (FzQ Q)) rd_lcE D σ H q)
end
/-! ### range(i, j, -1) -/
def rngB (i j : Int) : List FL.D := (List.range (i - j).toNat).map fun (k : Nat) => FL.D.int (i - k)
def rEnds3 : List FL.D → Option (Int × Int)
  | [.int i, .int j, .int c] => if okR i j = true ∧ c = -1 then some (i, j) else none
  | _ => none
def sForR3 (r : FA) (g : FG) (b : FSt) : FSt := fun δ h => thenS δ (r δ h) fun xs h => match rEnds3 xs with
  | some (i, j) => forT g b (rngB i j) δ h
  | none => .bad
theorem tree_rngB {lo : Int} {n : Nat} : TreeIt (Itc lo (-1) n) (fun _ => True) ((List.range n).map fun (j : Nat) => V.int (lo - j)) where
  go := fun i H x c e => by
    have : i < ((List.range n).map fun (j : Nat) => V.int (lo - j)).length := (List.getElem?_eq_some_iff.mp e).1
    simpa [Itc] using this
  yld := fun i H x H' y c h e => by
    obtain ⟨h1, h2⟩ := h
    refine ⟨h1, ?_⟩
    obtain ⟨hl, he⟩ := List.getElem?_eq_some_iff.mp e
    rw [h2, ← he]
    simp
    omega
  stop := fun i H c e => by simpa [Itc] using e
  st := fun _ _ _ c => c
theorem rngB_rel {K : PySem.W.Frag} {m : Nat → Addr} {n : Nat} {H : Hp} (lo : Int) (k : Nat) : RDs K m n H ((List.range k).map fun (j : Nat) => FL.D.int (lo - j)) ((List.range k).map fun (j : Nat) => V.int (lo - j)) := by
  have : ∀ l : List Nat, RDs K m n H (l.map fun (j : Nat) => FL.D.int (lo - j)) (l.map fun (j : Nat) => V.int (lo - j)) := by
    intro l
    induction l with
    | nil => exact .nil
    | cons x l ih => exact .cons (.int _) ih
  exact this _
section
variable {X : Cx} {g : Gc} {W : WX} {sb : FSt} {f : FG} {own : List Nat} {D : Ends} {tg : Expr} {body : List Stmt} {pos : Pos} {r : FA} {a b c : Expr}
theorem fs_forR3 {p pos' : Pos} (hp : PassesOwn (model X.prog X.w) X.A X.env X.xe) (hc : X.calm = true) (hm : X.mg "range" = none) (ha : PA X [a, b, c] (FL.ra X.K g W r)) (hg : PG X tg (rg X.K g own f)) (hb : PSs X body (rs X.K g W sb))
    (hgl : Gl X "range" := by rfl) (hst : starEach [a, b, c] X.env = (false, eval a X.env) :: starEach [b, c] X.env := by rfl) (hpl : (backTo pos' (starEach [b, c] X.env)).any (·.1) = false := by rfl) (hs : ∀ x, foldedSetIterable (.Call (.Name "range" p) [a, b, c] [] pos') X.env x = pure x := by intro _; rfl) :
    PS X (.For tg (.Call (.Name "range" p) [a, b, c] [] pos') body [] pos) (rs X.K g W (sForR3 r f sb)) := ps_weak (ps_for hp hc (pi_range3 hgl hm ha hst hpl) hg hb hs) (by
  rintro D σ H ⟨δ, m, h, rr, s, q⟩
  have q : GoodS X.K g W m h.length H D (thenS δ (r δ h) fun xs h => match rEnds3 xs with
    | some (i, j) => forT f sb (rngB i j) δ h
    | none => .bad) := q
  refine ⟨δ, m, h, rr, s, ?_⟩
  cases er : r δ h with
  | bad => rw [er] at q; exact q
  | err c p h1 =>
    rw [er] at q
    exact GoodS.thn (P := fun _ _ _ _ => True) rr q (fun _ _ _ _ _ _ _ => trivial)
  | ok xs h1 =>
    rw [er] at q
    intro m1 H1 e1 s1 vs r1
    have q : GoodS X.K g W m h.length H D (match rEnds3 xs with
      | some (i, j) => forT f sb (rngB i j) δ h1
      | none => .bad) := q
    cases ee : rEnds3 xs with
    | none => rw [ee] at q; exact q.elim
    | some ij =>
      obtain ⟨i, j⟩ := ij
      rw [ee] at q
      have q2 : GoodS X.K g W m1 h1.length H1 D (forT f sb (rngB i j) δ h1) := q.from e1
      clear q
      unfold rEnds3 at ee
      split at ee
      · rename_i i' j' c'
        split at ee
        · rename_i ho
          cases ee
          obtain ⟨ho, rfl⟩ := ho
          unfold okR at ho
          have ho := of_decide_eq_true ho
          cases r1 with
          | cons a1 r1 =>
            cases r1 with
            | cons a2 r1 =>
              cases r1 with
              | cons a3 r1 =>
                cases r1
                cases a1
                cases a2
                cases a3
                exact ⟨i, j, -1, _, rfl, .neg (by omega) (by omega) (by omega) (by omega), for_tree tree_rngB trivial (e1.rs rr) s1 (rngB_rel i _) q2⟩
        · cases ee
      · cases ee)
end
/-! ### text * int -/
def oMulS : Op2
  | .str a, .int k, h => if 0 < k ∧ k < 16777216 ∧ a.length * k.toNat ≤ 16777216 then some (.str (List.replicate k.toNat a).flatten, h) else none
  | x, y, h => oMul x y h
theorem foldl_app {α : Type} : ∀ (l : List (Array α)) (b : Array α), (l.foldl (· ++ ·) b).toList = b.toList ++ (l.map (·.toList)).flatten
  | [], b => by simp
  | a :: l, b => by rw [List.foldl_cons, foldl_app l (b ++ a)]; simp
theorem or_mulS {X : Cx} {g : Gc} : OpR X (binaryOp .Mult) (rO2 X.K g oMulS) := by
  intro pins s σ H x y v u Q I rx ry q
  obtain ⟨m, h, dx, dy, sm, r1, r2, q⟩ := q
  have other : (∀ a k, dx = .str a → dy = .int k → False) → wpAny (model X.prog X.w) X.A (binaryOp .Mult v u) (EP X pins σ Q) X.xe s := fun hn => by
    refine or_mul pins s σ H x y v u Q I rx ry ⟨m, h, dx, dy, sm, r1, r2, ?_⟩
    have e : oMulS dx dy h = oMul dx dy h := by
      unfold oMulS
      split
      · exact (hn _ _ rfl rfl).elim
      · rfl
    rw [← e]
    exact q
  cases r1 with
  | str hl =>
    cases r2 with
    | int k =>
      rename_i a
      obtain ⟨t, rfl⟩ := rx
      obtain ⟨t', rfl⟩ := ry
      have q : GoodO X.K g m h.length H Q (if 0 < k ∧ k < 16777216 ∧ a.length * k.toNat ≤ 16777216 then some (.str (List.replicate k.toNat a).flatten, h) else none) := q
      split at q
      · rename_i hk
        obtain ⟨k0, k1, k2⟩ := hk
        have hlen : Str.length ⟨a.toArray⟩ = a.length := str_len a
        have hkn : (k.toNat : Int) = k := Int.toNat_of_nonneg (by omega)
        have fin : ∀ (z : Str) (tz : Tok) (tk : Nat), z.cps.toList = (List.replicate k.toNat a).flatten → EP X pins σ Q (.str z tz) { s with toks := tk } := fun z tz tk hz => by
          refine ⟨.str z, H, I.tok tk, ⟨tz, rfl⟩, q m H _ Ext.refl sm ?_⟩
          rw [str_of hz]
          refine .str (okS.sub hl fun c hc => ?_)
          obtain ⟨l', hl', hc'⟩ := List.mem_flatten.mp hc
          rw [(List.mem_replicate.mp hl').2] at hc'
          exact hc'
        refine PySem.P.mul_str (by
          have h1 : ¬ k < -(2 ^ 63 : Int) := by omega
          have h2 : ¬ k ≥ 2 ^ 63 := by omega
          rw [decide_eq_false h1, decide_eq_false h2]; rfl) (fun _ _ z => ?_) (fun _ _ => ?_) ?_
        · rw [hlen] at z
          have h3 : ((a.length * k.toNat : Nat) : Int) ≤ 16777216 := Int.ofNat_le.mpr k2
          rw [Int.natCast_mul, hkn] at h3
          have h4 : k * ((2 ^ 63 - 1) / k) + (2 ^ 63 - 1) % k = 2 ^ 63 - 1 := Int.mul_ediv_add_emod _ _
          have h5 : (2 ^ 63 - 1 : Int) % k < k := Int.emod_lt_of_pos _ k0
          have h6 : k * ((2 ^ 63 - 1) / k + 1) ≤ k * a.length := Int.mul_le_mul_of_nonneg_left (by omega) (by omega)
          rw [Int.mul_add, Int.mul_one] at h6
          have h7 : k * (a.length : Int) = a.length * k := Int.mul_comm _ _
          omega
        · have : Builtin.Str.tooLong (Str.length ⟨a.toArray⟩ * k.toNat) = decide (sizeLine < Str.length ⟨a.toArray⟩ * k.toNat) := rfl
          rw [this, hlen, sizeLine_eq]
          exact decide_eq_false (by omega)
        · rw [if_neg (by omega)]
          split
          · rename_i hc
            refine fin _ _ s.toks ?_
            rw [Bool.or_eq_true, beq_iff_eq, beq_iff_eq] at hc
            rcases hc with hc | hc
            · rw [hc]
              exact (List.append_nil a).symm
            · rw [hlen] at hc
              have ha : a = [] := List.eq_nil_of_length_eq_zero hc
              subst ha
              have e0 : ∀ n : Nat, (List.replicate n ([] : List Nat)).flatten = [] := fun n => by
                induction n with
                | zero => rfl
                | succ n ih => exact ih
              exact (e0 _).symm
          · refine ⟨?_, fin _ _ _ ?_⟩
            · show Str.length _ ≤ sizeLine
              rw [sizeLine_eq]
              have : (((List.replicate k.toNat a.toArray).foldl (· ++ ·) #[]).toList).length ≤ 16777216 := by
                rw [foldl_app]
                simp
                rw [Nat.mul_comm]
                exact k2
              rw [Array.length_toList] at this
              exact this
            · show ((List.replicate k.toNat a.toArray).foldl (· ++ ·) #[]).toList = _
              rw [foldl_app]
              simp
      · exact q.elim
    | _ => exact other fun _ _ _ e => by cases e
  | _ => exact other fun _ _ e _ => by cases e
end FL
set_option Elab.async false
set_option linter.all false
set_option maxRecDepth 100000
set_option maxHeartbeats 2000000
/-! FL31: text.index(sign); sorted of tuples and texts. -/
namespace FL
open PySem PySem.Spec PyProof.Rows L2
/-- text.index of one sign -/
def mIndexS : FL.D → List FL.D → VH → Option (FL.D × VH)
  | .str a, [.str [c]], h => match a.findIdx? (fun z => decide (z = c)) with
    | some j => some (.int (j : Nat), h)
    | none => none
  | _, _, _ => none
theorem at_sign {a : List Nat} {c i : Nat} : StrLaws.At ⟨a.toArray⟩ ⟨[c].toArray⟩ (Str.length ⟨a.toArray⟩) i ↔ a[i]? = some c := by
  unfold StrLaws.At Builtin.Str.subAt
  rw [str_len, str_len]
  constructor
  · rintro ⟨h1, h2⟩
    have hi : i < a.length := by simp at h1; omega
    have h2 : (a.toArray.extract i (i + 1) == [c].toArray) = true := h2
    have h3 := congrArg Array.toList (beq_iff_eq.mp h2)
    rw [Array.toList_extract] at h3
    simp only [List.extract_eq_take_drop, Nat.add_sub_cancel_left] at h3
    have h4 : (List.take 1 (List.drop i a))[0]? = some c := by rw [h3] <;> rfl
    rw [List.getElem?_take_of_lt (by omega), List.getElem?_drop, Nat.add_zero] at h4
    exact h4
  · intro h
    obtain ⟨hi, e⟩ := List.getElem?_eq_some_iff.mp h
    refine ⟨by simp; omega, ?_⟩
    show (a.toArray.extract i (i + 1) == [c].toArray) = true
    rw [beq_iff_eq]
    apply Array.ext'
    rw [Array.toList_extract]
    simp only [List.extract_eq_take_drop, Nat.add_sub_cancel_left]
    rw [List.drop_eq_getElem_cons hi, e]
    simp
theorem mr_indexS {X : Cx} {g : Gc} : MtR X "str.index" (rM X.K g mIndexS) := mtr_weak (X := X) (id := "str.index") mt_sindex (by
  rintro x xs H Q ⟨m, h, d, ds, sm, r, rs, q⟩
  unfold mIndexS at q
  split at q
  case h_2 => exact q.elim
  rename_i a c
  obtain ⟨v, rfl, r1⟩ := rds1 rs
  cases r with
  | str hl =>
    cases r1 with
    | str hc =>
      cases hf : a.findIdx? (fun z => decide (z = c)) with
      | none => rw [hf] at q; exact q.elim
      | some j =>
        rw [hf] at q
        obtain ⟨hj, h1, h2⟩ := List.findIdx?_eq_some_iff_getElem.mp hf
        have h1 : a[j] = c := of_decide_eq_true h1
        have aj : StrLaws.At ⟨a.toArray⟩ ⟨[c].toArray⟩ (Str.length ⟨a.toArray⟩) j := at_sign.mpr (by rw [List.getElem?_eq_getElem hj, h1])
        rcases StrLaws.occ_head ⟨a.toArray⟩ ⟨[c].toArray⟩ 1 (Nat.le_refl _) with ⟨_, hn⟩ | ⟨i, rest, ho, hi, hn⟩
        · exact absurd aj (hn j)
        · have hi' := at_sign.mp hi
          obtain ⟨hil, ei⟩ := List.getElem?_eq_some_iff.mp hi'
          have hij : i = j := by
            rcases Nat.lt_trichotomy i j with z | z | z
            · have := h2 i z
              rw [ei] at this
              simp at this
            · exact z
            · exact absurd aj (hn j z)
          subst hij
          exact ⟨_, _, i, rest, rfl, rfl, ho, q m H _ Ext.refl sm (.int _)⟩)
def itemsOfX (x : FL.D) (h : VH) : Option (List FL.D) := match x with
  | .tup xs => some xs
  | .str s => if s.length ≤ 16777216 then some (s.map fun c => .str [c]) else none
  | x => itemsOf x h
def bSort2 : List FL.D → VH → Option (FL.D × VH)
  | [x], h => match itemsOfX x h with
    | some xs => match allS (xs.map (toP deep h)) with
      | some l => if (alikes l && sortable l) = true then some (.fls (sortD (xs.zip l)), h) else none
      | none => none
    | none => none
  | _, _ => none
section
variable {X : Cx} {g : Gc}
theorem each_push {h' : Heap} (ob : Obj) {us : List Value} {bs : List (FL.D × PyData)} (er : PySem.W.EachIs (fun v (b : FL.D × PyData) => ∃ as, Reads h' v b.2 as) us bs) : PySem.W.EachIs (fun v (b : FL.D × PyData) => ∃ as, Reads (h'.push ob) v b.2 as ∧ h'.objs.size ∉ as) us bs := by
  induction er with
  | nil => exact .nil
  | cons h1 h2 ih =>
    obtain ⟨as, ra⟩ := h1
    refine .cons ⟨as, PyProof.Rows.Reads.keeps (fun b o e => Heap.get?_push_of_some _ e) ra, fun z => ?_⟩ ih
    obtain ⟨o, e⟩ := PyProof.On.reads_mem_get ra _ z
    exact absurd (Heap.lt_size e) (Nat.lt_irrefl _)
/-- the items collected, then sorted -/
theorem sorted_items {m : Nat → Addr} {h : VH} {H : Hp} {pins : List (Addr × Obj)} {σ : L2.St} {s : Shared} {Q : VK} {xs : List FL.D} {l : List PyData} {ws : List V} {u : Value} (hc : X.calm = true) (hu : X.A.units + 64 < cLine) (I : Inv X pins σ H s) (sm : Sim X.K g m h H)
    (hl : allS (xs.map (toP deep h)) = some l) (ha : alikes l = true) (hs : sortable l = true) (rx : RDs X.K m h.length H xs ws) (hz : ws.length ≤ sizeLine)
    (q : GoodO X.K g m h.length H Q (some (.fls (sortD (xs.zip l)), h)))
    (hcol : ∀ (P : List Value → Shared → Prop) (E : Value → Shared → Prop), (∀ its h' tk, Vals ws its → (∀ b o, s.heap.get? b = some o → h'.get? b = some o) → P its { s with heap := h', toks := tk }) → wpAny (model X.prog X.w) X.A.in1 (collect u) P E s) :
    wpAny (model X.prog X.w) X.A (call (.builtin "sorted") [u]) (EP X pins σ Q) X.xe s := by
  have ll := allS_len hl
  have zl : (xs.zip l).length = xs.length := by rw [List.length_zip, ll, Nat.min_self]
  refine Calls.call_function_entry PyProof.Rows.kind_sorted PyProof.Rows.plain_sorted PyProof.Rows.entry_sorted (PyProof.Rows.args_sorted1 _) ?_
  unfold Builtin.«sorted»
  refine wpAny_bind (m := checkCount "sorted" 1 1 _) (wpAny_pure ?_)
  refine wpAny_bind (hcol _ _ fun its h' tk rv hk => ?_)
  have hlen := rv.length
  have I1 : Inv X pins σ H { s with heap := h', toks := tk } := I.kept hk
  refine wpAny_bind (wpAny_newList ?_ (by rw [← hlen]; exact hz))
  have hoL : (h'.push (seqObj "list" its.toArray 0)).get? h'.objs.size = some (seqObj "list" its.toArray 0) := Heap.get?_push_size _ rfl
  show wpAny _ _ _ _ _ { s with heap := h'.push (seqObj "list" its.toArray 0), toks := tk }
  have I2 : Inv X pins σ H { s with heap := h'.push (seqObj "list" its.toArray 0), toks := tk } := I.kept fun b o e => Heap.get?_push_of_some _ (hk b o e)
  obtain ⟨er, dp⟩ := each_read I1 sm rx rv hl
  have nA : H h'.objs.size = none := I1.hok.fresh (Nat.le_refl _)
  have er2 := each_push (seqObj "list" its.toArray 0) er
  have al : PySem.W.AllAlike ((xs.zip l).map (·.2)) := by rw [zip_snd ll]; exact alikes_all ha
  have so : PySem.W.Sortable ((xs.zip l).map (·.2)) := by rw [zip_snd ll]; exact sortable_of hs
  have hZ : (xs.zip l).length ≤ sizeLine := by rw [zl, rx.length]; exact hz
  refine wpAny_bind (wpAny_holding (PySem.W.list_sort_data (s := { s with heap := h'.push (seqObj "list" its.toArray 0), toks := tk }) (bs := xs.zip l) (enc := (·.2)) (R := StD X.K m h.length H) hoL (each_std rx rv ll) er2 al so hZ (fun b hb => ?_) fun out ho e => ?_))
  · have := dp b hb
    have : deep = 12 := rfl
    show X.A.units + 1 + 1 + b.2.depth < cLine
    omega
  · obtain ⟨e', he'⟩ := PyProof.Rows.sortedHeap_at (vs := its) (out := out.toArray) hoL
    refine wpAny_pure ?_
    have hk2 : ∀ b o, h'.get? b = some o → (sortedHeap (h'.push (seqObj "list" its.toArray 0)) h'.objs.size its out.toArray).get? b = some o := fun b o e1 => by
      have hb : b < h'.objs.size := Heap.lt_size e1
      rw [PyProof.Rows.sortedHeap_old (Nat.ne_of_lt hb) (by rw [size_push']; exact Nat.lt_succ_of_lt hb)]
      exact Heap.get?_push_of_some _ e1
    obtain ⟨ys, h1, h2⟩ := sort_rds e
    refine ⟨_, rfl, ep_fz ⟨.ref h'.objs.size, upd H h'.objs.size (.lst ys), I1.laid (t' := tk) hk2 (Nat.le_refl _) ⟨by rw [h1.length, ho]; exact hZ, out, e', h1, he'⟩, rfl, sm.fls nA h2 q⟩⟩
theorem vals_signs : ∀ {l : List Nat} {acc : List Value}, acc.length = l.length → (∀ (j : Nat) (v : Value), acc[j]? = some v → ∃ (c : Nat) (t : Tok), l[j]? = some c ∧ v = Value.str ⟨#[c]⟩ t) → Vals (l.map fun c => V.str ⟨#[c]⟩) acc
  | [], [], _, _ => .nil
  | [], _ :: _, h, _ => by simp at h
  | _ :: _, [], h, _ => by simp at h
  | c :: l, v :: acc, h, k => by
    obtain ⟨c', t, e1, e2⟩ := k 0 v (by simp)
    simp at e1
    subst e1
    refine .cons ⟨t, e2⟩ (vals_signs (by simpa using h) fun j v hv => ?_)
    obtain ⟨c2, t2, e3, e4⟩ := k (j + 1) v (by simpa using hv)
    exact ⟨c2, t2, by simpa using e3, e4⟩
theorem cr_sort2 (hc : X.calm = true) (hu : X.A.units + 64 < cLine) : CallR X (.builtin "sorted") (rB X.K g bSort2) := by
  rintro pins s σ H vs us Q I r ⟨m, h, ds, sm, rs, q⟩
  have old : bSort2 ds h = bSorted ds h → wpAny (model X.prog X.w) X.A (call (.builtin "sorted") us) (EP X pins σ Q) X.xe s := fun e => by
    rw [e] at q
    exact cr_sorted hc hu pins s σ H vs us Q I r ⟨m, h, ds, sm, rs, q⟩
  match ds, rs, q, old with
  | [], _, q, _ => exact q.elim
  | _ :: _ :: _, _, q, _ => exact q.elim
  | [x], rs, q, old =>
    obtain ⟨v, rfl, r1⟩ := rds1 rs
    obtain ⟨u, rfl, ru⟩ := vals1 r
    have go : ∀ {xs : List FL.D}, itemsOfX x h = some xs → ∃ l, allS (xs.map (toP deep h)) = some l ∧ alikes l = true ∧ sortable l = true ∧ GoodO X.K g m h.length H Q (some (.fls (sortD (xs.zip l)), h)) := fun {xs} e => by
      have q : GoodO X.K g m h.length H Q (match itemsOfX x h with
        | some xs => match allS (xs.map (toP deep h)) with
          | some l => if (alikes l && sortable l) = true then some (.fls (sortD (xs.zip l)), h) else none
          | none => none
        | none => none) := q
      rw [e] at q
      dsimp only at q
      cases hl : allS (xs.map (toP deep h)) with
      | none => rw [hl] at q; exact q.elim
      | some l =>
        rw [hl] at q
        dsimp only at q
        split at q
        · rename_i hc2
          rw [Bool.and_eq_true] at hc2
          exact ⟨l, rfl, hc2.1, hc2.2, q⟩
        · exact q.elim
    cases r1 with
    | @tup a xs ws h1 h2 =>
      obtain ⟨l, hl, ha, hs, q⟩ := go (xs := xs) rfl
      obtain rfl : u = Value.ref a := ru
      obtain ⟨its, rv, hT, hz⟩ := I.tuple h1.sq
      refine sorted_items hc hu I sm hl ha hs h2 hz q fun P E hP => ?_
      obtain ⟨o, ho, hcl, n, hd⟩ := hT
      refine wpAny_collect_seq a (.inr rfl) ho hcl hd (fun h' hk => ?_) (by
        have := rv.length
        simp only [List.size_toArray]
        omega)
      exact hP _ h' s.toks rv hk
    | @str z hl0 =>
      by_cases hz : z.length ≤ 16777216
      · obtain ⟨l, hl, ha, hs, q⟩ := go (xs := z.map fun c => .str [c]) (by simp only [itemsOfX, hz, if_true])
        obtain ⟨t, rfl⟩ := ru
        have hcs : Array.size (Str.cps ⟨z.toArray⟩) = z.length := by simp
        refine sorted_items hc hu I sm hl ha hs (sign_rel hl0) (by rw [List.length_map, sizeLine_eq]; exact hz) q fun P E hP => ?_
        refine wpAny_collect_str (A := X.A.in1) (I.ok.hd hc) _ t (fun s' acc k1 k2 k3 k4 k5 => ?_) (by rw [hcs, sizeLine_eq]; exact hz)
        obtain ⟨hp', gn', dr', tk', os'⟩ := s'
        obtain rfl : gn' = s.gens := k2
        obtain rfl : dr' = s.drawn := k3
        obtain rfl : os' = s.os := k4
        refine hP _ hp' tk' (vals_signs (by rw [Array.length_toList, k5.1, hcs]) fun j v hv => ?_) k1
        rw [Array.getElem?_toList] at hv
        obtain ⟨c, u, h1, h2⟩ := k5.2 j v hv
        exact ⟨c, u, by simpa using h1, h2⟩
      · have q : GoodO X.K g m h.length H Q (match (if z.length ≤ 16777216 then some (z.map fun c => FL.D.str [c]) else none) with
          | some xs => match allS (xs.map (toP deep h)) with
            | some l => if (alikes l && sortable l) = true then some (.fls (sortD (xs.zip l)), h) else none
            | none => none
          | none => none) := q
        rw [if_neg hz] at q
        exact q.elim
    | _ => exact old rfl
end
end FL
set_option Elab.async false
set_option linter.all false
set_option maxRecDepth 100000
set_option maxHeartbeats 2000000
/-! FL32: how the newer functions are worked out. Plain. -/
namespace FL
open PySem
section
variable {h h1 : VH} {δ : DS} {own : List Nat} {c : Bool} {g : FG} {t : FT} {e : FE}
@[simp] theorem cIn_cs {x : Nat} {z : List Nat} : cIn (.str [x]) (.str z) h = some (.bl (decide (x ∈ z)), h) := (rfl)
@[simp] theorem cNin_cs {x : Nat} {z : List Nat} : cNin (.str [x]) (.str z) h = some (.bl (!decide (x ∈ z)), h) := (rfl)
theorem cIn_sT {a : List Nat} {l : List (List Nat)} : cIn (.str a) (.tup (l.map D.str)) h = some (.bl (decide (a ∈ l)), h) := by
  unfold cIn
  rw [inD_strT]
theorem inD_strF {a : List Nat} {l : List (List Nat)} : inD (.str a) (.fls (l.map D.str)) h = some (decide (a ∈ l)) := by
  have e : inD (.str a) (.fls (l.map D.str)) h = (match toP deep h (.str a), allS ((l.map D.str).map (toP deep h)) with
    | some a, some l => some (l.any fun z => PyData.eqv z a)
    | _, _ => none) := by
    unfold inD
    split
    · rename_i heq; cases heq
    · rename_i heq; cases heq
    · rename_i heq; cases heq; rfl
    · rename_i heq; cases heq
    · rename_i heq; cases heq
    · rename_i h1 h2 h3 h4 h5; exact (h2 _ rfl).elim
  rw [e, show deep = 11 + 1 from rfl, toP_str, toPs_str]
  exact congrArg some (any_strs l a)
theorem cIn_sF {a : List Nat} {l : List (List Nat)} : cIn (.str a) (.fls (l.map D.str)) h = some (.bl (decide (a ∈ l)), h) := by
  unfold cIn
  rw [inD_strF]
theorem cNin_sT {a : List Nat} {l : List (List Nat)} : cNin (.str a) (.tup (l.map D.str)) h = some (.bl (!decide (a ∈ l)), h) := by
  unfold cNin
  rw [inD_strT]
theorem cNin_sF {a : List Nat} {l : List (List Nat)} : cNin (.str a) (.fls (l.map D.str)) h = some (.bl (!decide (a ∈ l)), h) := by
  unfold cNin
  rw [inD_strF]
/-! ### generator expressions -/
theorem stT_all {α : Type} (en : α → D) (p : α → Bool) : ∀ (xs : List α), (∀ x ∈ xs, ∃ δ1, g (en x) (wipe δ own) h = some (δ1, h) ∧ t δ1 h = .ok true h ∧ e δ1 h = .ok (.bl (p x)) h) → stT false g t e own δ (xs.map en) h = .ok (xs.all p) h
  | [], _ => rfl
  | x :: xs, H => by
    obtain ⟨δ1, e1, e2, e3⟩ := H x List.mem_cons_self
    rw [List.map_cons]
    unfold stT
    simp only [e1, e2, e3]
    cases hp : p x with
    | false => simp [hp]
    | true => simp [hp, stT_all en p xs fun y hy => H y (List.mem_cons_of_mem _ hy)]
theorem stT_any {α : Type} (en : α → D) (p : α → Bool) : ∀ (xs : List α), (∀ x ∈ xs, ∃ δ1, g (en x) (wipe δ own) h = some (δ1, h) ∧ t δ1 h = .ok true h ∧ e δ1 h = .ok (.bl (p x)) h) → stT true g t e own δ (xs.map en) h = .ok (xs.any p) h
  | [], _ => rfl
  | x :: xs, H => by
    obtain ⟨δ1, e1, e2, e3⟩ := H x List.mem_cons_self
    rw [List.map_cons]
    unfold stT
    simp only [e1, e2, e3]
    cases hp : p x with
    | true => simp [hp]
    | false => simp [hp, stT_any en p xs fun y hy => H y (List.mem_cons_of_mem _ hy)]
@[simp] theorem ap_eStG {a : FE} : eStG c a g t e own δ h = (a δ h).bind fun x h => stX c g t e own δ x h := (rfl)
@[simp] theorem stX_str {s : List Nat} : stX c g t e own δ (.str s) h = stEnd (stT c g t e own δ (s.map fun c => .str [c]) h) := (rfl)
@[simp] theorem stX_tup {xs : List D} : stX c g t e own δ (.tup xs) h = stEnd (stT c g t e own δ xs h) := (rfl)
@[simp] theorem stX_fls {xs : List D} : stX c g t e own δ (.fls xs) h = stEnd (stT c g t e own δ xs h) := (rfl)
@[simp] theorem stX_fdc {xs ys : List D} : stX c g t e own δ (.fdc xs ys) h = stEnd (stT c g t e own δ xs h) := (rfl)
@[simp] theorem stEnd_ok {b : Bool} : stEnd (.ok b h) = .ok (.bl b) h := (rfl)
/-! ### loops by place -/
theorem forT_ix {α : Type} {g : FG} {b : FSt} (en : α → D) (xs : List α) (I : Nat → DS → VH → Prop) {δ : DS} {h : VH} (h0 : I 0 δ h) (turn : ∀ k x δ h, xs[k]? = some x → I k δ h → ∃ δ1 h1, g (en x) δ h = some (δ1, h1) ∧ OkT (I (k + 1)) (b δ1 h1)) : OkS (I xs.length) (forT g b (xs.map en) δ h) := by
  have key : ∀ (rest : List α) (k : Nat) (δ : DS) (h : VH), xs.drop k = rest → k ≤ xs.length → I k δ h → OkS (I xs.length) (forT g b (rest.map en) δ h) := by
    intro rest
    induction rest with
    | nil =>
      intro k δ h e hk q
      have hle : xs.length ≤ k := List.drop_eq_nil_iff.mp e
      have : k = xs.length := by omega
      subst this
      exact .mk q
    | cons x rest ih =>
      intro k δ h e hk q
      have hx : xs[k]? = some x := by
        have := congrArg (·[0]?) e
        simpa using this
      have hlt := (List.getElem?_eq_some_iff.mp hx).1
      obtain ⟨δ1, h1, e1, q1⟩ := turn k x δ h hx q
      rw [List.map_cons, forT_cons, e1, tgS_some]
      exact q1.loop fun δ2 h2 q2 => ih (k + 1) δ2 h2 (by rw [← List.drop_drop, e]; rfl) hlt q2
  exact key xs 0 δ h rfl (Nat.zero_le _) h0
theorem forT_rng {g : FG} {b : FSt} (en : Nat → D) (N : Nat) (I : Nat → DS → VH → Prop) {δ : DS} {h : VH} (h0 : I 0 δ h) (turn : ∀ k δ h, k < N → I k δ h → ∃ δ1 h1, g (en k) δ h = some (δ1, h1) ∧ OkT (I (k + 1)) (b δ1 h1)) : OkS (I N) (forT g b ((List.range N).map en) δ h) := by
  have := forT_ix (g := g) (b := b) en (List.range N) I h0 fun k x δ h hx q => by
    obtain ⟨hlt, e⟩ := List.getElem?_eq_some_iff.mp hx
    rw [List.getElem_range] at e
    subst e
    exact turn k δ h (by simpa using hlt) q
  rw [List.length_range] at this
  exact this
/-! ### enumerate -/
theorem enumFrom_str (s : List Nat) : ∀ k, enumFrom k (s.map fun c => .str [c]) = (List.range s.length).map fun (j : Nat) => D.tup [.int ((k + j : Nat) : Int), .str [s.getD j 0]] := by
  induction s with
  | nil => intro k; rfl
  | cons x s ih =>
    intro k
    rw [List.map_cons]
    unfold enumFrom
    rw [ih (k + 1), List.length_cons, List.range_succ_eq_map, List.map_cons, List.map_map]
    congr 1
    refine List.map_congr_left fun j _ => ?_
    show D.tup [.int ((k + 1 + j : Nat) : Int), .str [s.getD j 0]] = D.tup [.int ((k + (j + 1) : Nat) : Int), .str [(x :: s).getD (j + 1) 0]]
    rw [show k + 1 + j = k + (j + 1) by omega]
    rfl
theorem lcE_of {a : FE} {i j : Nat} {w : List Nat} (ha : a δ h = .ok (.str w) h1) (hl : w.length ≤ 16777216) (p : Nat → Nat → Bool) (f : Nat → Nat → D)
    (H : ∀ k < w.length, t (((wipe δ own).set i (some (.int (k : Nat)))).set j (some (.str [w.getD k 0]))) h1 = .ok (p k (w.getD k 0)) h1 ∧ e (((wipe δ own).set i (some (.int (k : Nat)))).set j (some (.str [w.getD k 0]))) h1 = .ok (f k (w.getD k 0)) h1) :
    eLcE a (gT 2 (gCons (gN i) (gCons (gN j) gNil))) t e own δ h = .ok (.fls (((List.range w.length).filter fun k => p k (w.getD k 0)).map fun k => f k (w.getD k 0))) h1 := by
  have e0 : eLcE a (gT 2 (gCons (gN i) (gCons (gN j) gNil))) t e own δ h = (a δ h).bind fun x h => match enOf x with
    | some xs => lcEnd (lcT (gT 2 (gCons (gN i) (gCons (gN j) gNil))) t e own δ xs h [])
    | none => .bad := rfl
  rw [e0, ha, bind_ok]
  show lcEnd (lcT _ t e own δ (enumFrom 0 (w.map fun c => .str [c])) h1 []) = _
  rw [enumFrom_str]
  have := lcT_mapE (g := gT 2 (gCons (gN i) (gCons (gN j) gNil))) (t := t) (e := e) (own := own) (δ := δ) (h := h1) (fun (k : Nat) => D.tup [.int ((0 + k : Nat) : Int), .str [w.getD k 0]]) (fun k => p k (w.getD k 0)) (fun k => f k (w.getD k 0)) (List.range w.length) [] (by simpa using hl) fun k hk => by
    obtain ⟨h2, h3⟩ := H k (List.mem_range.mp hk)
    refine ⟨_, ?_, h2, fun _ => h3⟩
    simp
  rw [this]
  simp
end
end FL
set_option Elab.async false
set_option linter.all false
set_option maxRecDepth 100000
set_option maxHeartbeats 2000000
/-! FL33: comprehensions over texts and rows, sorting. Plain. -/
namespace FL
open PySem
section
variable {h h1 : VH} {δ : DS} {own : List Nat} {t : FT} {a e : FE} {i : Nat}
theorem lcS_of {w : List Nat} (ha : a δ h = .ok (.str w) h1) (hl : w.length ≤ 16777216) (p : Nat → Bool) (f : Nat → D) (H : ∀ c ∈ w, t ((wipe δ own).set i (some (.str [c]))) h1 = .ok (p c) h1 ∧ (p c = true → e ((wipe δ own).set i (some (.str [c]))) h1 = .ok (f c) h1)) :
    eLc a (gN i) t e own δ h = .ok (.fls ((w.filter p).map f)) h1 := by
  rw [ap_eLc, ha, bind_ok, lcX_str, lcT_mapE (fun c => D.str [c]) p f w [] (by simpa using hl) fun c hc => ⟨_, rfl, (H c hc).1, (H c hc).2⟩]
  simp
theorem lcF_of {α : Type} {l : List α} (en : α → D) (ha : a δ h = .ok (.fls (l.map en)) h1 ∨ a δ h = .ok (.tup (l.map en)) h1) (hl : l.length ≤ 16777216) (p : α → Bool) (f : α → D) (H : ∀ c ∈ l, t ((wipe δ own).set i (some (en c))) h1 = .ok (p c) h1 ∧ (p c = true → e ((wipe δ own).set i (some (en c))) h1 = .ok (f c) h1)) :
    eLc a (gN i) t e own δ h = .ok (.fls ((l.filter p).map f)) h1 := by
  have q := lcT_mapE (g := gN i) (t := t) (e := e) (own := own) (δ := δ) (h := h1) en p f l [] (by simpa using hl) fun c hc => ⟨_, rfl, (H c hc).1, (H c hc).2⟩
  rcases ha with ha | ha
  · rw [ap_eLc, ha, bind_ok, lcX_fls, q]
    simp
  · rw [ap_eLc, ha, bind_ok, lcX_tup, q]
    simp
/-- no test -/
theorem lcF_all {α : Type} {l : List α} (en : α → D) (ha : a δ h = .ok (.fls (l.map en)) h1 ∨ a δ h = .ok (.tup (l.map en)) h1) (hl : l.length ≤ 16777216) (f : α → D) (H : ∀ c ∈ l, e ((wipe δ own).set i (some (en c))) h1 = .ok (f c) h1) :
    eLc a (gN i) tYes e own δ h = .ok (.fls (l.map f)) h1 := by
  rw [lcF_of en ha hl (fun _ => true) f fun c hc => ⟨rfl, fun _ => H c hc⟩, List.filter_eq_self.mpr fun _ _ => rfl]
theorem lcS_all {w : List Nat} (ha : a δ h = .ok (.str w) h1) (hl : w.length ≤ 16777216) (f : Nat → D) (H : ∀ c ∈ w, e ((wipe δ own).set i (some (.str [c]))) h1 = .ok (f c) h1) :
    eLc a (gN i) tYes e own δ h = .ok (.fls (w.map f)) h1 := by
  rw [lcS_of ha hl (fun _ => true) f fun c hc => ⟨rfl, fun _ => H c hc⟩, List.filter_eq_self.mpr fun _ _ => rfl]
end
theorem bSort2_of {α : Type} {x : D} {h : VH} {l : List α} (f : α → D) (u : α → PyData) (hi : itemsOfX x h = some (l.map f)) (hu : ∀ a ∈ l, toP deep h (f a) = some (u a)) (ha : ∀ a ∈ l, ∀ b ∈ l, PySem.W.alike (u a) (u b) = true) (hs : sortable (l.map u) = true) :
    bSort2 [x] h = some (.fls ((l.mergeSort fun a b => PySem.W.dataLe false u a b).map f), h) := by
  have e3 : bSort2 [x] h = match itemsOfX x h with
    | some xs => match allS (xs.map (toP deep h)) with
      | some l => if (alikes l && sortable l) = true then some (.fls (sortD (xs.zip l)), h) else none
      | none => none
    | none => none := rfl
  rw [e3, hi]
  dsimp only
  rw [List.map_map, allS_of (f := toP deep h ∘ f) (k := u) (fun a ha => hu a ha)]
  dsimp only
  rw [alikes_of ha, hs, sortD_map]
  rfl
/-- a text as data -/
def sP (a : List Nat) : PyData := .str ⟨a.toArray⟩
def strLe (a b : List Nat) : Bool := PySem.W.dataLe false sP a b
theorem strLe_eq (a b : List Nat) : strLe a b = decide (a ≤ b) := by
  have := congrFun (congrFun (PySem.W.dataLe_str (fun a : List Nat => (⟨a.toArray⟩ : Str))) a) b
  exact this
theorem strLe_trans (a b c : List Nat) (h1 : strLe a b = true) (h2 : strLe b c = true) : strLe a c = true := by
  rw [strLe_eq] at *
  exact decide_eq_true (List.le_trans (of_decide_eq_true h1) (of_decide_eq_true h2))
theorem strLe_total (a b : List Nat) : (strLe a b || strLe b a) = true := by
  rw [strLe_eq, strLe_eq, Bool.or_eq_true, decide_eq_true_eq, decide_eq_true_eq]
  exact List.le_total a b
/-- texts sorted -/
def sortT (l : List (List Nat)) : List (List Nat) := l.mergeSort strLe
theorem sortT_perm (l : List (List Nat)) : (sortT l).Perm l := List.mergeSort_perm l _
theorem sortT_sorted (l : List (List Nat)) : (sortT l).Pairwise (· ≤ ·) := by
  have := List.pairwise_mergeSort strLe_trans strLe_total l
  exact this.imp fun h => by rw [strLe_eq] at h; exact of_decide_eq_true h
theorem sorted_eq {l l' : List (List Nat)} (h : l.Pairwise (· ≤ ·)) (h' : l'.Pairwise (· ≤ ·)) (p : l.Perm l') : l = l' :=
  List.Perm.eq_of_pairwise (fun a b _ _ h1 h2 => List.le_antisymm h1 h2) h h' p
theorem sortT_eq {l l' : List (List Nat)} (p : l.Perm l') (h : l'.Pairwise (· ≤ ·)) : sortT l = l' := sorted_eq (sortT_sorted l) h ((sortT_perm l).trans p)
theorem bSort2_strs {x : D} {h : VH} {l : List (List Nat)} (hi : itemsOfX x h = some (l.map D.str)) : bSort2 [x] h = some (.fls ((sortT l).map D.str), h) :=
  bSort2_of (f := D.str) (u := sP) hi (fun a _ => rfl) (fun a _ b _ => rfl) (sortable_strs l)
/-- keys with the items behind them sort as keys, where equal keys are equal items' -/
theorem sort_with {α : Type} (k : α → PyData) (s : α → List Nat) (l : List α) (ha : ∀ a ∈ l, ∀ b ∈ l, PySem.W.alike (k a) (k b) = true) (hk : ∀ a ∈ l, ∀ b ∈ l, PyData.eqv (k a) (k b) = true → s a = s b) :
    (l.mergeSort fun a b => PySem.W.dataLe false (fun a => PyData.tuple [k a, sP (s a)]) a b) = l.mergeSort fun a b => PySem.W.dataLe false k a b := by
  have le : ∀ (u : α → PyData) (a b : α), PySem.W.dataLe false u a b = !PySem.W.dataLt (u b) (u a) := fun _ _ _ => rfl
  have key : ∀ a ∈ l, ∀ b ∈ l, PySem.W.dataLt (.tuple [k a, sP (s a)]) (.tuple [k b, sP (s b)]) = PySem.W.dataLt (k a) (k b) := fun a h1 b h2 => by
    rw [PySem.W.dataLt_tuple]
    cases e : PyData.eqv (k a) (k b) with
    | false => rw [PySem.W.dataLt_all_no (ha a h1 b h2) e]
    | true =>
      rw [PySem.W.dataLt_all_yes (ha a h1 b h2) e]
      have e1 := (PySem.W.toks_eqv (k a) (k b) (ha a h1 b h2)).1 e
      have e2 := hk a h1 b h2 e
      rw [e2]
      have e3 : PySem.W.dataLt (k a) (k b) = false := by
        unfold PySem.W.dataLt
        rw [e1]
        exact PyProof.Rows.lex_irrefl _
      rw [e3]
      exact PyProof.Rows.lex_irrefl _
  have e := List.map_mergeSort (f := fun n : α => n) (r := fun a b => PySem.W.dataLe false (fun a => PyData.tuple [k a, sP (s a)]) a b) (s := fun a b => PySem.W.dataLe false k a b) (l := l) fun a h1 b h2 => by
    rw [le, le, key b h2 a h1]
  simpa using e
theorem mIndexS_of {a : List Nat} {c : Nat} {h : VH} (hc : c ∈ a) : mIndexS (.str a) [.str [c]] h = some (.int ((a.idxOf c : Nat) : Int), h) := by
  have e : a.findIdx? (fun z => decide (z = c)) = some (a.idxOf c) := by
    rw [List.findIdx?_eq_some_iff_getElem]
    have hl := List.idxOf_lt_length_of_mem hc
    refine ⟨hl, by simp, fun j hj => ?_⟩
    have := List.not_of_lt_findIdx (p := (· == c)) (xs := a) (i := j) hj
    simpa using this
  have q : mIndexS (.str a) [.str [c]] h = match a.findIdx? (fun z => decide (z = c)) with
    | some j => some (.int (j : Nat), h)
    | none => none := rfl
  rw [q, e]
end FL
set_option Elab.async false
set_option linter.all false
set_option maxRecDepth 100000
set_option maxHeartbeats 2000000
/-! FL34: == of rows of texts; rows drawn. Plain. -/
namespace FL
open PySem
theorem eqvAll_strs : ∀ l l' : List (List Nat), PyData.eqvAll (l.map sP) (l'.map sP) = decide (l = l')
  | [], [] => by simp [PyData.eqvAll]
  | [], _ :: _ => by simp [PyData.eqvAll]
  | _ :: _, [] => by simp [PyData.eqvAll]
  | a :: l, b :: l' => by
    rw [List.map_cons, List.map_cons]
    unfold PyData.eqvAll
    rw [eqvAll_strs l l', show PyData.eqv (sP a) (sP b) = decide (a = b) from eqv_ss a b]
    by_cases e : a = b
    · by_cases e2 : l = l' <;> simp [e, e2]
    · simp [e]
theorem eqD_strs {l l' : List (List Nat)} {h : VH} : eqD (.fls (l.map D.str)) (.fls (l'.map D.str)) h = some (decide (l = l')) := by
  rw [eqD_ls (x := .fls (l.map D.str)) (y := .fls (l'.map D.str)) (l := l.map sP) (l' := l'.map sP) rfl rfl (toPs_str l) (toPs_str l')]
  unfold PyData.eqv
  exact congrArg some (eqvAll_strs l l')
theorem cNe_strs {l l' : List (List Nat)} {h : VH} : cNe (.fls (l.map D.str)) (.fls (l'.map D.str)) h = some (.bl (!decide (l = l')), h) := by
  have e : cNe (.fls (l.map D.str)) (.fls (l'.map D.str)) h = match eqD (.fls (l.map D.str)) (.fls (l'.map D.str)) h with
    | some b => some (.bl (!b), h)
    | none => none := rfl
  rw [e, eqD_strs]
theorem cEq_strs {l l' : List (List Nat)} {h : VH} : cEq (.fls (l.map D.str)) (.fls (l'.map D.str)) h = some (.bl (decide (l = l')), h) := by
  have e : cEq (.fls (l.map D.str)) (.fls (l'.map D.str)) h = match eqD (.fls (l.map D.str)) (.fls (l'.map D.str)) h with
    | some b => some (.bl b, h)
    | none => none := rfl
  rw [e, eqD_strs]
/-- a row drawn one by one -/
def draws {α : Type} (f : Dc → α) (nx : Dc → Dc) : Nat → Dc → List α × Dc
  | 0, s => ([], s)
  | n + 1, s => (f s :: (draws f nx n (nx s)).1, (draws f nx n (nx s)).2)
theorem draws_len {α : Type} (f : Dc → α) (nx : Dc → Dc) : ∀ (n : Nat) (s : Dc), (draws f nx n s).1.length = n
  | 0, _ => rfl
  | n + 1, s => by simp [draws, draws_len f nx n]
theorem draws_all {α : Type} {f : Dc → α} {nx : Dc → Dc} {p : α → Prop} (h : ∀ s, p (f s)) : ∀ (n : Nat) (s : Dc), ∀ x ∈ (draws f nx n s).1, p x
  | 0, _, x, hx => by simp [draws] at hx
  | n + 1, s, x, hx => by
    rcases List.mem_cons.mp hx with rfl | hx
    · exact h s
    · exact draws_all h n (nx s) x hx
theorem lc_draws {α : Type} {e : FE} {own : List Nat} {δ : DS} {h : VH} {i j : Nat} (en : α → D) (f : Dc → α) (nx : Dc → Dc) (H : ∀ (x : D) (s : Dc), e ((wipe δ own).set i (some x)) (h.set j (dO s)) = .ok (en (f s)) (h.set j (dO (nx s)))) :
    ∀ (xs : List D) (s : Dc) (acc : List D), acc.length + xs.length ≤ 16777216 → lcT (gN i) tYes e own δ xs (h.set j (dO s)) acc = .ok (acc ++ (draws f nx xs.length s).1.map en) (h.set j (dO (draws f nx xs.length s).2))
  | [], s, acc, _ => by simp [lcT, draws]
  | x :: xs, s, acc, hl => by
    have hl' : acc.length + xs.length + 1 ≤ 16777216 := by rw [List.length_cons] at hl; omega
    unfold lcT
    simp only [ap_gN, ap_tYes, H]
    rw [if_pos (by omega), lc_draws en f nx H xs (nx s) _ (by simp; omega)]
    simp [draws]
end FL
set_option Elab.async false
set_option linter.all false
set_option maxRecDepth 100000
set_option maxHeartbeats 2000000
/-! FL35: list comprehensions of two clauses. -/
namespace FL
open PySem PySem.Spec PyProof.Rows L2
/-- the items of a thing that cannot change -/
def itOf (x : FL.D) : Option (List FL.D) := match x with
  | .tup xs => some xs
  | .fls xs => some xs
  | .fdc ks _ => some ks
  | .str s => some (s.map fun c => .str [c])
  | _ => none
def inX (g1 : FG) (t1 : FT) (e : FE) (own1 : List Nat) (δ1 : DS) (acc : List FL.D) (d : FL.D) (h : VH) : Out (List FL.D) := match itOf d with
  | some ys => lcT g1 t1 e own1 δ1 ys h acc
  | none => .bad
def lc2T (g : FG) (t : FT) (a1 : FE) (g1 : FG) (t1 : FT) (e : FE) (own own1 : List Nat) (δ : DS) : List FL.D → VH → List FL.D → Out (List FL.D)
  | [], h, acc => .ok acc h
  | x :: xs, h, acc => match g x (FL.wipe δ own) h with
    | none => .bad
    | some (δ1, h) => match t δ1 h with
      | .ok false h => lc2T g t a1 g1 t1 e own own1 δ xs h acc
      | .ok true h => match a1 δ1 h with
        | .ok d h => (inX g1 t1 e own1 δ1 acc d h).bind fun acc h => lc2T g t a1 g1 t1 e own own1 δ xs h acc
        | _ => .bad
      | _ => .bad
def lc2X (g : FG) (t : FT) (a1 : FE) (g1 : FG) (t1 : FT) (e : FE) (own own1 : List Nat) (δ : DS) (x : FL.D) (h : VH) : Out FL.D := match itOf x with
  | some xs => lcEnd (lc2T g t a1 g1 t1 e own own1 δ xs h [])
  | none => .bad
def eLc2 (a : FE) (g : FG) (t : FT) (a1 : FE) (g1 : FG) (t1 : FT) (e : FE) (own own1 : List Nat) : FE := fun δ h => (a δ h).bind fun x h => lc2X g t a1 g1 t1 e own own1 δ x h
theorem lcT_bind {g : FG} {t : FT} {e : FE} {own : List Nat} {δ : DS} {x : FL.D} {xs : List FL.D} {h : VH} {acc : List FL.D} {G : List FL.D → VH → Out (List FL.D)} :
    (lcT g t e own δ (x :: xs) h acc).bind G = turnL g t e own δ x h acc (fun h acc => (lcT g t e own δ xs h acc).bind G) := by
  show Out.bind (match g x (FL.wipe δ own) h with
    | none => .bad
    | some (δ1, h) => match t δ1 h with
      | .ok false h => lcT g t e own δ xs h acc
      | .ok true h => match e δ1 h with
        | .ok y h => if acc.length < 16777216 then lcT g t e own δ xs h (acc ++ [y]) else .bad
        | _ => .bad
      | _ => .bad) G = _
  unfold turnL
  cases g x (FL.wipe δ own) h with
  | none => rfl
  | some p =>
    obtain ⟨δ1, h1⟩ := p
    show Out.bind (match t δ1 h1 with
      | .ok false h => lcT g t e own δ xs h acc
      | .ok true h => match e δ1 h with
        | .ok y h => if acc.length < 16777216 then lcT g t e own δ xs h (acc ++ [y]) else .bad
        | _ => .bad
      | _ => .bad) G = (match t δ1 h1 with
      | .ok false h => (lcT g t e own δ xs h acc).bind G
      | .ok true h => match e δ1 h with
        | .ok y h => if acc.length < 16777216 then (lcT g t e own δ xs h (acc ++ [y])).bind G else .bad
        | _ => .bad
      | _ => .bad)
    cases t δ1 h1 with
    | bad => rfl
    | err c p h2 => rfl
    | ok b h2 =>
      cases b with
      | false => rfl
      | true =>
        show Out.bind (match e δ1 h2 with
          | .ok y h => if acc.length < 16777216 then lcT g t e own δ xs h (acc ++ [y]) else .bad
          | _ => .bad) G = (match e δ1 h2 with
          | .ok y h => if acc.length < 16777216 then (lcT g t e own δ xs h (acc ++ [y])).bind G else .bad
          | _ => .bad)
        cases e δ1 h2 with
        | bad => rfl
        | err c p h3 => rfl
        | ok y h3 =>
          show Out.bind (if acc.length < 16777216 then lcT g t e own δ xs h3 (acc ++ [y]) else .bad) G = (if acc.length < 16777216 then (lcT g t e own δ xs h3 (acc ++ [y])).bind G else .bad)
          by_cases hz : acc.length < 16777216
          · rw [if_pos hz, if_pos hz]
          · rw [if_neg hz, if_neg hz]; rfl
section
variable {X : Cx} {g : Gc} {W : WX} {f f1 : FG} {ft ft1 : FT} {fe fa fa1 : FE} {own own1 : List Nat} {δ : DS} {σ : L2.St} {D : Addr} {Q : VK} {m0 : Nat → Addr} {n0 : Nat} {H0 : Hp}
/-- an iterator over a thing that cannot change -/
abbrev it4 (K : PySem.W.Frag) (te : TE) : TI := fun σ H R => ((iList K te σ H R ∨ iTup K te σ H R) ∨ iStr te σ H R) ∨ iKeys te σ H R
theorem it4_ok {m : Nat → Addr} {h : VH} {H : Hp} {R : It → Hp → Prop} (r : RS X.K m h.length H δ σ) (s : Sim X.K g m h H)
    (hb : fa δ h ≠ .bad) (he : ∀ c p h1, fa δ h = .err c p h1 → GoodE X.K g (fun c d H' => W c d σ H') m h.length H (fun _ _ => True) (.err c p h1))
    (hq : ∀ d h1, fa δ h = .ok d h1 → ∃ xs, itOf d = some xs ∧ ∀ m1 H1 J C vs, Ext m h.length H m1 h1.length H1 → Sim X.K g m1 h1 H1 → TreeIt J C vs → C H1 → RDs X.K m1 h1.length H1 xs vs → R J H1) :
    it4 X.K (rd X.K g W fa) σ H R := by
  cases ea : fa δ h with
  | bad => exact absurd ea hb
  | err c p h1 =>
    refine .inl (.inr ⟨δ, m, h, r, s, ?_⟩)
    rw [ea]
    exact he c p h1 ea
  | ok d h1 =>
    obtain ⟨xs, ex, q⟩ := hq d h1 ea
    have go : ∀ {R' : V → Hp → Prop}, (∀ m1 H1 v, Ext m h.length H m1 h1.length H1 → Sim X.K g m1 h1 H1 → RD X.K m1 h1.length H1 d v → R' v H1) → rd X.K g W fa σ H R' := fun {R'} hR => by
      refine ⟨δ, m, h, r, s, ?_⟩
      rw [ea]
      exact fun m1 H1 e1 s1 v r1 => hR m1 H1 v e1 s1 r1
    cases d with
    | tup ys =>
      cases ex
      refine .inl (.inl (.inr (go fun m1 H1 v e1 s1 r1 => ?_)))
      cases r1 with
      | tup h2 h3 => exact ⟨_, rfl, ⟨_, h2.sq⟩, q m1 H1 _ _ _ e1 s1 tree_tup h2 h3⟩
    | fls ys =>
      cases ex
      refine .inl (.inl (.inl (go fun m1 H1 v e1 s1 r1 => ?_)))
      cases r1 with
      | fls h2 h3 => exact ⟨_, rfl, ⟨_, h2.seq⟩, q m1 H1 _ _ _ e1 s1 tree_fls h2 h3⟩
    | str l =>
      cases ex
      refine .inl (.inr (go fun m1 H1 v e1 s1 r1 => ?_))
      cases r1 with
      | str h2 => exact ⟨_, rfl, q m1 H1 _ _ _ e1 s1 tree_str trivial (sign_rel h2)⟩
    | fdc ks vs =>
      cases ex
      refine .inr (go fun m1 H1 v e1 s1 r1 => ?_)
      cases r1 with
      | fdc h1 h2 h3 h4 =>
        subst h2
        exact ⟨_, _, rfl, .inl ⟨_, h1, q m1 H1 _ _ _ e1 s1 tree_keys h1 (keys_rel h3)⟩⟩
    | _ => cases ex
/-- the second clause's loop -/
theorem lc_inner {J : It} {C : Hp → Prop} {vs : List V} {xs acc : List FL.D} {m : Nat → Addr} {h : VH} {H : Hp} {G : List FL.D → VH → Out (List FL.D)} {Nx : Hp → Prop} (T : TreeIt J C vs) (c0 : C H) (hD : H0 D = none) (r : RS X.K m h.length H δ σ) (a : Acc X.K g m0 n0 H0 D m h H acc) (rx : RDs X.K m h.length H xs vs)
    (q : FinL X.K g m0 n0 H0 Q ((lcT f ft fe own δ xs h acc).bind G))
    (hN : ∀ h1 m1 H1 acc1, h.length ≤ h1.length → (∀ k, k < h.length → m1 k = m k) → Imm H H1 → Acc X.K g m0 n0 H0 D m1 h1 H1 acc1 → FinL X.K g m0 n0 H0 Q (G acc1 h1) → Nx H1) :
    ∃ W1 : Nat → Nat → Hp → Prop, (∃ m, W1 0 m H) ∧ ∀ j k H, W1 j k H →
      (J.stop j H ∧ Nx H) ∨ (J.go j H ∧ ∃ Nx1 : Hp → Prop, (∀ H', Nx1 H' → ∃ k', k' < k ∧ W1 (j + 1) k' H') ∧ ∀ x H', J.yld j H x H' → rg X.K g own f x (L2.wipe σ own) H' fun σ3 H5 => L2.wipe σ3 own = L2.wipe σ own ∧ rt X.K g W0 ft σ3 H5 fun b H6 =>
        if b = true then rd X.K g W0 fe σ3 H6 fun y H7 => ∃ acc, H7 D = some (.lst acc) ∧ acc.length < sizeLine ∧ Nx1 (upd H7 D (.lst (acc ++ [y]))) else Nx1 H6) := by
  have mo : ∀ {m1 : Nat → Addr} {h1 : VH} {H1 : Hp} {m2 : Nat → Addr} {h2 : VH} {H2 : Hp} {xs : List FL.D} {vs : List V}, h1.length ≤ h2.length → (∀ k, k < h1.length → m2 k = m1 k) → Imm H1 H2 → RDs X.K m1 h1.length H1 xs vs → RDs X.K m2 h2.length H2 xs vs := fun a b c d => RDs.mono a b c _ _ d
  have ms : ∀ {m1 : Nat → Addr} {h1 : VH} {H1 : Hp} {m2 : Nat → Addr} {h2 : VH} {H2 : Hp}, h1.length ≤ h2.length → (∀ k, k < h1.length → m2 k = m1 k) → Imm H1 H2 → RS X.K m1 h1.length H1 δ σ → RS X.K m2 h2.length H2 δ σ := fun a b c r => ⟨r.1, fun i d hd => let ⟨v, h1, h2⟩ := r.2 i d hd; ⟨v, h1, RD.mono a b c _ _ h2⟩⟩
  refine ⟨fun i c H1 => ∃ m1 h1 rest acc, h.length ≤ h1.length ∧ (∀ k, k < h.length → m1 k = m k) ∧ Imm H H1 ∧ C H1 ∧ RS X.K m1 h1.length H1 δ σ ∧ Acc X.K g m0 n0 H0 D m1 h1 H1 acc ∧ RDs X.K m1 h1.length H1 rest (vs.drop i) ∧ c = rest.length ∧ FinL X.K g m0 n0 H0 Q ((lcT f ft fe own δ rest h1 acc).bind G), ⟨_, m, h, xs, acc, Nat.le_refl _, fun _ _ => rfl, Imm.refl _, c0, r, a, rx, rfl, q⟩, ?_⟩
  rintro i c H1 ⟨m1, h1, rest, acc, l1, l2, l3, hc, r, a, rx, rfl, q⟩
  cases rest with
  | nil =>
    have hl := rx.length
    rw [List.length_drop] at hl
    exact .inl ⟨T.stop i H1 hc (by simp at hl; omega), hN h1 m1 H1 acc l1 l2 l3 a q⟩
  | cons x rest =>
    have hi : ∃ v, vs[i]? = some v ∧ RD X.K m1 h1.length H1 x v ∧ RDs X.K m1 h1.length H1 rest (vs.drop (i + 1)) := by
      have hl := rx.length
      rw [List.length_drop] at hl
      have hlt : i < vs.length := by simp at hl; omega
      rw [List.drop_eq_getElem_cons hlt] at rx
      cases rx with
      | cons r1 r2 => exact ⟨vs[i], by simp [hlt], r1, r2⟩
    obtain ⟨v, hv, r1, r2⟩ := hi
    refine .inr ⟨T.go i H1 v hc hv, _, fun H' z => ⟨rest.length, by simp, z⟩, fun y H' hy => ?_⟩
    obtain ⟨e1, e2⟩ := T.yld i H1 y H' v hc hy hv
    subst e1
    subst e2
    rw [lcT_bind] at q
    refine turn_ok hD a r r1 q fun h2 m2 H2 acc2 e1 e2 e3 a2 q2 => ?_
    exact ⟨m2, h2, rest, acc2, Nat.le_trans l1 e1, fun k hk => (e2 k (Nat.lt_of_lt_of_le hk l1)).trans (l2 k hk), l3.trans e3, T.st _ _ e3 hc, ms e1 e2 e3 r, a2, mo e1 e2 e3 r2, rfl, q2⟩
theorem lc2_tree {J : It} {C : Hp → Prop} {vs : List V} {xs : List FL.D} {m : Nat → Addr} {h : VH} {H : Hp} (T : TreeIt J C vs) (c0 : C H) (hD : H D = none) (r : RS X.K m h.length H δ σ) (s : Sim X.K g m h H) (rx : RDs X.K m h.length H xs vs)
    (q : FinL X.K g m h.length H Q (lc2T f ft fa1 f1 ft1 fe own own1 δ xs h [])) :
    ∃ W : Nat → Nat → Hp → Prop, (∃ m, W 0 m (upd H D (.lst []))) ∧ ∀ i m H, W i m H →
      (J.stop i H ∧ FzQ Q (.ref D) H) ∨ (J.go i H ∧ ∃ Nx : Hp → Prop, (∀ H', Nx H' → ∃ m', m' < m ∧ W (i + 1) m' H') ∧ ∀ x H', J.yld i H x H' → rg X.K g own f x (L2.wipe σ own) H' fun σ2 H2 => L2.wipe σ2 own = L2.wipe σ own ∧ rt X.K g W0 ft σ2 H2 fun b H3 =>
        if b = true then it4 X.K (rd X.K g W0 fa1) σ2 H3 fun J1 H4 => ∃ W1 : Nat → Nat → Hp → Prop, (∃ m, W1 0 m H4) ∧ ∀ j k H, W1 j k H →
          (J1.stop j H ∧ Nx H) ∨ (J1.go j H ∧ ∃ Nx1 : Hp → Prop, (∀ H', Nx1 H' → ∃ k', k' < k ∧ W1 (j + 1) k' H') ∧ ∀ x H', J1.yld j H x H' → rg X.K g own1 f1 x (L2.wipe σ2 own1) H' fun σ3 H5 => L2.wipe σ3 own1 = L2.wipe σ2 own1 ∧ rt X.K g W0 ft1 σ3 H5 fun b H6 =>
            if b = true then rd X.K g W0 fe σ3 H6 fun y H7 => ∃ acc, H7 D = some (.lst acc) ∧ acc.length < sizeLine ∧ Nx1 (upd H7 D (.lst (acc ++ [y]))) else Nx1 H6)
        else Nx H3) := by
  obtain ⟨i0, a0⟩ := Acc.new (D := D) s hD
  have mo : ∀ {m1 : Nat → Addr} {h1 : VH} {H1 : Hp} {m2 : Nat → Addr} {h2 : VH} {H2 : Hp} {xs : List FL.D} {vs : List V}, h1.length ≤ h2.length → (∀ k, k < h1.length → m2 k = m1 k) → Imm H1 H2 → RDs X.K m1 h1.length H1 xs vs → RDs X.K m2 h2.length H2 xs vs := fun a b c d => RDs.mono a b c _ _ d
  have ms : ∀ {m1 : Nat → Addr} {h1 : VH} {H1 : Hp} {m2 : Nat → Addr} {h2 : VH} {H2 : Hp}, h1.length ≤ h2.length → (∀ k, k < h1.length → m2 k = m1 k) → Imm H1 H2 → RS X.K m1 h1.length H1 δ σ → RS X.K m2 h2.length H2 δ σ := fun a b c r => ⟨r.1, fun i d hd => let ⟨v, h1, h2⟩ := r.2 i d hd; ⟨v, h1, RD.mono a b c _ _ h2⟩⟩
  refine ⟨fun i c H1 => ∃ m1 h1 rest acc, C H1 ∧ RS X.K m1 h1.length H1 δ σ ∧ Acc X.K g m h.length H D m1 h1 H1 acc ∧ RDs X.K m1 h1.length H1 rest (vs.drop i) ∧ c = rest.length ∧ FinL X.K g m h.length H Q (lc2T f ft fa1 f1 ft1 fe own own1 δ rest h1 acc), ⟨_, m, h, xs, [], T.st _ _ i0 c0, ms (Nat.le_refl _) (fun _ _ => rfl) i0 r, a0, mo (Nat.le_refl _) (fun _ _ => rfl) i0 rx, rfl, q⟩, ?_⟩
  rintro i c H1 ⟨m1, h1, rest, acc, hc, r, a, rx, rfl, q⟩
  cases rest with
  | nil =>
    have hl := rx.length
    rw [List.length_drop] at hl
    exact .inl ⟨T.stop i H1 hc (by simp at hl; omega), a.end hD q⟩
  | cons x rest =>
    have hi : ∃ v, vs[i]? = some v ∧ RD X.K m1 h1.length H1 x v ∧ RDs X.K m1 h1.length H1 rest (vs.drop (i + 1)) := by
      have hl := rx.length
      rw [List.length_drop] at hl
      have hlt : i < vs.length := by simp at hl; omega
      rw [List.drop_eq_getElem_cons hlt] at rx
      cases rx with
      | cons r1 r2 => exact ⟨vs[i], by simp [hlt], r1, r2⟩
    obtain ⟨v, hv, r1, r2⟩ := hi
    refine .inr ⟨T.go i H1 v hc hv, fun H2 => ∃ m2 h2 acc2, h1.length ≤ h2.length ∧ (∀ k, k < h1.length → m2 k = m1 k) ∧ Imm H1 H2 ∧ Acc X.K g m h.length H D m2 h2 H2 acc2 ∧ FinL X.K g m h.length H Q (lc2T f ft fa1 f1 ft1 fe own own1 δ rest h2 acc2), fun H' z => ⟨rest.length, by simp, ?_⟩, fun y H' hy => ?_⟩
    · obtain ⟨m2, h2, acc2, e1, e2, e3, a2, q2⟩ := z
      exact ⟨m2, h2, rest, acc2, T.st _ _ e3 hc, ms e1 e2 e3 r, a2, mo e1 e2 e3 r2, rfl, q2⟩
    obtain ⟨e1, e2⟩ := T.yld i H1 y H' v hc hy hv
    subst e1
    subst e2
    refine ⟨FL.wipe δ own, m1, h1, x, r.wipe own, a.sm, r1, ?_⟩
    have q : FinL X.K g m h.length H Q (match f x (FL.wipe δ own) h1 with
      | none => .bad
      | some (δ1, h) => match ft δ1 h with
        | .ok false h => lc2T f ft fa1 f1 ft1 fe own own1 δ rest h acc
        | .ok true h => match fa1 δ1 h with
          | .ok d h => (inX f1 ft1 fe own1 δ1 acc d h).bind fun acc h => lc2T f ft fa1 f1 ft1 fe own own1 δ rest h acc
          | _ => .bad
        | _ => .bad) := q
    cases eg : f x (FL.wipe δ own) h1 with
    | none => rw [eg] at q; exact q
    | some p =>
      obtain ⟨δ1, h2⟩ := p
      rw [eg] at q
      intro m2 H2 σ2 x2 s2 rr2 hw
      have a2 := a.from x2 s2
      refine ⟨hw.trans (wipe_wipe σ own), δ1, m2, h2, rr2, s2, ?_⟩
      have q : FinL X.K g m h.length H Q (match ft δ1 h2 with
        | .ok false h => lc2T f ft fa1 f1 ft1 fe own own1 δ rest h acc
        | .ok true h => match fa1 δ1 h with
          | .ok d h => (inX f1 ft1 fe own1 δ1 acc d h).bind fun acc h => lc2T f ft fa1 f1 ft1 fe own own1 δ rest h acc
          | _ => .bad
        | _ => .bad) := q
      cases et : ft δ1 h2 with
      | bad => rw [et] at q; exact q
      | err c p h3 => rw [et] at q; exact q.elim
      | ok b h3 =>
        rw [et] at q
        intro m3 H3 x3 s3
        have a3 := a2.from x3 s3
        have x23 := x2.trans x3
        cases b with
        | false => exact ⟨m3, h3, acc, x23.le, x23.eq, x23.im, a3, q⟩
        | true =>
          show it4 X.K (rd X.K g W0 fa1) σ2 H3 _
          have q : FinL X.K g m h.length H Q (match fa1 δ1 h3 with
            | .ok d h => (inX f1 ft1 fe own1 δ1 acc d h).bind fun acc h => lc2T f ft fa1 f1 ft1 fe own own1 δ rest h acc
            | _ => .bad) := q
          refine it4_ok (x3.rs rr2) s3 (fun z => ?_) (fun c p h4 z => ?_) fun d h4 ed => ?_
          · rw [z] at q; exact q
          · rw [z] at q; exact q.elim
          · rw [ed] at q
            have q : FinL X.K g m h.length H Q ((inX f1 ft1 fe own1 δ1 acc d h4).bind fun acc h => lc2T f ft fa1 f1 ft1 fe own own1 δ rest h acc) := q
            unfold inX at q
            cases ei : itOf d with
            | none => rw [ei] at q; exact q.elim
            | some ys =>
              rw [ei] at q
              refine ⟨ys, rfl, fun m4 H4 J1 C1 ws x4 s4 T1 c1 rd1 => ?_⟩
              have a4 := a3.from x4 s4
              have x24 := x23.trans x4
              refine lc_inner T1 c1 hD ((x3.trans x4).rs rr2) a4 rd1 q fun h5 m5 H5 acc5 e1 e2 e3 a5 q5 => ?_
              exact ⟨m5, h5, acc5, Nat.le_trans x24.le e1, fun k hk => (e2 k (Nat.lt_of_lt_of_le hk x24.le)).trans (x24.eq k hk), x24.im.trans e3, a5, q5⟩
end
section
variable {X : Cx} {g : Gc} {W : WX} {f f1 : FG} {ft ft1 : FT} {fe fa fa1 : FE} {sl sl1 : List Nat} {elt tg iter tg1 iter1 : Expr} {ifs ifs1 : List Expr} {scope : Scope} {own : List (Str × Nat)} {pos spos py : Pos}
theorem rd_lc2 : ∀ σ H Q, rd X.K g W (eLc2 fa f ft fa1 f1 ft1 fe sl sl1) σ H Q →
    tLc2 (it4 X.K (rd X.K g W fa)) (rg X.K g sl f) (rt X.K g W0 ft) (it4 X.K (rd X.K g W0 fa1)) (rg X.K g sl1 f1) (rt X.K g W0 ft1) (rd X.K g W0 fe) sl sl1 σ H (FzQ Q) := by
  rintro σ H Q ⟨δ, m, h, r, s, q⟩
  have q : GoodE X.K g (fun c d H' => W c d σ H') m h.length H Q ((fa δ h).bind fun x h => lc2X f ft fa1 f1 ft1 fe sl sl1 δ x h) := q
  refine it4_ok r s (fun z => ?_) (fun c p h1 z => ?_) fun d h1 z => ?_
  · rw [z] at q; exact q
  · rw [z] at q; exact q
  · rw [z] at q
    have q : GoodE X.K g (fun c d H' => W c d σ H') m h.length H Q (lc2X f ft fa1 f1 ft1 fe sl sl1 δ d h1) := q
    unfold lc2X at q
    cases ei : itOf d with
    | none => rw [ei] at q; exact q.elim
    | some xs =>
      rw [ei] at q
      refine ⟨xs, rfl, fun m1 H1 J C vs e1 s1 T c rx => ?_⟩
      exact fun D hD => lc2_tree T c hD (e1.rs r) s1 rx (lc_fin (Gd.from e1 q))
/-- what the parts of a comprehension of two clauses are -/
structure Lc2P (X : Cx) (g : Gc) (elt tg : Expr) (ifs : List Expr) (tg1 iter1 : Expr) (ifs1 : List Expr) (scope : Scope) (own : List (Str × Nat)) (sl1 : List Nat) (f : FG) (ft : FT) (fa1 : FE) (f1 : FG) (ft1 : FT) (fe : FE) : Prop where
  ok : BlkOk X.N X.env.scope scope own
  hv : ∀ i ∈ sl1, i ∈ own.map (·.2)
  hg : ∀ (s : Shared) (H : Hp) (C : Addr) (cl : List (Str × Addr)) (fp : List Addr), PG (X.blk s H scope (compEnvC scope cl C X.env) fp) tg (rg X.K g (own.map (·.2)) f)
  ht : ∀ (s : Shared) (H : Hp) (C : Addr) (cl : List (Str × Addr)) (fp : List Addr), PTs (X.blk s H scope (compEnvC scope cl C X.env) fp) ifs (rt X.K g W0 ft)
  ha1 : ∀ (s : Shared) (H : Hp) (C : Addr) (cl : List (Str × Addr)) (fp : List Addr), PE (X.blk s H scope (compEnvC scope cl C X.env) fp) iter1 (rd X.K g W0 fa1)
  hg1 : ∀ (s : Shared) (H : Hp) (C : Addr) (cl : List (Str × Addr)) (fp : List Addr), PG (X.blk s H scope (compEnvC scope cl C X.env) fp) tg1 (rg X.K g sl1 f1)
  ht1 : ∀ (s : Shared) (H : Hp) (C : Addr) (cl : List (Str × Addr)) (fp : List Addr), PTs (X.blk s H scope (compEnvC scope cl C X.env) fp) ifs1 (rt X.K g W0 ft1)
  he : ∀ (s : Shared) (H : Hp) (C : Addr) (cl : List (Str × Addr)) (fp : List Addr), PE (X.blk s H scope (compEnvC scope cl C X.env) fp) elt (rd X.K g W0 fe)
theorem pi_it4 {X : Cx} {tg e : Expr} {te : TE} (he : PE X e te) : PI X tg e (it4 X.K te) := pi_or (pi_or (pi_or (pi_list he) (pi_tup he)) (pi_str he)) (pi_keys he)
/-- [elt for tg in iter if .. for tg1 in iter1 if ..] -/
theorem fe_lc2 (hc : X.calm = true) (hN : X.N.Nodup) (ha : PE X iter (rd X.K g W fa)) (P : Lc2P X g elt tg ifs tg1 iter1 ifs1 scope own sl1 f ft fa1 f1 ft1 fe) (hsl : own.map (·.2) = sl := by rfl) (hs : ∀ x, foldedSetIterable iter X.env x = pure x := by intro _; rfl) (hs1 : ∀ env x, foldedSetIterable iter1 env x = pure x := by intro _ _; rfl) :
    PE X (.ListComp elt [⟨tg, iter, ifs, 0⟩, ⟨tg1, iter1, ifs1, 0⟩] scope pos) (rd X.K g W (eLc2 fa f ft fa1 f1 ft1 fe sl sl1)) := by
  subst hsl
  exact pe_weak (pe_fz (pe_lc2 hc hN (pi_it4 ha) P.ok P.hv P.hg P.ht (fun s H C cl fp => pi_it4 (P.ha1 s H C cl fp)) P.hg1 P.ht1 P.he hs hs1)) rd_lc2
/-- y = [.. for .. for ..] on one line -/
theorem fs_setLc2 {i : Nat} {y : Str} (hc : X.calm = true) (hN : X.N.Nodup) (hy : X.N[i]? = some y) (hyl : X.env.scope.names.lookup y = some .local) (hsw : swapsWith (.ListComp elt [⟨tg, iter, ifs, 0⟩, ⟨tg1, iter1, ifs1, 0⟩] scope pos) (some (.Name y py)) spos.line X.env = pure true)
    (ha : PE X iter (rd X.K g W fa)) (P : Lc2P X g elt tg ifs tg1 iter1 ifs1 scope own sl1 f ft fa1 f1 ft1 fe) (hsl : own.map (·.2) = sl := by rfl) (hs : ∀ x, foldedSetIterable iter X.env x = pure x := by intro _; rfl) (hs1 : ∀ env x, foldedSetIterable iter1 env x = pure x := by intro _ _; rfl) :
    PS X (.Assign [.Name y py] (.ListComp elt [⟨tg, iter, ifs, 0⟩, ⟨tg1, iter1, ifs1, 0⟩] scope pos) spos) (rs X.K g W (FL.sAs (eLc2 fa f ft fa1 f1 ft1 fe sl sl1) (gN i))) := by
  subst hsl
  exact ps_weak (ps_fz (ps_setLc2 hc hN hy hyl hsw (pi_it4 ha) P.ok P.hv P.hg P.ht (fun s H C cl fp => pi_it4 (P.ha1 s H C cl fp)) P.hg1 P.ht1 P.he hs hs1)) (fun D σ H q => rs_set (te := fun σ H Q => tLc2 _ _ _ _ _ _ _ _ _ σ H (FzQ Q)) rd_lc2 D σ H q)
end
end FL
set_option Elab.async false
set_option linter.all false
set_option maxRecDepth 100000
set_option maxHeartbeats 2000000
/-! FL36: dicts that the program has written (never changed): D[x], x in D, x not in D. -/
namespace FL
open PySem PySem.Spec PyProof.Rows L2
/-- what stands at a written dict's entries -/
inductive WEs (K : PySem.W.Frag) (w : World) : List DictEntry → List (FL.D × FL.D) → Prop
  | nil : WEs K w [] []
  | cons {e : DictEntry} {es : List DictEntry} {k : Key} {d : FL.D} {r : List (FL.D × FL.D)} : keyIs k e.key = true → e.hash = keyH w k → (∃ v, RelV v e.val ∧ IsC K d v) → WEs K w es r → WEs K w (e :: es) ((kD k, d) :: r)
theorem we_str {K : PySem.W.Frag} {w : World} {x : Str} {l : List Nat} {t : Tok} {u : Value} {d : FL.D} {es : List DictEntry} {r : List (FL.D × FL.D)} (hl : x.cps.toList = l) (h : ∃ v, RelV v u ∧ IsC K d v) (hr : WEs K w es r) : WEs K w (⟨PyData.keyHash w.params x, .str x t, u⟩ :: es) ((.str l, d) :: r) := by
  subst hl
  exact WEs.cons (k := .inr x) (keyIs_str x t) rfl h hr
theorem we_int {K : PySem.W.Frag} {w : World} {i : Int} {t : Tok} {u : Value} {d : FL.D} {es : List DictEntry} {r : List (FL.D × FL.D)} (h : ∃ v, RelV v u ∧ IsC K d v) (hr : WEs K w es r) : WEs K w (⟨hashInt i, .int i t, u⟩ :: es) ((.int i, d) :: r) :=
  WEs.cons (k := .inl i) (keyIs_int i t) rfl h hr
/-- the global x is a written dict -/
structure WD (K : PySem.W.Frag) (w : World) (mg : Str → Option Value) (x : Str) (c : List (FL.D × FL.D)) : Prop where
  ex : ∃ a es n, mg x = some (.ref a) ∧ K.lookup a = some ⟨.type "dict", none, .dict es n, #[]⟩ ∧ (a == sysModules) = false ∧ WEs K w es.toList c
theorem WEs.keys {K : PySem.W.Frag} {w : World} {P : Program} {l : List DictEntry} {c : List (FL.D × FL.D)} (h : WEs K w l c) : ∀ e ∈ l, ∃ k, (mixKind P w).is k e.key = true ∧ e.hash = (mixKind P w).hash k := by
  induction h with
  | nil => intro e he; cases he
  | cons h1 h2 _ _ ih =>
    intro e he
    rcases List.mem_cons.mp he with rfl | he
    · exact ⟨_, h1, h2⟩
    · exact ih e he
theorem WEs.find {K : PySem.W.Frag} {w : World} {P : Program} {l : List DictEntry} {c : List (FL.D × FL.D)} (h : WEs K w l c) (kk : Key) :
    (∀ d, dGet c (kD kk) = some d → ∃ e v, l.find? (fun e => (mixKind P w).is kk e.key) = some e ∧ RelV v e.val ∧ IsC K d v) ∧ (dGet c (kD kk) = none → l.find? (fun e => (mixKind P w).is kk e.key) = none) := by
  induction h with
  | nil => exact ⟨fun d e => (nomatch e), fun _ => rfl⟩
  | @cons e es k d r h1 h2 h3 _ ih =>
    have his : (mixKind P w).is kk e.key = decide (kk = k) := KeyKind.is_eq_decide (knd := mixKind P w) (show (mixKind P w).is k e.key = true from h1) kk
    rw [List.find?_cons, his]
    by_cases hk : kk = k
    · subst hk
      simp only [decide_true, dGet, kD_eq, if_true]
      refine ⟨fun d' e' => ?_, fun e' => nomatch e'⟩
      cases e'
      obtain ⟨v, hv⟩ := h3
      exact ⟨e, v, rfl, hv⟩
    · have hk' : ¬ k = kk := fun z => hk z.symm
      simp only [decide_eq_false hk, dGet, kD_eq, decide_eq_false hk', Bool.false_eq_true, if_false]
      exact ih
def oWix (c : List (FL.D × FL.D)) : Op1 := fun x h => if isKey x = true then (match dGet c x with
  | some d => some (d, h)
  | none => none) else none
def oWin (c : List (FL.D × FL.D)) : Op1 := fun x h => if isKey x = true then some (.bl (dGet c x).isSome, h) else none
def oWnin (c : List (FL.D × FL.D)) : Op1 := fun x h => if isKey x = true then some (.bl (!(dGet c x).isSome), h) else none
section
variable {X : Cx} {g : Gc} {W : WX} {fb : FE} {b : Expr} {x : Str} {c : List (FL.D × FL.D)} {pos p : Pos}
theorem WD.map {K : PySem.W.Frag} {w : World} {P : Program} {h : Heap} {a : Addr} {es : Array DictEntry} {n : Nat} (Y : K.In h) (l : K.lookup a = some ⟨.type "dict", none, .dict es n, #[]⟩) (we : WEs K w es.toList c) : h.MapOf (mixKind P w) a (fun k => findBy (mixKind P w).is es k) :=
  ⟨_, es, n, Y _ _ l, ⟨rfl, rfl, rfl⟩, rfl, fun e he => we.keys (P := P) e (Array.mem_toList_iff.mpr he), fun _ => rfl⟩
theorem WEs.findBy {K : PySem.W.Frag} {w : World} {P : Program} {es : Array DictEntry} (we : WEs K w es.toList c) (kk : Key) :
    (∀ d, dGet c (kD kk) = some d → ∃ u v, PySem.findBy (mixKind P w).is es kk = some u ∧ RelV v u ∧ IsC K d v) ∧ (dGet c (kD kk) = none → PySem.findBy (mixKind P w).is es kk = none) := by
  obtain ⟨l⟩ := es
  obtain ⟨f1, f2⟩ := we.find (P := P) kk
  unfold PySem.findBy
  rw [List.find?_toArray]
  refine ⟨fun d e => ?_, fun e => ?_⟩
  · obtain ⟨e, v, h1, h2, h3⟩ := f1 d e
    have h1' : List.find? (fun e => (mixKind P w).is kk e.key) l = some e := h1
    exact ⟨e.val, v, by rw [h1']; rfl, h2, h3⟩
  · have h1' : List.find? (fun e => (mixKind P w).is kk e.key) l = none := f2 e
    rw [h1']; rfl
/-- the operator behind a written dict's name -/
def rW (K : PySem.W.Frag) (g : Gc) (a : Addr) (o : Op1) : R2 := fun x y H Q => x = .ref a ∧ ∃ m h d, Sim K g m h H ∧ RD K m h.length H d y ∧ GoodO K g m h.length H Q (o d h)
def rW' (K : PySem.W.Frag) (g : Gc) (a : Addr) (o : Op1) : R2 := fun x y H Q => y = .ref a ∧ ∃ m h d, Sim K g m h H ∧ RD K m h.length H d x ∧ GoodO K g m h.length H Q (o d h)
theorem rd_W {o : Op1} {a : Addr} : ∀ σ H Q, rd X.K g W (e1 o fb) σ H Q → tOp (rW X.K g a o) (tC (.ref a)) (rd X.K g W fb) σ H Q := by
  rintro σ H Q ⟨δ, m, h, r, s, q⟩
  refine ⟨δ, m, h, r, s, Gd.bind q fun x h1 m1 H1 e1 s1 q1 v r1 => ?_⟩
  exact ⟨rfl, m1, h1, x, s1, r1, Gd.of q1⟩
theorem rd_W' {o : Op1} {a : Addr} : ∀ σ H Q, rd X.K g W (e1 o fb) σ H Q → tOp (rW' X.K g a o) (rd X.K g W fb) (tC (.ref a)) σ H Q := by
  rintro σ H Q ⟨δ, m, h, r, s, q⟩
  refine ⟨δ, m, h, r, s, Gd.bind q fun x h1 m1 H1 e1 s1 q1 v r1 => ?_⟩
  exact ⟨rfl, m1, h1, x, s1, r1, Gd.of q1⟩
theorem ixr_W {a : Addr} {es : Array DictEntry} {n : Nat} (l : X.K.lookup a = some ⟨.type "dict", none, .dict es n, #[]⟩) (we : WEs X.K X.w es.toList c) : IxR X (rW X.K g a (oWix c)) := by
  intro value slice pins s σ H x y v u Q I rx ry h hs
  obtain ⟨rfl, m, vh, d, sm, rd, q⟩ := h
  cases (show v = Value.ref a from rx)
  unfold oWix at q
  split at q
  · rename_i hk
    obtain ⟨kk, rfl, rfl, hok⟩ := key_of rd hk
    split at q
    · rename_i d' hd
      obtain ⟨f1, _⟩ := we.findBy (P := X.prog) kk
      obtain ⟨u0, v0, h1, h2, h3⟩ := f1 d' hd
      have hm := WD.map (P := X.prog) I.kIn l we
      exact tail_any hm.typeIs slot_dict_getitem.lookup (wpAny_getItem_of (kV_is ry) hm h1 ⟨v0, H, I.tok _, h2, q m H _ Ext.refl sm (h3 _ _ _)⟩) hs
    · exact q.elim
  · exact q.elim
theorem opr_Wnin {a : Addr} {es : Array DictEntry} {n : Nat} (l : X.K.lookup a = some ⟨.type "dict", none, .dict es n, #[]⟩) (lo : (a == sysModules) = false) (we : WEs X.K X.w es.toList c) : OpR X (compareOp .NotIn) (rW' X.K g a (oWnin c)) := by
  intro pins s σ H x y v u Q I rx ry h
  obtain ⟨rfl, m, vh, d, sm, rd, q⟩ := h
  cases (show u = Value.ref a from ry)
  unfold oWnin at q
  split at q
  · rename_i hk
    obtain ⟨kk, rfl, rfl, hok⟩ := key_of rd hk
    have hm := WD.map (P := X.prog) I.kIn l we
    refine wpAny_notIn_of (kV_is rx) lo hm ?_
    have hb : (PySem.findBy (mixKind X.prog X.w).is es kk).isSome = (dGet c (kD kk)).isSome := by
      obtain ⟨f1, f2⟩ := we.findBy (P := X.prog) kk
      cases hd : dGet c (kD kk) with
      | none => rw [f2 hd]; rfl
      | some d =>
        obtain ⟨u0, v0, h1, _⟩ := f1 d hd
        rw [h1]; rfl
    rw [hb]
    exact ⟨.bl _, H, I.tok _, rfl, q m H _ Ext.refl sm (.bl _)⟩
  · exact q.elim
theorem opr_Win {a : Addr} {es : Array DictEntry} {n : Nat} (l : X.K.lookup a = some ⟨.type "dict", none, .dict es n, #[]⟩) (lo : (a == sysModules) = false) (we : WEs X.K X.w es.toList c) : OpR X (compareOp .In) (rW' X.K g a (oWin c)) := by
  intro pins s σ H x y v u Q I rx ry h
  obtain ⟨rfl, m, vh, d, sm, rd, q⟩ := h
  cases (show u = Value.ref a from ry)
  unfold oWin at q
  split at q
  · rename_i hk
    obtain ⟨kk, rfl, rfl, hok⟩ := key_of rd hk
    have hm := WD.map (P := X.prog) I.kIn l we
    refine wpAny_in_of (kV_is rx) lo hm ?_
    have hb : (PySem.findBy (mixKind X.prog X.w).is es kk).isSome = (dGet c (kD kk)).isSome := by
      obtain ⟨f1, f2⟩ := we.findBy (P := X.prog) kk
      cases hd : dGet c (kD kk) with
      | none => rw [f2 hd]; rfl
      | some d =>
        obtain ⟨u0, v0, h1, _⟩ := f1 d hd
        rw [h1]; rfl
    rw [hb]
    exact ⟨.bl _, H, I.tok _, rfl, q m H _ Ext.refl sm (.bl _)⟩
  · exact q.elim
/-- D[b] -/
theorem fe_wix (hw : WD X.K X.w X.mg x c) (hb : PE X b (rd X.K g W fb)) (hg : Gl X x := by rfl) (hd : (x == ("__debug__" : Str)) = false := by decide) (hs : PlainIx b := by exact fun _ _ => rfl) : PE X (.Subscript (.Name x p) b pos) (rd X.K g W (e1 (oWix c) fb)) := by
  obtain ⟨a, es, n, h1, h2, h3, h4⟩ := hw.ex
  exact pe_weak (pe_ix (ixr_W (g := g) h2 h4) (pe_glob (v := .ref a) hg h1 rfl hd) hb hs) rd_W
theorem fe_wnin (hw : WD X.K X.w X.mg x c) (hb : PE X b (rd X.K g W fb)) (hm : behindInMarks .NotIn (.Name x p) = false := by rfl) (hg : Gl X x := by rfl) (hd : (x == ("__debug__" : Str)) = false := by decide) : PE X (.Compare b [.NotIn] [.Name x p] pos) (rd X.K g W (e1 (oWnin c) fb)) := by
  obtain ⟨a, es, n, h1, h2, h3, h4⟩ := hw.ex
  exact pe_weak (pe_cmpR (opr_Wnin (g := g) h2 h3 h4) hb (pe_glob (v := .ref a) hg h1 rfl hd) hm) rd_W'
theorem ft_wnin (hw : WD X.K X.w X.mg x c) (hb : PE X b (rd X.K g W fb)) (hm : behindInMarks .NotIn (.Name x p) = false := by rfl) (hg : Gl X x := by rfl) (hd : (x == ("__debug__" : Str)) = false := by decide) : PT X (.Compare b [.NotIn] [.Name x p] pos) (rt X.K g W (tV (e1 (oWnin c) fb))) := by
  obtain ⟨a, es, n, h1, h2, h3, h4⟩ := hw.ex
  exact pt_weak (pt_cmpR (opr_Wnin (g := g) h2 h3 h4) hb (pe_glob (v := .ref a) hg h1 rfl hd) hm) (rt_v rd_W')
theorem ft_win (hw : WD X.K X.w X.mg x c) (hb : PE X b (rd X.K g W fb)) (hm : behindInMarks .In (.Name x p) = false := by rfl) (hg : Gl X x := by rfl) (hd : (x == ("__debug__" : Str)) = false := by decide) : PT X (.Compare b [.In] [.Name x p] pos) (rt X.K g W (tV (e1 (oWin c) fb))) := by
  obtain ⟨a, es, n, h1, h2, h3, h4⟩ := hw.ex
  exact pt_weak (pt_cmpR (opr_Win (g := g) h2 h3 h4) hb (pe_glob (v := .ref a) hg h1 rfl hd) hm) (rt_v rd_W')
end
theorem wd_of {K : PySem.W.Frag} {w : World} {mg : Str → Option Value} {x : Str} {a : Addr} {es : Array DictEntry} {n : Nat} {c : List (FL.D × FL.D)} (h1 : mg x = some (.ref a)) (h2 : K.lookup a = some ⟨.type "dict", none, .dict es n, #[]⟩) (h3 : (a == sysModules) = false) (h4 : WEs K w es.toList c) : WD K w mg x c := ⟨a, es, n, h1, h2, h3, h4⟩
end FL
set_option Elab.async false
set_option linter.all false
set_option maxRecDepth 100000
set_option maxHeartbeats 2000000
/-! FL37: data at sight; comprehensions of two clauses worked out; sorting what is sorted. Plain. -/
namespace FL
open PySem
/-! ### data that needs no heap -/
def plainD : Nat → D → Bool
  | 0, _ => false
  | _ + 1, .non => true
  | _ + 1, .bl _ => true
  | _ + 1, .int _ => true
  | _ + 1, .str _ => true
  | n + 1, .tup xs => xs.all (plainD n)
  | n + 1, .fls xs => xs.all (plainD n)
  | _ + 1, _ => false
def toQ : Nat → D → PyData
  | 0, _ => .none
  | _ + 1, .non => .none
  | _ + 1, .bl b => .bool b
  | _ + 1, .int i => .int i
  | _ + 1, .str s => .str ⟨s.toArray⟩
  | n + 1, .tup xs => .tuple (xs.map (toQ n))
  | n + 1, .fls xs => .list (xs.map (toQ n))
  | _ + 1, _ => .none
theorem toP_plain : ∀ (n : Nat) (d : D), plainD n d = true → ∀ h, toP n h d = some (toQ n d)
  | 0, _, e, _ => by cases e
  | _ + 1, .non, _, _ => rfl
  | _ + 1, .bl _, _, _ => rfl
  | _ + 1, .int _, _, _ => rfl
  | _ + 1, .str _, _, _ => rfl
  | n + 1, .tup xs, e, h => by
    have e' : xs.all (plainD n) = true := e
    rw [List.all_eq_true] at e'
    have q := allS_of (f := toP n h) (k := toQ n) (l := xs) fun a ha => toP_plain n a (e' a ha) h
    show (match allS (xs.map (toP n h)) with
      | some l => some (PyData.tuple l)
      | none => none) = _
    rw [q]; rfl
  | n + 1, .fls xs, e, h => by
    have e' : xs.all (plainD n) = true := e
    rw [List.all_eq_true] at e'
    have q := allS_of (f := toP n h) (k := toQ n) (l := xs) fun a ha => toP_plain n a (e' a ha) h
    show (match allS (xs.map (toP n h)) with
      | some l => some (PyData.list l)
      | none => none) = _
    rw [q]; rfl
theorem toPs_plain {n : Nat} {xs : List D} (e : xs.all (plainD n) = true) (h : VH) : allS (xs.map (toP n h)) = some (xs.map (toQ n)) := by
  rw [List.all_eq_true] at e
  exact allS_of (f := toP n h) (k := toQ n) (l := xs) fun a ha => toP_plain n a (e a ha) h
theorem eqvAll_refl (xs : List PyData) (H : ∀ x ∈ xs, PyData.eqv x x = true) : PyData.eqvAll xs xs = true := by
  induction xs with
  | nil => rfl
  | cons x xs ih =>
    rw [PyData.eqvAll, H x List.mem_cons_self, ih fun y hy => H y (List.mem_cons_of_mem _ hy)]
    rfl
theorem eqv_toQ : ∀ (n : Nat) (d : D), PyData.eqv (toQ n d) (toQ n d) = true
  | 0, _ => rfl
  | _ + 1, .non => rfl
  | _ + 1, .bl _ => by simp [toQ, PyData.eqv]
  | _ + 1, .int _ => by simp [toQ, PyData.eqv]
  | _ + 1, .str _ => by simp [toQ, PyData.eqv]
  | n + 1, .tup xs => by
    simp only [toQ, PyData.eqv]
    exact eqvAll_refl _ fun x hx => by
      obtain ⟨a, _, rfl⟩ := List.mem_map.mp hx
      exact eqv_toQ n a
  | n + 1, .fls xs => by
    simp only [toQ, PyData.eqv]
    exact eqvAll_refl _ fun x hx => by
      obtain ⟨a, _, rfl⟩ := List.mem_map.mp hx
      exact eqv_toQ n a
  | _ + 1, .fdc _ _ => rfl
  | _ + 1, .ref _ => rfl
  | _ + 1, .ty _ => rfl
  | _ + 1, .adr _ => rfl
theorem eqD_same {x : D} {h : VH} (e : plainD deep x = true) : eqD x x h = some true := by
  unfold eqD
  rw [toP_plain _ _ e]
  exact congrArg some (eqv_toQ _ _)
/-- lists alike: one a thing of the heap, or none -/
theorem eqD_lists {x y : D} {h : VH} {xs : List D} (hx : lsOf x h = some xs) (hy : lsOf y h = some xs) (e : xs.all (plainD 11) = true) : eqD x y h = some true := by
  rw [eqD_ls hx hy (toPs_plain e h) (toPs_plain e h)]
  have := eqv_toQ 12 (.fls xs)
  exact congrArg some this
theorem cNe_lists {x y : D} {h : VH} {xs : List D} (hx : lsOf x h = some xs) (hy : lsOf y h = some xs) (e : xs.all (plainD 11) = true) : cNe x y h = some (.bl false, h) := by
  have q := eqD_lists hx hy e
  have e0 : ∀ x y : D, (lsOf x h).isSome = true → cNe x y h = match eqD x y h with
    | some b => some (.bl (!b), h)
    | none => none := by
    intro x y hx
    cases x with
    | fls _ => rfl
    | ref _ => rfl
    | _ => cases hx
  rw [e0 x y (by rw [hx]; rfl), q]
  rfl
theorem cEq_lists {x y : D} {h : VH} {xs : List D} (hx : lsOf x h = some xs) (hy : lsOf y h = some xs) (e : xs.all (plainD 11) = true) : cEq x y h = some (.bl true, h) := by
  have q := eqD_lists hx hy e
  have e0 : ∀ x y : D, (lsOf x h).isSome = true → cEq x y h = match eqD x y h with
    | some b => some (.bl b, h)
    | none => none := by
    intro x y hx
    cases x with
    | fls _ => rfl
    | ref _ => rfl
    | _ => cases hx
  rw [e0 x y (by rw [hx]; rfl), q]
theorem cNe_tups {xs : List D} {h : VH} (e : xs.all (plainD 11) = true) : cNe (.tup xs) (.tup xs) h = some (.bl false, h) := by
  have q : eqD (.tup xs) (.tup xs) h = some true := eqD_same (x := .tup xs) e
  show (match eqD (.tup xs) (.tup xs) h with
    | some b => some (D.bl (!b), h)
    | none => none) = _
  rw [q]; rfl
theorem cEq_tups {xs : List D} {h : VH} (e : xs.all (plainD 11) = true) : cEq (.tup xs) (.tup xs) h = some (.bl true, h) := by
  have q : eqD (.tup xs) (.tup xs) h = some true := eqD_same (x := .tup xs) e
  show (match eqD (.tup xs) (.tup xs) h with
    | some b => some (D.bl b, h)
    | none => none) = _
  rw [q]
/-- a tuple among a tuple's items -/
theorem inD_tup {xs ys : List D} {h : VH} (hx : plainD deep (.tup xs) = true) (hy : ys.all (plainD deep) = true) : inD (.tup xs) (.tup ys) h = some (ys.any fun y => PyData.eqv (toQ deep y) (toQ deep (.tup xs))) := by
  show (match toP deep h (.tup xs), allS (ys.map (toP deep h)) with
    | some a, some l => some (l.any fun z => PyData.eqv z a)
    | _, _ => none) = _
  rw [toP_plain _ _ hx, toPs_plain hy]
  dsimp only
  rw [List.any_map]
  rfl
theorem cNin_tup {xs ys : List D} {h : VH} (hx : plainD deep (.tup xs) = true) (hy : ys.all (plainD deep) = true) (hm : D.tup xs ∈ ys) : cNin (.tup xs) (.tup ys) h = some (.bl false, h) := by
  unfold cNin
  rw [inD_tup hx hy, List.any_eq_true.mpr ⟨_, hm, eqv_toQ _ _⟩]
  rfl
/-! ### data with no bool inside -/
def cleanD : Nat → D → Bool
  | 0, _ => false
  | _ + 1, .non => true
  | _ + 1, .int _ => true
  | _ + 1, .str _ => true
  | n + 1, .tup xs => xs.all (cleanD n)
  | n + 1, .fls xs => xs.all (cleanD n)
  | _ + 1, _ => false
theorem clean_plain : ∀ (n : Nat) (d : D), cleanD n d = true → plainD n d = true
  | 0, _, e => by cases e
  | _ + 1, .non, _ => rfl
  | _ + 1, .int _, _ => rfl
  | _ + 1, .str _, _ => rfl
  | n + 1, .tup xs, e => by
    have e' : xs.all (cleanD n) = true := e
    show xs.all (plainD n) = true
    rw [List.all_eq_true] at e' ⊢
    exact fun x hx => clean_plain n x (e' x hx)
  | n + 1, .fls xs, e => by
    have e' : xs.all (cleanD n) = true := e
    show xs.all (plainD n) = true
    rw [List.all_eq_true] at e' ⊢
    exact fun x hx => clean_plain n x (e' x hx)
  | _ + 1, .bl _, e => by cases e
  | _ + 1, .fdc _ _, e => by cases e
  | _ + 1, .ref _, e => by cases e
  | _ + 1, .ty _, e => by cases e
  | _ + 1, .adr _, e => by cases e
theorem eqvAll_inj {α : Type} {f : α → PyData} : ∀ {xs ys : List α}, (∀ x ∈ xs, ∀ y ∈ ys, PyData.eqv (f x) (f y) = true → x = y) → PyData.eqvAll (xs.map f) (ys.map f) = true → xs = ys
  | [], [], _, _ => rfl
  | [], _ :: _, _, e => by simp [PyData.eqvAll] at e
  | _ :: _, [], _, e => by simp [PyData.eqvAll] at e
  | x :: xs, y :: ys, H, e => by
    rw [List.map_cons, List.map_cons, PyData.eqvAll, Bool.and_eq_true] at e
    rw [H x List.mem_cons_self y List.mem_cons_self e.1, eqvAll_inj (fun a ha b hb => H a (List.mem_cons_of_mem _ ha) b (List.mem_cons_of_mem _ hb)) e.2]
theorem eqv_clean : ∀ (n : Nat) (a b : D), cleanD n a = true → cleanD n b = true → PyData.eqv (toQ n a) (toQ n b) = true → a = b
  | 0, _, _, e, _, _ => by cases e
  | n + 1, a, b, ha, hb, e => by
    cases a with
    | non => cases b <;> first | rfl | (cases hb; done) | (simp [toQ, PyData.eqv] at e)
    | int i => cases b <;> first | (cases hb; done) | (simp [toQ, PyData.eqv] at e; try rw [e])
    | str i => cases b <;> first | (cases hb; done) | (simp [toQ, PyData.eqv] at e; try rw [e])
    | tup xs =>
      cases b with
      | tup ys =>
        simp only [toQ, PyData.eqv] at e
        have h1 : xs.all (cleanD n) = true := ha
        have h2 : ys.all (cleanD n) = true := hb
        rw [List.all_eq_true] at h1 h2
        rw [eqvAll_inj (fun x hx y hy => eqv_clean n x y (h1 x hx) (h2 y hy)) e]
      | _ => first | (cases hb; done) | (simp [toQ, PyData.eqv] at e)
    | fls xs =>
      cases b with
      | fls ys =>
        simp only [toQ, PyData.eqv] at e
        have h1 : xs.all (cleanD n) = true := ha
        have h2 : ys.all (cleanD n) = true := hb
        rw [List.all_eq_true] at h1 h2
        rw [eqvAll_inj (fun x hx y hy => eqv_clean n x y (h1 x hx) (h2 y hy)) e]
      | _ => first | (cases hb; done) | (simp [toQ, PyData.eqv] at e)
    | _ => cases ha
/-! ### comprehensions of two clauses -/
section
variable {h h1 : VH} {δ : DS} {own own1 : List Nat} {g g1 : FG} {t1 : FT} {a a1 e : FE}
theorem lc2T_of {α β : Type} (en : α → D) (ys : α → List β) (en1 : α → β → D) (p : α → β → Bool) (f : α → β → D) : ∀ (xs : List α) (acc : List D), acc.length + (xs.flatMap ys).length ≤ 16777216 →
    (∀ x ∈ xs, ∃ δ1 d, g (en x) (wipe δ own) h = some (δ1, h) ∧ a1 δ1 h = .ok d h ∧ itOf d = some ((ys x).map (en1 x)) ∧ ∀ y ∈ ys x, ∃ δ2, g1 (en1 x y) (wipe δ1 own1) h = some (δ2, h) ∧ t1 δ2 h = .ok (p x y) h ∧ (p x y = true → e δ2 h = .ok (f x y) h)) →
    lc2T g tYes a1 g1 t1 e own own1 δ (xs.map en) h acc = .ok (acc ++ xs.flatMap fun x => ((ys x).filter (p x)).map (f x)) h
  | [], acc, _, _ => by simp [lc2T]
  | x :: xs, acc, hl, H => by
    obtain ⟨δ1, d, e1, e2, e3, e4⟩ := H x List.mem_cons_self
    rw [List.flatMap_cons, List.length_append] at hl
    have q := lcT_mapE (g := g1) (t := t1) (e := e) (own := own1) (δ := δ1) (h := h) (en1 x) (p x) (f x) (ys x) acc (by omega) e4
    have hf : (List.filter (p x) (ys x)).length ≤ (ys x).length := List.length_filter_le _ _
    have ih := lc2T_of en ys en1 p f xs (acc ++ ((ys x).filter (p x)).map (f x)) (by rw [List.length_append, List.length_map]; omega) fun y hy => H y (List.mem_cons_of_mem _ hy)
    rw [List.map_cons]
    unfold lc2T
    rw [e1]
    show (match a1 δ1 h with
      | .ok d h => (inX g1 t1 e own1 δ1 acc d h).bind fun acc h => lc2T g tYes a1 g1 t1 e own own1 δ (xs.map en) h acc
      | _ => .bad) = _
    rw [e2]
    show (inX g1 t1 e own1 δ1 acc d h).bind _ = _
    unfold inX
    rw [e3]
    show (lcT g1 t1 e own1 δ1 ((ys x).map (en1 x)) h acc).bind _ = _
    rw [q, bind_ok, ih, List.flatMap_cons, List.append_assoc]
theorem lc2_of {α β : Type} (en : α → D) (xs : List α) (ys : α → List β) (en1 : α → β → D) (p : α → β → Bool) (f : α → β → D) {d0 : D} (ha : a δ h = .ok d0 h1) (hd : itOf d0 = some (xs.map en)) (hl : (xs.flatMap ys).length ≤ 16777216)
    (H : ∀ x ∈ xs, ∃ δ1 d, g (en x) (wipe δ own) h1 = some (δ1, h1) ∧ a1 δ1 h1 = .ok d h1 ∧ itOf d = some ((ys x).map (en1 x)) ∧ ∀ y ∈ ys x, ∃ δ2, g1 (en1 x y) (wipe δ1 own1) h1 = some (δ2, h1) ∧ t1 δ2 h1 = .ok (p x y) h1 ∧ (p x y = true → e δ2 h1 = .ok (f x y) h1)) :
    eLc2 a g tYes a1 g1 t1 e own own1 δ h = .ok (.fls (xs.flatMap fun x => ((ys x).filter (p x)).map (f x))) h1 := by
  have q := lc2T_of (g := g) (a1 := a1) (g1 := g1) (t1 := t1) (e := e) (own := own) (own1 := own1) (δ := δ) (h := h1) en ys en1 p f xs [] (by simpa using hl) H
  show (a δ h).bind _ = _
  rw [ha, bind_ok]
  unfold lc2X
  rw [hd]
  show lcEnd (lc2T g tYes a1 g1 t1 e own own1 δ (xs.map en) h1 []) = _
  rw [q, List.nil_append]
  rfl
end
@[simp] theorem tru_bl {b : Bool} {h : VH} : tru (.bl b) h = some b := (rfl)
theorem extend_rf {h : VH} {k : Nat} {xs ys : List D} (e : h[k]? = some (.lst xs)) (hz : xs.length + ys.length ≤ 16777216) : mExtend (.ref k) [.fls ys] h = some (.non, h.set k (.lst (xs ++ ys))) := by
  have q : mExtend (.ref k) [.fls ys] h = (match h[k]?, lsOf (.fls ys) h with
    | some (.lst xs), some ys => if xs.length + ys.length ≤ 16777216 then some (.non, h.set k (.lst (xs ++ ys))) else none
    | _, _ => none) := rfl
  rw [q, e]
  exact if_pos hz
theorem set_last {α : Type} (h : List α) (a b : α) : (h ++ [a]).set h.length b = h ++ [b] := by simp
/-! ### sorting -/
theorem dataLe_tot {α : Type} (u : α → PyData) : PySem.W.TotalLe (PySem.W.dataLe false u) := PySem.W.sortLe_total _ _ _
/-- what is sorted, sorted -/
theorem bSort2_again {α : Type} {x : D} {h : VH} {l : List α} (f : α → D) (u : α → PyData) (hi : itemsOfX x h = some ((l.mergeSort fun a b => PySem.W.dataLe false u a b).map f)) (hu : ∀ a ∈ l, toP deep h (f a) = some (u a)) (ha : ∀ a ∈ l, ∀ b ∈ l, PySem.W.alike (u a) (u b) = true) (hs : ∀ l' : List α, (∀ a ∈ l', a ∈ l) → sortable (l'.map u) = true) :
    bSort2 [x] h = some (.fls ((l.mergeSort fun a b => PySem.W.dataLe false u a b).map f), h) := by
  have hm : ∀ a ∈ l.mergeSort fun a b => PySem.W.dataLe false u a b, a ∈ l := fun a ha => (List.mergeSort_perm l _).mem_iff.mp ha
  rw [bSort2_of f u hi (fun a h => hu a (hm a h)) (fun a h1 b h2 => ha a (hm a h1) b (hm b h2)) (hs _ hm)]
  have T := dataLe_tot u
  have p : (l.mergeSort fun a b => PySem.W.dataLe false u a b).Pairwise fun a b => PySem.W.dataLe false u a b = true := PySem.W.sort_pairwise T l
  rw [List.mergeSort_of_pairwise p]
end FL
set_option Elab.async false
set_option linter.all false
set_option maxRecDepth 100000
set_option maxHeartbeats 2000000
/-! FL38: a law's rounds, the dice in any slot, something kept. Plain. -/
namespace FL
open PySem
theorem rounds_runG {N d : Nat} {body : FSt} (I : DS → Prop) (hN : d < N) (hI : ∀ δ x, I δ → I (δ.set d x)) (H : ∀ (δ : DS) (h : VH) (j : Nat) (s : Dc), δ.length = N → I δ → δ[d]? = some (some (.ref j)) → j < h.length → OkS (fun δ' h' => (δ'.length = N ∧ I δ') ∧ ∃ s' g, h' = h.set j (dO s') ++ g) (body δ (h.set j (dO s)))) :
    ∀ (n : Nat) (k : Nat) (δ : DS) (h : VH), δ.length = N → I δ → (∀ i, k ≤ i → i < k + n → ∃ s, h[i]? = some (dO s)) → ∃ δ' h', forT (gN d) body (refsN k n) δ h = .nx δ' h'
  | 0, k, δ, h, _, _, _ => ⟨δ, h, rfl⟩
  | n + 1, k, δ, h, hδ, hi, hd => by
    have e : refsN k (n + 1) = D.ref k :: refsN (k + 1) n := by
      unfold refsN
      rw [List.range_succ_eq_map]
      simp [Function.comp_def, Nat.add_assoc, Nat.add_comm 1]
    rw [e, forT_cons, ap_gN, tgS_some]
    obtain ⟨s, hs⟩ := hd k (Nat.le_refl _) (by omega)
    have hk := hp_lt hs
    have hset : h.set k (dO s) = h := by
      refine List.ext_getElem? fun i => ?_
      by_cases hi : k = i
      · subst hi
        rw [List.getElem?_set_self hk, hs]
      · rw [List.getElem?_set_ne hi]
    obtain ⟨δ1, h1, e1, ⟨hl, hi1⟩, s', g, eh⟩ := (H (δ.set d (some (.ref k))) h k s (by rw [List.length_set]; exact hδ) (hI _ _ hi) (List.getElem?_set_self (by omega)) hk).ex
    rw [hset] at e1
    rw [e1, loopS_nx]
    refine rounds_runG I hN hI H n (k + 1) δ1 h1 hl hi1 fun i h2 h3 => ?_
    obtain ⟨s2, hs2⟩ := hd i (by omega) (by omega)
    exact ⟨s2, by rw [eh]; exact hp_old (by rw [List.getElem?_set_ne (by omega)]; exact hs2)⟩
theorem rounds_for {N d : Nat} {body : FSt} {m : Int} (I : DS → Prop) (hN : d < N) (hI : ∀ δ x, I δ → I (δ.set d x)) (H : ∀ (δ : DS) (h : VH) (j : Nat) (s : Dc), δ.length = N → I δ → δ[d]? = some (some (.ref j)) → j < h.length → OkS (fun δ' h' => (δ'.length = N ∧ I δ') ∧ ∃ s' g, h' = h.set j (dO s') ++ g) (body δ (h.set j (dO s))))
    {x : D} {h : VH} {δ : DS} {ns : List Int} (hx : lsOf x h = some (ns.map D.int)) (hl : ns.length ≤ 63) (h0 : δ[0]? = some (some x)) (hδ : δ.length = N) (hi : I δ) : ∃ δ' h', sFor (eF roundsS (aCons (eV 0) (aCons (eC (.int m)) aNil))) (gN d) body δ h = .nx δ' h' := by
  have hl' : ns.length ≤ 1000 := by omega
  have er : roundsS [x, .int m] h = .ok (.fls (refsN h.length (cellsN ns m).length)) (h ++ (cellsN ns m).map fun c => dO (dice0 c)) := by
    simp only [roundsS, hx, allI_ints, hl', if_true]
  obtain ⟨δ', h', e⟩ := rounds_runG I hN hI H (cellsN ns m).length h.length δ (h ++ (cellsN ns m).map fun c => dO (dice0 c)) hδ hi (fun i h1 h2 => by
    obtain ⟨k, rfl⟩ := Nat.le.dest h1
    rw [hp_at, List.getElem?_map]
    have hk : k < (cellsN ns m).length := by omega
    exact ⟨_, by rw [List.getElem?_eq_getElem hk]; rfl⟩)
  refine ⟨δ', h', ?_⟩
  simp only [ap_sFor, ap_eF, ap_aCons, ap_eV, h0, vK_some, bind_ok, ap_eC, ap_aNil, er, thenS_ok, forX_fls, e]
theorem set_app {α : Type} {h g : List α} {j : Nat} {x : α} (hj : j < h.length) : (h ++ g).set j x = h.set j x ++ g := List.set_append_left _ _ hj
/-- over a list of the heap that stays, nothing changed -/
theorem lcRef_mapE {α : Type} {j : Nat} {g : FG} {t : FT} {e : FE} {own : List Nat} {δ : DS} {h : VH} (en : α → D) (p : α → Bool) (f : α → D) (xs : List α) (hj : h[j]? = some (.lst (xs.map en))) (hl : xs.length ≤ 16777216)
    (H : ∀ x ∈ xs, ∃ δ1, g (en x) (wipe δ own) h = some (δ1, h) ∧ t δ1 h = .ok (p x) h ∧ (p x = true → e δ1 h = .ok (f x) h)) : lcX g t e own δ (.ref j) h = .ok (.fls ((xs.filter p).map f)) h := by
  rw [lcX_ref, hj, lrK_lst, lcL_eq (xs := xs.map en) (fun h' => h' = h) (fun h' e => by rw [e]; exact hj) (fun x hx h' eh => by
    subst eh
    obtain ⟨y, hy, rfl⟩ := List.mem_map.mp hx
    obtain ⟨δ1, e1, e2, e3⟩ := H y hy
    rw [e1]
    dsimp only
    rw [e2]
    cases hp : p y with
    | false => rfl
    | true =>
      dsimp only
      rw [e3 hp]) _ _ h [] (by omega) (Nat.zero_le _) rfl, List.drop_zero, lcT_mapE en p f xs [] (by simpa using hl) H]
  simp
end FL
set_option Elab.async false
set_option linter.all false
set_option maxRecDepth 100000
set_option maxHeartbeats 4000000
noncomputable section
namespace K04
open PySem PySem.Spec PyProof.Rows L2 FL
def top (i : Nat) : Stmt := PySem.Challenge.pw_tonguehall_k04_forms_of_words.main.body.getD i (.Pass ⟨0, 0, 0, 0⟩)
def sub : Nat → Nat → Bool := fun c k => decide (c = k)
def c_VOWELS : FL.D := .str [97, 101, 105, 111, 117]
def c_OTHERS : FL.D := .str [98, 100, 102, 103, 107, 108, 109, 110, 112, 114, 115, 116, 118, 122]
def c_CASES : FL.D := .tup [.str [100, 111, 101, 114], .str [100, 111, 110, 101], .str [111, 119, 110, 101, 114], .str [112, 108, 97, 99, 101]]
def c_TIMES : FL.D := .tup [.str [110, 111, 119], .str [112, 97, 115, 116], .str [116, 111, 32, 99, 111, 109, 101]]
def c_PERSONS : FL.D := .tup [.str [117], .str [105, 115], .str [101], .str [117, 109, 111], .str [105, 116, 101], .str [101, 110]]
def c_WHO : FL.D := .tup [.str [109, 105], .str [116, 105], .str [108, 111], .str [108, 97]]
def c_SMALL : FL.D := .tup [.str [110, 101], .str [107, 117], .str [107, 101, 108]]
def c_ENDINGS : List (FL.D × FL.D) := [(.int 0, .tup [.str [111], .str [111, 109], .str [101, 115], .str [117, 108]]), (.int 1, .tup [.str [97], .str [97, 109], .str [105, 115], .str [117, 108]])]
def c_AHEAD : List (FL.D × FL.D) := [(.str [110, 111, 119], .str []), (.str [112, 97, 115, 116], .str [97, 114]), (.str [116, 111, 32, 99, 111, 109, 101], .str [101, 118])]
abbrev s_law_told : Stmt := top 33
def tells : List (Nat × List Nat) := [(0, [119, 111, 114, 100]), (1, [98, 111, 111, 107]), (2, [110, 111, 32, 119, 97, 121]), (3, [108, 97, 114, 103, 101])]
/-! ### is_word: slots 0 thing, 1 sign -/
abbrev s_is_word : Stmt := top 9
def b_is_word : FSt :=
  (sSeq (sIf (tOr (tNot (tV (eB bIsi (aCons (eV 0) (aCons (eC (.ty "str")) aNil))))) (tNot (tV (eCh cLe cLe (eC (.int 1)) (eB bLen (aCons (eV 0) aNil)) (eC (.int 30)))))) (sRet (eC (.bl false))) sNil)
  (sRet (eAnd (eStG false (eV 0) (gN 1) tYes (e2 cIn (eV 1) (e2 oAdd (eC c_VOWELS) (eC c_OTHERS))) [1]) (eStG true (eV 0) (gN 1) tYes (e2 cIn (eV 1) (eC c_VOWELS)) [1]))))
theorem sc_is_word : FnScope ["thing", "sign"] ["thing"] (defScope s_is_word) := ⟨rfl, rfl, rfl, by decide +kernel, rfl, by decide +kernel, by decide +kernel⟩
theorem x_is_word {P : Program} {w : World} {K : PySem.W.Frag} {mg : Str → Option Value} {base : Heap} {g : Gc} {k : Nat} (n_isinstance : mg "isinstance" = none) (n_str : mg "str" = none) (n_len : mg "len" = none) (C_VOWELS : Cst K mg "VOWELS" c_VOWELS) (C_OTHERS : Cst K mg "OTHERS" c_OTHERS) (n_all : mg "all" = none) (n_any : mg "any" = none) {cs : List (Addr × Addr)} (KD : KeyD K mg g cs "is_word" s_is_word ["thing"] (PySem.Str.ofString "is_word.<locals>.<genexpr>")) (hTB : ∀ p ∈ cs, LamX.TabB base mg p.1 p.2) :
    Df P w K mg base g (k + 4) "is_word" (runF 1 2 (b_is_word)) := by
  refine KD.df hTB sc_is_word fun f c Pt A outer s H E TB hmT hu hr3 => ?_
  have hN := sc_is_word.nd
  have hr : Room k _ := hr3.mono (by omega)
  exact (fss_cons (fs_if (ft_w (fw_or (ft_not (ft_val (fe_B cr_isi n_isinstance (fa_cons (fe_var 0) (fa_cons (fe_ty n_str) fa_nil))))) (fw_or1 (ft_not (ft_ch or_le or_le fe_int (fe_B cr_len n_len (fa_cons (fe_var 0) fa_nil)) fe_int))))) (fss_one (fs_ret fe_bl)) fss_nil)
  (fss_one (fs_ret (fe_and (fe_allG n_all TB rfl hmT hu hN hr3 (fe_var 0) (GenP.mk (own := [("sign", 1)]) (clo_by (N := ["thing", "sign"]) (sc := defScope s_is_word) (by decide +kernel)) rfl (fun A s H L code fp hr => (fg_name hN rfl (by first | exact .inl rfl | exact .inr rfl))) (fun A s H L code fp hr => fts_nil) (fun A s H L code fp hr => (fe_cmp (or_in (u65 hr)) (fe_var 1) (fe_op or_add (fe_cst C_VOWELS) (fe_cst C_OTHERS)) (by rfl))))) (fe_one (fe_anyG n_any TB rfl hmT hu hN hr3 (fe_var 0) (GenP.mk (own := [("sign", 1)]) (clo_by (N := ["thing", "sign"]) (sc := defScope s_is_word) (by decide +kernel)) rfl (fun A s H L code fp hr => (fg_name hN rfl (by first | exact .inl rfl | exact .inr rfl))) (fun A s H L code fp hr => fts_nil) (fun A s H L code fp hr => (fe_cmp (or_in (u65 hr)) (fe_var 1) (fe_cst C_VOWELS) (by rfl))))))))))
/-! ### is_stem: slots 0 thing -/
abbrev s_is_stem : Stmt := top 18
def b_is_stem (F_is_word : List FL.D → VH → Out FL.D) : FSt :=
  (sRet (eAnd (eF F_is_word (aCons (eV 0) aNil)) (eAnd (e2 cLe (eB bLen (aCons (eV 0) aNil)) (eC (.int 12))) (e2 cNin (eV 0) (e2 oAdd (eC c_SMALL) (eC c_WHO))))))
theorem sc_is_stem : FnScope ["thing"] ["thing"] (defScope s_is_stem) := ⟨rfl, rfl, rfl, by decide +kernel, rfl, by decide +kernel, by decide +kernel⟩
theorem x_is_stem {P : Program} {w : World} {K : PySem.W.Frag} {mg : Str → Option Value} {base : Heap} {g : Gc} {k : Nat} (n_len : mg "len" = none) (C_SMALL : Cst K mg "SMALL" c_SMALL) (C_WHO : Cst K mg "WHO" c_WHO) {F_is_word : List FL.D → VH → Out FL.D} (d_is_word : Df P w K mg base g k "is_word" F_is_word) {f : Addr} {fd : FuncData} (Fn : L2.Fun K "is_stem" "is_stem" s_is_stem f fd) (hm : mg "is_stem" = some (.ref f)) (hb : Binds K fd ["thing"] []) :
    Df P w K mg base g (k + 1) "is_stem" (runF 1 1 (b_is_stem F_is_word)) := by
  refine Df.mkD Fn sc_is_stem hm hb fun cdv A outer s H E hr => ?_
  have hN := sc_is_stem.nd
  exact (fss_one (fs_ret (fe_and (fe_F d_is_word tkF hr (fa_cons (fe_var 0) fa_nil) (Nat.le_refl _)) (fe_and (fe_cmp or_le (fe_B cr_len n_len (fa_cons (fe_var 0) fa_nil)) fe_int (by rfl)) (fe_one (fe_cmp (or_nin (u65 hr)) (fe_var 0) (fe_op or_add (fe_cst C_SMALL) (fe_cst C_WHO)) (by rfl)))))))
/-! ### joined: slots 0 stem, 1 ending, 2 last, 3 first -/
abbrev s_joined : Stmt := top 19
def b_joined : FSt :=
  (sSeq (sIf (tV (e2 cEq (eV 1) (eC (.str [])))) (sRet (eV 0)) sNil)
  (sSeq (sPar 2 3 (aCons (e2 oIx (eV 0) (e1 oNeg (eC (.int 1)))) (aCons (e2 oIx (eV 1) (eC (.int 0))) aNil)))
  (sSeq (sIf (tAnd (tV (e2 cIn (eV 2) (eC c_VOWELS))) (tV (e2 cIn (eV 3) (eC c_VOWELS)))) (sRet (e2 oAdd (e2 oAdd (eV 0) (eC (.str [110]))) (eV 1))) sNil)
  (sSeq (sIf (tAnd (tV (e2 cEq (eV 2) (eC (.str [107])))) (tV (e2 cIn (eV 3) (eC (.str [101, 105]))))) (sRet (e2 oAdd (e2 oAdd (eSl (eV 0) pNo (pSo (e1 oNeg (eC (.int 1))))) (eC (.str [115]))) (eV 1))) sNil)
  (sSeq (sIf (tAnd (tV (e2 cEq (eV 2) (eC (.str [116])))) (tV (e2 cEq (eV 3) (eC (.str [105]))))) (sRet (e2 oAdd (e2 oAdd (eSl (eV 0) pNo (pSo (e1 oNeg (eC (.int 1))))) (eC (.str [122]))) (eV 1))) sNil)
  (sRet (e2 oAdd (eV 0) (eV 1))))))))
theorem sc_joined : FnScope ["stem", "ending", "last", "first"] ["stem", "ending"] (defScope s_joined) := ⟨rfl, rfl, rfl, by decide +kernel, rfl, by decide +kernel, by decide +kernel⟩
theorem x_joined {P : Program} {w : World} {K : PySem.W.Frag} {mg : Str → Option Value} {base : Heap} {g : Gc} {k : Nat} (C_VOWELS : Cst K mg "VOWELS" c_VOWELS) {f : Addr} {fd : FuncData} (Fn : L2.Fun K "joined" "joined" s_joined f fd) (hm : mg "joined" = some (.ref f)) (hb : Binds K fd ["stem", "ending"] []) :
    Df P w K mg base g (k + 1) "joined" (runF 2 4 (b_joined)) := by
  refine Df.mkD Fn sc_joined hm hb fun cdv A outer s H E hr => ?_
  have hN := sc_joined.nd
  exact (fss_cons (fs_if (ft_cmp (or_eq (u64 hr)) (fe_var 1) fe_str (by rfl)) (fss_one (fs_ret (fe_var 0))) fss_nil)
  (fss_cons (fs_par (i := 2) (j := 3) rfl hN rfl rfl (by decide) rfl rfl (fa_cons (fe_ix (u1 hr) (fe_var 0) (fe_neg fe_int)) (fa_cons (fe_ix (u1 hr) (fe_var 1) fe_int) fa_nil)) rfl)
  (fss_cons (fs_if (ft_w (fw_and (ft_cmp (or_in (u65 hr)) (fe_var 2) (fe_cst C_VOWELS) (by rfl)) (fw_and1 (ft_cmp (or_in (u65 hr)) (fe_var 3) (fe_cst C_VOWELS) (by rfl))))) (fss_one (fs_ret (fe_op or_add (fe_op or_add (fe_var 0) fe_str) (fe_var 1)))) fss_nil)
  (fss_cons (fs_if (ft_w (fw_and (ft_cmp (or_eq (u64 hr)) (fe_var 2) fe_str (by rfl)) (fw_and1 (ft_cmp (or_in (u65 hr)) (fe_var 3) fe_str (by rfl))))) (fss_one (fs_ret (fe_op or_add (fe_op or_add (fe_sl (fe_var 0) fo_none (fo_some (fe_neg fe_int))) fe_str) (fe_var 1)))) fss_nil)
  (fss_cons (fs_if (ft_w (fw_and (ft_cmp (or_eq (u64 hr)) (fe_var 2) fe_str (by rfl)) (fw_and1 (ft_cmp (or_eq (u64 hr)) (fe_var 3) fe_str (by rfl))))) (fss_one (fs_ret (fe_op or_add (fe_op or_add (fe_sl (fe_var 0) fo_none (fo_some (fe_neg fe_int))) fe_str) (fe_var 1)))) fss_nil)
  (fss_one (fs_ret (fe_op or_add (fe_var 0) (fe_var 1)))))))))
/-! ### thing_form: slots 0 stem, 1 kind, 2 case, 3 many -/
abbrev s_thing_form : Stmt := top 20
def b_thing_form (F_joined : List FL.D → VH → Out FL.D) : FSt :=
  (sSeq (sIf (tOr (tV (e1 (oWnin c_ENDINGS) (eV 1))) (tV (e2 cNin (eV 2) (eC c_CASES)))) (sRaise 0) sNil)
  (sRet (eF F_joined (aCons (eV 0) (aCons (e2 oAdd (e2 oIx (e1 (oWix c_ENDINGS) (eV 1)) (eM isT mIndexT (eC c_CASES) (aCons (eV 2) aNil))) (eIf (tTr (eV 3)) (eC (.str [105])) (eC (.str [])))) aNil)))))
theorem sc_thing_form : FnScope ["stem", "kind", "case", "many"] ["stem", "kind", "case", "many"] (defScope s_thing_form) := ⟨rfl, rfl, rfl, by decide +kernel, rfl, by decide +kernel, by decide +kernel⟩
theorem x_thing_form {P : Program} {w : World} {K : PySem.W.Frag} {mg : Str → Option Value} {base : Heap} {g : Gc} {k : Nat} (D_ENDINGS : WD K w mg "ENDINGS" c_ENDINGS) (C_CASES : Cst K mg "CASES" c_CASES) (e_BadWord : Er K mg g 0 "BadWord") {F_joined : List FL.D → VH → Out FL.D} (d_joined : Df P w K mg base g k "joined" F_joined) {f : Addr} {fd : FuncData} (Fn : L2.Fun K "thing_form" "thing_form" s_thing_form f fd) (hm : mg "thing_form" = some (.ref f)) (hb : Binds K fd ["stem", "kind", "case", "many"] []) :
    Df P w K mg base g (k + 1) "thing_form" (runF 4 4 (b_thing_form F_joined)) := by
  refine Df.mkD Fn sc_thing_form hm hb fun cdv A outer s H E hr => ?_
  have hN := sc_thing_form.nd
  exact (fss_cons (fs_if (ft_w (fw_or (ft_wnin D_ENDINGS (fe_var 1)) (fw_or1 (ft_cmp (or_nin (u65 hr)) (fe_var 2) (fe_cst C_CASES) (by rfl))))) (fss_one (fs_raise e_BadWord rfl tkF)) fss_nil)
  (fss_one (fs_ret (fe_F d_joined tkF hr (fa_cons (fe_var 0) (fa_cons (fe_op or_add (fe_ix (u1 hr) (fe_wix D_ENDINGS (fe_var 1)) (fe_M PySem.F.plainAttrs_tuple PySem.F.slot_tuple_index PySem.F.type_tuple_index (mr_indexT (u65 hr)) ty_tup (fe_cst C_CASES) (fa_cons (fe_var 2) fa_nil))) (fe_if (ft_tru (fe_var 3)) fe_str fe_str)) fa_nil)) (Nat.le_refl _)))))
/-! ### deed_form: slots 0 stem, 1 time, 2 person, 3 many -/
abbrev s_deed_form : Stmt := top 21
def b_deed_form (F_joined : List FL.D → VH → Out FL.D) : FSt :=
  (sSeq (sIf (tOr (tV (e2 cNin (eV 1) (eC c_TIMES))) (tV (e2 cNin (eV 2) (eTup (aCons (eC (.int 1)) (aCons (eC (.int 2)) (aCons (eC (.int 3)) aNil))))))) (sRaise 0) sNil)
  (sRet (eF F_joined (aCons (eV 0) (aCons (e2 oAdd (e1 (oWix c_AHEAD) (eV 1)) (e2 oIx (eC c_PERSONS) (e2 oAdd (e2 oSub (eV 2) (eC (.int 1))) (eIf (tTr (eV 3)) (eC (.int 3)) (eC (.int 0)))))) aNil)))))
theorem sc_deed_form : FnScope ["stem", "time", "person", "many"] ["stem", "time", "person", "many"] (defScope s_deed_form) := ⟨rfl, rfl, rfl, by decide +kernel, rfl, by decide +kernel, by decide +kernel⟩
theorem x_deed_form {P : Program} {w : World} {K : PySem.W.Frag} {mg : Str → Option Value} {base : Heap} {g : Gc} {k : Nat} (C_TIMES : Cst K mg "TIMES" c_TIMES) (e_BadWord : Er K mg g 0 "BadWord") (D_AHEAD : WD K w mg "AHEAD" c_AHEAD) (C_PERSONS : Cst K mg "PERSONS" c_PERSONS) {F_joined : List FL.D → VH → Out FL.D} (d_joined : Df P w K mg base g k "joined" F_joined) {f : Addr} {fd : FuncData} (Fn : L2.Fun K "deed_form" "deed_form" s_deed_form f fd) (hm : mg "deed_form" = some (.ref f)) (hb : Binds K fd ["stem", "time", "person", "many"] []) :
    Df P w K mg base g (k + 1) "deed_form" (runF 4 4 (b_deed_form F_joined)) := by
  refine Df.mkD Fn sc_deed_form hm hb fun cdv A outer s H E hr => ?_
  have hN := sc_deed_form.nd
  exact (fss_cons (fs_if (ft_w (fw_or (ft_cmp (or_nin (u65 hr)) (fe_var 1) (fe_cst C_TIMES) (by rfl)) (fw_or1 (ft_cmp (or_nin (u65 hr)) (fe_var 2) (fe_tup (fa_cons fe_int (fa_cons fe_int (fa_cons fe_int fa_nil)))) (by rfl))))) (fss_one (fs_raise e_BadWord rfl tkF)) fss_nil)
  (fss_one (fs_ret (fe_F d_joined tkF hr (fa_cons (fe_var 0) (fa_cons (fe_op or_add (fe_wix D_AHEAD (fe_var 1)) (fe_ix (u1 hr) (fe_cst C_PERSONS) (fe_op or_add (fe_op or_sub (fe_var 2) fe_int) (fe_if (ft_tru (fe_var 3)) fe_int fe_int)))) fa_nil)) (Nat.le_refl _)))))
/-! ### who_form: slots 0 who, 1 case, 2 many -/
abbrev s_who_form : Stmt := top 22
def b_who_form : FSt :=
  (sSeq (sIf (tOr (tV (e2 cNin (eV 0) (eC c_WHO))) (tV (e2 cNin (eV 1) (eC c_CASES)))) (sRaise 0) sNil)
  (sRet (e2 oAdd (e2 oAdd (eV 0) (eIf (tTr (eV 2)) (e2 oAdd (eC (.str [114])) (e2 oIx (eC (.str [97, 101, 105, 111])) (eM isT mIndexT (eC c_WHO) (aCons (eV 0) aNil)))) (eC (.str [])))) (e2 oIx (eTup (aCons (eC (.str [])) (aCons (eC (.str [110])) (aCons (eC (.str [115])) (aCons (eC (.str [108])) aNil))))) (eM isT mIndexT (eC c_CASES) (aCons (eV 1) aNil))))))
theorem sc_who_form : FnScope ["who", "case", "many"] ["who", "case", "many"] (defScope s_who_form) := ⟨rfl, rfl, rfl, by decide +kernel, rfl, by decide +kernel, by decide +kernel⟩
theorem x_who_form {P : Program} {w : World} {K : PySem.W.Frag} {mg : Str → Option Value} {base : Heap} {g : Gc} {k : Nat} (C_WHO : Cst K mg "WHO" c_WHO) (C_CASES : Cst K mg "CASES" c_CASES) (e_BadWord : Er K mg g 0 "BadWord") {f : Addr} {fd : FuncData} (Fn : L2.Fun K "who_form" "who_form" s_who_form f fd) (hm : mg "who_form" = some (.ref f)) (hb : Binds K fd ["who", "case", "many"] []) :
    Df P w K mg base g (k + 1) "who_form" (runF 3 3 (b_who_form)) := by
  refine Df.mkD Fn sc_who_form hm hb fun cdv A outer s H E hr => ?_
  have hN := sc_who_form.nd
  exact (fss_cons (fs_if (ft_w (fw_or (ft_cmp (or_nin (u65 hr)) (fe_var 0) (fe_cst C_WHO) (by rfl)) (fw_or1 (ft_cmp (or_nin (u65 hr)) (fe_var 1) (fe_cst C_CASES) (by rfl))))) (fss_one (fs_raise e_BadWord rfl tkF)) fss_nil)
  (fss_one (fs_ret (fe_op or_add (fe_op or_add (fe_var 0) (fe_if (ft_tru (fe_var 2)) (fe_op or_add fe_str (fe_ix (u1 hr) fe_str (fe_M PySem.F.plainAttrs_tuple PySem.F.slot_tuple_index PySem.F.type_tuple_index (mr_indexT (u65 hr)) ty_tup (fe_cst C_WHO) (fa_cons (fe_var 0) fa_nil)))) fe_str)) (fe_ix (u1 hr) (fe_tup (fa_cons fe_str (fa_cons fe_str (fa_cons fe_str (fa_cons fe_str fa_nil))))) (fe_M PySem.F.plainAttrs_tuple PySem.F.slot_tuple_index PySem.F.type_tuple_index (mr_indexT (u65 hr)) ty_tup (fe_cst C_CASES) (fa_cons (fe_var 1) fa_nil)))))))
/-! ### forms_of_thing: slots 0 stem, 1 kind, 2 case, 3 many -/
abbrev s_forms_of_thing : Stmt := top 23
def b_forms_of_thing (F_thing_form : List FL.D → VH → Out FL.D) : FSt :=
  (sRet (eB bTup (aCons (eLc2 (eC c_CASES) (gN 2) tYes (eTup (aCons (eC (.bl false)) (aCons (eC (.bl true)) aNil))) (gN 3) tYes (eTup (aCons (eF F_thing_form (aCons (eV 0) (aCons (eV 1) (aCons (eV 2) (aCons (eV 3) aNil))))) (aCons (eV 2) (aCons (eV 3) aNil)))) [2, 3] [3]) aNil)))
theorem sc_forms_of_thing : FnScope ["stem", "kind", "case", "many"] ["stem", "kind"] (defScope s_forms_of_thing) := ⟨rfl, rfl, rfl, by decide +kernel, rfl, by decide +kernel, by decide +kernel⟩
theorem x_forms_of_thing {P : Program} {w : World} {K : PySem.W.Frag} {mg : Str → Option Value} {base : Heap} {g : Gc} {k : Nat} (n_tuple : mg "tuple" = none) (C_CASES : Cst K mg "CASES" c_CASES) {F_thing_form : List FL.D → VH → Out FL.D} (d_thing_form : Df P w K mg base g k "thing_form" F_thing_form) {f : Addr} {fd : FuncData} (Fn : L2.Fun K "forms_of_thing" "forms_of_thing" s_forms_of_thing f fd) (hm : mg "forms_of_thing" = some (.ref f)) (hb : Binds K fd ["stem", "kind"] []) :
    Df P w K mg base g (k + 1) "forms_of_thing" (runF 2 4 (b_forms_of_thing F_thing_form)) := by
  refine Df.mkD Fn sc_forms_of_thing hm hb fun cdv A outer s H E hr => ?_
  have hN := sc_forms_of_thing.nd
  exact (fss_one (fs_ret (fe_BT cr_tup n_tuple (fa_cons (fe_lc2 rfl hN (fe_cst C_CASES) (Lc2P.mk (own := [("case", 2), ("many", 3)]) (sl1 := [3]) (blk_by (N := ["stem", "kind", "case", "many"]) (sc := defScope s_forms_of_thing) (by decide +kernel)) (by decide) (fun s H C cl fp => (fg_name hN rfl (by first | exact .inl rfl | exact .inr rfl))) (fun s H C cl fp => fts_nil) (fun s H C cl fp => (fe_tup (fa_cons fe_bl (fa_cons fe_bl fa_nil)))) (fun s H C cl fp => (fg_name hN rfl (by first | exact .inl rfl | exact .inr rfl))) (fun s H C cl fp => fts_nil) (fun s H C cl fp => (fe_tup (fa_cons (fe_F d_thing_form LamX.takes0 hr (fa_cons (fe_var 0) (fa_cons (fe_var 1) (fa_cons (fe_var 2) (fa_cons (fe_var 3) fa_nil)))) (Nat.le_refl _)) (fa_cons (fe_var 2) (fa_cons (fe_var 3) fa_nil))))))) fa_nil))))
/-! ### forms_of_deed: slots 0 stem, 1 rows, 2 time, 3 person, 4 many -/
abbrev s_forms_of_deed : Stmt := top 24
def b_forms_of_deed_1 (F_deed_form : List FL.D → VH → Out FL.D) : FSt :=
  (sEx (eM isL mExtend (eV 1) (aCons (FL.eLc (eTup (aCons (eC (.bl false)) (aCons (eC (.bl true)) aNil))) (gN 4) tYes (eTup (aCons (eF F_deed_form (aCons (eV 0) (aCons (eV 2) (aCons (eV 3) (aCons (eV 4) aNil))))) (aCons (eV 2) (aCons (eV 3) (aCons (eV 4) aNil))))) [4]) aNil)))
def b_forms_of_deed_2 (F_deed_form : List FL.D → VH → Out FL.D) : FSt :=
  (sFor (eTup (aCons (eC (.int 1)) (aCons (eC (.int 2)) (aCons (eC (.int 3)) aNil)))) (gN 3)
  (b_forms_of_deed_1 F_deed_form))
def b_forms_of_deed (F_deed_form : List FL.D → VH → Out FL.D) : FSt :=
  (sSeq (sAs (eLst aNil) (gN 1))
  (sSeq (sFor (eC c_TIMES) (gN 2)
  (b_forms_of_deed_2 F_deed_form))
  (sRet (eB bTup (aCons (eV 1) aNil)))))
theorem sc_forms_of_deed : FnScope ["stem", "rows", "time", "person", "many"] ["stem"] (defScope s_forms_of_deed) := ⟨rfl, rfl, rfl, by decide +kernel, rfl, by decide +kernel, by decide +kernel⟩
theorem x_forms_of_deed {P : Program} {w : World} {K : PySem.W.Frag} {mg : Str → Option Value} {base : Heap} {g : Gc} {k : Nat} (C_TIMES : Cst K mg "TIMES" c_TIMES) (n_tuple : mg "tuple" = none) {F_deed_form : List FL.D → VH → Out FL.D} (d_deed_form : Df P w K mg base g k "deed_form" F_deed_form) {f : Addr} {fd : FuncData} (Fn : L2.Fun K "forms_of_deed" "forms_of_deed" s_forms_of_deed f fd) (hm : mg "forms_of_deed" = some (.ref f)) (hb : Binds K fd ["stem"] []) :
    Df P w K mg base g (k + 1) "forms_of_deed" (runF 1 5 (b_forms_of_deed F_deed_form)) := by
  refine Df.mkD Fn sc_forms_of_deed hm hb fun cdv A outer s H E hr => ?_
  have hN := sc_forms_of_deed.nd
  exact (fss_cons (fs_set (i := 1) hN rfl (by first | exact .inl rfl | exact .inr rfl) (fe_lst fa_nil))
  (fss_cons (fs_for (own := [2]) poF rfl (fe_cst C_TIMES) (fg_name hN rfl (by first | exact .inl rfl | exact .inr rfl))
  (fss_one (fs_for (own := [3]) poF rfl (fe_tup (fa_cons fe_int (fa_cons fe_int (fa_cons fe_int fa_nil)))) (fg_name hN rfl (by first | exact .inl rfl | exact .inr rfl))
  (fss_one (fs_ex (fe_M PySem.F.plainAttrs_list PySem.F.slot_list_extend PySem.F.type_list_extend mr_extend ty_list (fe_var 1) (fa_cons (fe_lc rfl hN (fe_tup (fa_cons fe_bl (fa_cons fe_bl fa_nil))) (LcP.mk (own := [("many", 4)]) (blk_by (N := ["stem", "rows", "time", "person", "many"]) (sc := defScope s_forms_of_deed) (by decide +kernel)) (fun s H C cl fp => (fg_name hN rfl (by first | exact .inl rfl | exact .inr rfl))) (fun s H C cl fp => fts_nil) (fun s H C cl fp => (fe_tup (fa_cons (fe_F d_deed_form LamX.takes0 hr (fa_cons (fe_var 0) (fa_cons (fe_var 2) (fa_cons (fe_var 3) (fa_cons (fe_var 4) fa_nil)))) (Nat.le_refl _)) (fa_cons (fe_var 2) (fa_cons (fe_var 3) (fa_cons (fe_var 4) fa_nil)))))))) fa_nil)))))))
  (fss_one (fs_ret (fe_BT cr_tup n_tuple (fa_cons (fe_var 1) fa_nil))))))
/-! ### asked_form: slots 0 case -/
abbrev s_asked_form : Stmt := top 25
def b_asked_form : FSt :=
  (sSeq (sIf (tV (e2 cNin (eV 0) (eC c_CASES))) (sRaise 0) sNil)
  (sRet (e2 oAdd (eC (.str [107, 101, 108])) (e2 oIx (eTup (aCons (eC (.str [])) (aCons (eC (.str [111, 109])) (aCons (eC (.str [101, 115])) (aCons (eC (.str [117, 108])) aNil))))) (eM isT mIndexT (eC c_CASES) (aCons (eV 0) aNil))))))
theorem sc_asked_form : FnScope ["case"] ["case"] (defScope s_asked_form) := ⟨rfl, rfl, rfl, by decide +kernel, rfl, by decide +kernel, by decide +kernel⟩
theorem x_asked_form {P : Program} {w : World} {K : PySem.W.Frag} {mg : Str → Option Value} {base : Heap} {g : Gc} {k : Nat} (C_CASES : Cst K mg "CASES" c_CASES) (e_BadWord : Er K mg g 0 "BadWord") {f : Addr} {fd : FuncData} (Fn : L2.Fun K "asked_form" "asked_form" s_asked_form f fd) (hm : mg "asked_form" = some (.ref f)) (hb : Binds K fd ["case"] []) :
    Df P w K mg base g (k + 1) "asked_form" (runF 1 1 (b_asked_form)) := by
  refine Df.mkD Fn sc_asked_form hm hb fun cdv A outer s H E hr => ?_
  have hN := sc_asked_form.nd
  exact (fss_cons (fs_if (ft_cmp (or_nin (u65 hr)) (fe_var 0) (fe_cst C_CASES) (by rfl)) (fss_one (fs_raise e_BadWord rfl tkF)) fss_nil)
  (fss_one (fs_ret (fe_op or_add fe_str (fe_ix (u1 hr) (fe_tup (fa_cons fe_str (fa_cons fe_str (fa_cons fe_str (fa_cons fe_str fa_nil))))) (fe_M PySem.F.plainAttrs_tuple PySem.F.slot_tuple_index PySem.F.type_tuple_index (mr_indexT (u65 hr)) ty_tup (fe_cst C_CASES) (fa_cons (fe_var 0) fa_nil)))))))
/-! ### made_of: slots 0 stem, 1 way -/
abbrev s_made_of : Stmt := top 26
def b_made_of (F_is_word : List FL.D → VH → Out FL.D) (F_joined : List FL.D → VH → Out FL.D) : FSt :=
  (sSeq (sIf (tNot (tV (eF F_is_word (aCons (eV 0) aNil)))) (sRaise 0) sNil)
  (sSeq (sIf (tV (e2 cIn (eV 1) (eTup (aCons (eC (.str [114, 101])) (aCons (eC (.str [110, 101])) aNil))))) (sRet (e2 oAdd (e2 oAdd (eV 1) (eIf (tV (e2 cIn (e2 oIx (eV 0) (eC (.int 0))) (eC c_VOWELS))) (eC (.str [110])) (eC (.str [])))) (eV 0))) sNil)
  (sSeq (sIf (tV (e2 cNin (eV 1) (eTup (aCons (eC (.str [101, 114])) (aCons (eC (.str [105, 116])) (aCons (eC (.str [97, 108])) aNil)))))) (sRaise 0) sNil)
  (sRet (eF F_joined (aCons (eV 0) (aCons (eV 1) aNil)))))))
theorem sc_made_of : FnScope ["stem", "way"] ["stem", "way"] (defScope s_made_of) := ⟨rfl, rfl, rfl, by decide +kernel, rfl, by decide +kernel, by decide +kernel⟩
theorem x_made_of {P : Program} {w : World} {K : PySem.W.Frag} {mg : Str → Option Value} {base : Heap} {g : Gc} {k : Nat} (e_BadWord : Er K mg g 0 "BadWord") (C_VOWELS : Cst K mg "VOWELS" c_VOWELS) {F_is_word : List FL.D → VH → Out FL.D} (d_is_word : Df P w K mg base g k "is_word" F_is_word) {F_joined : List FL.D → VH → Out FL.D} (d_joined : Df P w K mg base g k "joined" F_joined) {f : Addr} {fd : FuncData} (Fn : L2.Fun K "made_of" "made_of" s_made_of f fd) (hm : mg "made_of" = some (.ref f)) (hb : Binds K fd ["stem", "way"] []) :
    Df P w K mg base g (k + 1) "made_of" (runF 2 2 (b_made_of F_is_word F_joined)) := by
  refine Df.mkD Fn sc_made_of hm hb fun cdv A outer s H E hr => ?_
  have hN := sc_made_of.nd
  exact (fss_cons (fs_if (ft_not (ft_val (fe_F d_is_word tkF hr (fa_cons (fe_var 0) fa_nil) (Nat.le_refl _)))) (fss_one (fs_raise e_BadWord rfl tkF)) fss_nil)
  (fss_cons (fs_if (ft_cmp (or_in (u65 hr)) (fe_var 1) (fe_tup (fa_cons fe_str (fa_cons fe_str fa_nil))) (by rfl)) (fss_one (fs_ret (fe_op or_add (fe_op or_add (fe_var 1) (fe_if (ft_cmp (or_in (u65 hr)) (fe_ix (u1 hr) (fe_var 0) fe_int) (fe_cst C_VOWELS) (by rfl)) fe_str fe_str)) (fe_var 0)))) fss_nil)
  (fss_cons (fs_if (ft_cmp (or_nin (u65 hr)) (fe_var 1) (fe_tup (fa_cons fe_str (fa_cons fe_str (fa_cons fe_str fa_nil)))) (by rfl)) (fss_one (fs_raise e_BadWord rfl tkF)) fss_nil)
  (fss_one (fs_ret (fe_F d_joined tkF hr (fa_cons (fe_var 0) (fa_cons (fe_var 1) fa_nil)) (Nat.le_refl _)))))))
/-! ### grown: slots 0 stem, 1 ways, 2 way -/
abbrev s_grown : Stmt := top 28
def b_grown_1 (F_made_of : List FL.D → VH → Out FL.D) : FSt :=
  (sAs (eF F_made_of (aCons (eV 0) (aCons (eV 2) aNil))) (gN 0))
def b_grown (F_made_of : List FL.D → VH → Out FL.D) : FSt :=
  (sSeq (sFor (eV 1) (gN 2)
  (b_grown_1 F_made_of))
  (sRet (eV 0)))
theorem sc_grown : FnScope ["stem", "ways", "way"] ["stem", "ways"] (defScope s_grown) := ⟨rfl, rfl, rfl, by decide +kernel, rfl, by decide +kernel, by decide +kernel⟩
theorem x_grown {P : Program} {w : World} {K : PySem.W.Frag} {mg : Str → Option Value} {base : Heap} {g : Gc} {k : Nat} {F_made_of : List FL.D → VH → Out FL.D} (d_made_of : Df P w K mg base g k "made_of" F_made_of) {f : Addr} {fd : FuncData} (Fn : L2.Fun K "grown" "grown" s_grown f fd) (hm : mg "grown" = some (.ref f)) (hb : Binds K fd ["stem", "ways"] []) :
    Df P w K mg base g (k + 1) "grown" (runF 2 3 (b_grown F_made_of)) := by
  refine Df.mkD Fn sc_grown hm hb fun cdv A outer s H E hr => ?_
  have hN := sc_grown.nd
  exact (fss_cons (fs_for (own := [2]) poF rfl (fe_var 1) (fg_name hN rfl (by first | exact .inl rfl | exact .inr rfl))
  (fss_one (fs_set (i := 0) hN rfl (by first | exact .inl rfl | exact .inr rfl) (fe_F d_made_of tkF hr (fa_cons (fe_var 0) (fa_cons (fe_var 2) fa_nil)) (Nat.le_refl _)))))
  (fss_one (fs_ret (fe_var 0))))
/-! ### taken_apart: slots 0 stems, 1 word, 2 stem, 3 rows, 4 found, 5 turn, 6 way, 7 ways -/
abbrev s_taken_apart : Stmt := top 27
def b_taken_apart_1 (F_is_word : List FL.D → VH → Out FL.D) (F_is_stem : List FL.D → VH → Out FL.D) (F_grown : List FL.D → VH → Out FL.D) : FSt :=
  (sSeq (sEx (eM isL mExtend (eV 4) (aCons (FL.eLc (eV 3) (gT 2 (gCons (gN 2) (gCons (gN 7) gNil))) (tV (e2 cEq (eF F_grown (aCons (eV 2) (aCons (eV 7) aNil))) (eV 1))) (eTup (aCons (eV 2) (aCons (eV 7) aNil))) [2, 7]) aNil)))
  (sSeq (sAs (eLc2 (eV 3) (gT 2 (gCons (gN 2) (gCons (gN 7) gNil))) tYes (eTup (aCons (eC (.str [114, 101])) (aCons (eC (.str [110, 101])) (aCons (eC (.str [101, 114])) (aCons (eC (.str [105, 116])) (aCons (eC (.str [97, 108])) aNil)))))) (gN 6) tYes (eTup (aCons (eV 2) (aCons (e2 oAdd (eV 7) (eTup (aCons (eV 6) aNil))) aNil))) [2, 7, 6] [6]) (gN 3))
  (sAs (FL.eLc (eV 3) (gT 2 (gCons (gN 2) (gCons (gN 7) gNil))) (tV (e2 cLe (eB bLen (aCons (eF F_grown (aCons (eV 2) (aCons (eV 7) aNil))) aNil)) (eB bLen (aCons (eV 1) aNil)))) (eTup (aCons (eV 2) (aCons (eV 7) aNil))) [2, 7]) (gN 3))))
def b_taken_apart (F_is_word : List FL.D → VH → Out FL.D) (F_is_stem : List FL.D → VH → Out FL.D) (F_grown : List FL.D → VH → Out FL.D) : FSt :=
  (sSeq (sIf (tOr (tNot (tV (eF F_is_word (aCons (eV 1) aNil)))) (tNot (tV (eStG false (eV 0) (gN 2) tYes (eF F_is_stem (aCons (eV 2) aNil)) [2])))) (sRaise 0) sNil)
  (sSeq (sPar 3 4 (aCons (FL.eLc (eV 0) (gN 2) tYes (eTup (aCons (eV 2) (aCons (eTup aNil) aNil))) [2]) (aCons (eLst aNil) aNil)))
  (sSeq (sForR (aCons (eC (.int 4)) aNil) (gN 5)
  (b_taken_apart_1 F_is_word F_is_stem F_grown))
  (sRet (eB bTup (aCons (eB bSort2 (aCons (eV 4) aNil)) aNil))))))
theorem sc_taken_apart : FnScope ["stems", "word", "stem", "rows", "found", "turn", "way", "ways"] ["stems", "word"] (defScope s_taken_apart) := ⟨rfl, rfl, rfl, by decide +kernel, rfl, by decide +kernel, by decide +kernel⟩
theorem x_taken_apart {P : Program} {w : World} {K : PySem.W.Frag} {mg : Str → Option Value} {base : Heap} {g : Gc} {k : Nat} (n_all : mg "all" = none) (e_BadWord : Er K mg g 0 "BadWord") (n_len : mg "len" = none) (n_range : mg "range" = none) (n_tuple : mg "tuple" = none) (n_sorted : mg "sorted" = none) {F_is_word : List FL.D → VH → Out FL.D} (d_is_word : Df P w K mg base g k "is_word" F_is_word) {F_is_stem : List FL.D → VH → Out FL.D} (d_is_stem : Df P w K mg base g k "is_stem" F_is_stem) {F_grown : List FL.D → VH → Out FL.D} (d_grown : Df P w K mg base g k "grown" F_grown) {cs : List (Addr × Addr)} (KD : KeyD K mg g cs "taken_apart" s_taken_apart ["stems", "word"] (PySem.Str.ofString "taken_apart.<locals>.<genexpr>")) (hTB : ∀ p ∈ cs, LamX.TabB base mg p.1 p.2) :
    Df P w K mg base g (k + 4) "taken_apart" (runF 2 8 (b_taken_apart F_is_word F_is_stem F_grown)) := by
  refine KD.df hTB sc_taken_apart fun f c Pt A outer s H E TB hmT hu hr3 => ?_
  have hN := sc_taken_apart.nd
  have hr : Room k _ := hr3.mono (by omega)
  exact (fss_cons (fs_if (ft_w (fw_or (ft_not (ft_val (fe_F d_is_word tkF hr (fa_cons (fe_var 1) fa_nil) (Nat.le_refl _)))) (fw_or1 (ft_not (ft_val (fe_allG n_all TB rfl hmT hu hN hr3 (fe_var 0) (GenP.mk (own := [("stem", 2)]) (clo_by (N := ["stems", "word", "stem", "rows", "found", "turn", "way", "ways"]) (sc := defScope s_taken_apart) (by decide +kernel)) rfl (fun A s H L code fp hr => (fg_name hN rfl (by first | exact .inl rfl | exact .inr rfl))) (fun A s H L code fp hr => fts_nil) (fun A s H L code fp hr => (fe_F d_is_stem LamX.takes0 hr (fa_cons (fe_var 2) fa_nil) (Nat.le_refl _)))))))))) (fss_one (fs_raise e_BadWord rfl tkF)) fss_nil)
  (fss_cons (fs_par (i := 3) (j := 4) rfl hN rfl rfl (by decide) rfl rfl (fa_cons (fe_lc rfl hN (fe_var 0) (LcP.mk (own := [("stem", 2)]) (blk_by (N := ["stems", "word", "stem", "rows", "found", "turn", "way", "ways"]) (sc := defScope s_taken_apart) (by decide +kernel)) (fun s H C cl fp => (fg_name hN rfl (by first | exact .inl rfl | exact .inr rfl))) (fun s H C cl fp => fts_nil) (fun s H C cl fp => (fe_tup (fa_cons (fe_var 2) (fa_cons (fe_tup fa_nil) fa_nil)))))) (fa_cons (fe_lst fa_nil) fa_nil)) rfl)
  (fss_cons (fs_forR1 (own := [5]) poF rfl n_range (fa_cons fe_int fa_nil) (aLen_cons aLen_nil) (fg_name hN rfl (by first | exact .inl rfl | exact .inr rfl))
  (fss_cons (fs_ex (fe_M PySem.F.plainAttrs_list PySem.F.slot_list_extend PySem.F.type_list_extend mr_extend ty_list (fe_var 4) (fa_cons (fe_lc rfl hN (fe_var 3) (LcP.mk (own := [("stem", 2), ("ways", 7)]) (blk_by (N := ["stems", "word", "stem", "rows", "found", "turn", "way", "ways"]) (sc := defScope s_taken_apart) (by decide +kernel)) (fun s H C cl fp => (fg_tup rfl (fgs_cons (fg_name hN rfl (by first | exact .inl rfl | exact .inr rfl)) (fgs_cons (fg_name hN rfl (by first | exact .inl rfl | exact .inr rfl)) fgs_nil)))) (fun s H C cl fp => (fts_one (ft_cmp (or_eq (u64 hr)) (fe_F d_grown LamX.takes0 hr (fa_cons (fe_var 2) (fa_cons (fe_var 7) fa_nil)) (Nat.le_refl _)) (fe_var 1) (by rfl)))) (fun s H C cl fp => (fe_tup (fa_cons (fe_var 2) (fa_cons (fe_var 7) fa_nil)))))) fa_nil)))
  (fss_cons (fs_setLc2 (i := 3) rfl hN rfl rfl rfl (fe_var 3) (Lc2P.mk (own := [("stem", 2), ("ways", 7), ("way", 6)]) (sl1 := [6]) (blk_by (N := ["stems", "word", "stem", "rows", "found", "turn", "way", "ways"]) (sc := defScope s_taken_apart) (by decide +kernel)) (by decide) (fun s H C cl fp => (fg_tup rfl (fgs_cons (fg_name hN rfl (by first | exact .inl rfl | exact .inr rfl)) (fgs_cons (fg_name hN rfl (by first | exact .inl rfl | exact .inr rfl)) fgs_nil)))) (fun s H C cl fp => fts_nil) (fun s H C cl fp => (fe_tup (fa_cons fe_str (fa_cons fe_str (fa_cons fe_str (fa_cons fe_str (fa_cons fe_str fa_nil))))))) (fun s H C cl fp => (fg_name hN rfl (by first | exact .inl rfl | exact .inr rfl))) (fun s H C cl fp => fts_nil) (fun s H C cl fp => (fe_tup (fa_cons (fe_var 2) (fa_cons (fe_op or_add (fe_var 7) (fe_tup (fa_cons (fe_var 6) fa_nil))) fa_nil))))))
  (fss_one (fs_setLc (i := 3) rfl hN rfl rfl rfl (fe_var 3) (LcP.mk (own := [("stem", 2), ("ways", 7)]) (blk_by (N := ["stems", "word", "stem", "rows", "found", "turn", "way", "ways"]) (sc := defScope s_taken_apart) (by decide +kernel)) (fun s H C cl fp => (fg_tup rfl (fgs_cons (fg_name hN rfl (by first | exact .inl rfl | exact .inr rfl)) (fgs_cons (fg_name hN rfl (by first | exact .inl rfl | exact .inr rfl)) fgs_nil)))) (fun s H C cl fp => (fts_one (ft_cmp or_le (fe_B cr_len n_len (fa_cons (fe_F d_grown LamX.takes0 hr (fa_cons (fe_var 2) (fa_cons (fe_var 7) fa_nil)) (Nat.le_refl _)) fa_nil)) (fe_B cr_len n_len (fa_cons (fe_var 1) fa_nil)) (by rfl)))) (fun s H C cl fp => (fe_tup (fa_cons (fe_var 2) (fa_cons (fe_var 7) fa_nil))))))))))
  (fss_one (fs_ret (fe_BT cr_tup n_tuple (fa_cons (fe_B (cr_sort2 rfl (u64 hr)) n_sorted (fa_cons (fe_var 4) fa_nil)) fa_nil)))))))
/-! ### _law_dice: slots 0 cell -/
abbrev s_law_dice : Stmt := top 30
def b_law_dice : FSt :=
  (sSeq (sIf (tV (eCh cLt cLt (e2 oSub (eC (.int 0)) (eC (.int 10))) (eV 0) (eC (.int 10)))) (sRet (eLst (aCons (eB bAbs (aCons (eV 0) aNil)) (aCons (eC (.int 0)) (aCons (eC (.int 2)) aNil))))) sNil)
  (sRet (eLst (aCons (eV 0) (aCons (e2 oAdd (eC (.int 1)) (e2 oMod (eB bInt (aCons (eV 0) aNil)) (eC (.int 1009)))) (aCons (eB bInt (aCons (e2 cGe (eV 0) (e2 oPow (eC (.int 10)) (eC (.int 18)))) aNil)) aNil))))))
theorem sc_law_dice : FnScope ["cell"] ["cell"] (defScope s_law_dice) := ⟨rfl, rfl, rfl, by decide +kernel, rfl, by decide +kernel, by decide +kernel⟩
theorem x_law_dice {P : Program} {w : World} {K : PySem.W.Frag} {mg : Str → Option Value} {base : Heap} {g : Gc} {k : Nat} (n_abs : mg "abs" = none) (n_int : mg "int" = none) {f : Addr} {fd : FuncData} (Fn : L2.Fun K "_law_dice" "_law_dice" s_law_dice f fd) (hm : mg "_law_dice" = some (.ref f)) (hb : Binds K fd ["cell"] []) :
    Df P w K mg base g (k + 1) "_law_dice" (runF 1 1 (b_law_dice)) := by
  refine Df.mkD Fn sc_law_dice hm hb fun cdv A outer s H E hr => ?_
  have hN := sc_law_dice.nd
  exact (fss_cons (fs_if (ft_ch or_lt or_lt (fe_op or_sub fe_int fe_int) (fe_var 0) fe_int) (fss_one (fs_ret (fe_lst (fa_cons (fe_B cr_abs n_abs (fa_cons (fe_var 0) fa_nil)) (fa_cons fe_int (fa_cons fe_int fa_nil)))))) fss_nil)
  (fss_one (fs_ret (fe_lst (fa_cons (fe_var 0) (fa_cons (fe_op or_add fe_int (fe_op or_mod (fe_BT cr_int n_int (fa_cons (fe_var 0) fa_nil)) fe_int)) (fa_cons (fe_BT cr_int n_int (fa_cons (fe_cmp or_ge (fe_var 0) (fe_op or_pow fe_int fe_int) (by rfl)) fa_nil)) fa_nil)))))))
/-! ### _law_roll: slots 0 dice, 1 many, 2 found -/
abbrev s_law_roll : Stmt := top 31
def b_law_roll : FSt :=
  (sSeq (sIf (tOr (tV (e2 cEq (e2 oIx (eV 0) (eC (.int 2))) (eC (.int 2)))) (tAnd (tV (e2 cEq (e2 oIx (eV 0) (eC (.int 2))) (eC (.int 1)))) (tV (e2 cGt (e2 oIx (eV 0) (eC (.int 0))) (eC (.int 0)))))) (sSeq (sAs (e2 oMod (eB bInt (aCons (e2 oIx (eV 0) (eC (.int 0))) aNil)) (eV 1)) (gN 2))
  (sSeq (sSub setL (e2 oFdv (e2 oIx (eV 0) (eC (.int 0))) (eV 1)) (eV 0) (eC (.int 0)))
  (sRet (eV 2)))) sNil)
  (sSeq (sSub setL (eC (.int 0)) (eV 0) (eC (.int 2)))
  (sSeq (sSub setL (e2 oMod (eB bInt (aCons (e2 oAdd (e2 oAdd (e2 oMul (e2 oIx (eV 0) (eC (.int 0))) (eC (.int 48271))) (e2 oMul (e2 oIx (eV 0) (eC (.int 1))) (eC (.int 69621)))) (eC (.int 11))) aNil)) (eC (.int 2147483647))) (eV 0) (eC (.int 0)))
  (sSeq (sSub setL (e2 oAdd (e2 oIx (eV 0) (eC (.int 1))) (eC (.int 1))) (eV 0) (eC (.int 1)))
  (sRet (e2 oMod (eB bInt (aCons (e2 oAdd (e2 oFdv (e2 oIx (eV 0) (eC (.int 0))) (eC (.int 7))) (e2 oIx (eV 0) (eC (.int 0)))) aNil)) (eV 1)))))))
theorem sc_law_roll : FnScope ["dice", "many", "found"] ["dice", "many"] (defScope s_law_roll) := ⟨rfl, rfl, rfl, by decide +kernel, rfl, by decide +kernel, by decide +kernel⟩
theorem x_law_roll {P : Program} {w : World} {K : PySem.W.Frag} {mg : Str → Option Value} {base : Heap} {g : Gc} {k : Nat} (n_int : mg "int" = none) {f : Addr} {fd : FuncData} (Fn : L2.Fun K "_law_roll" "_law_roll" s_law_roll f fd) (hm : mg "_law_roll" = some (.ref f)) (hb : Binds K fd ["dice", "many"] []) :
    Df P w K mg base g (k + 1) "_law_roll" (runF 2 3 (b_law_roll)) := by
  refine Df.mkD Fn sc_law_roll hm hb fun cdv A outer s H E hr => ?_
  have hN := sc_law_roll.nd
  exact (fss_cons (fs_if (ft_w (fw_or (ft_cmp (or_eq (u64 hr)) (fe_ix (u1 hr) (fe_var 0) fe_int) fe_int (by rfl)) (fw_or1 (ft_w (fw_and (ft_cmp (or_eq (u64 hr)) (fe_ix (u1 hr) (fe_var 0) fe_int) fe_int (by rfl)) (fw_and1 (ft_cmp or_gt (fe_ix (u1 hr) (fe_var 0) fe_int) fe_int (by rfl)))))))) (fss_cons (fs_set (i := 2) hN rfl (by first | exact .inl rfl | exact .inr rfl) (fe_op or_mod (fe_BT cr_int n_int (fa_cons (fe_ix (u1 hr) (fe_var 0) fe_int) fa_nil)) (fe_var 1)))
  (fss_cons (fs_sub ps_setL (fe_op or_fdv (fe_ix (u1 hr) (fe_var 0) fe_int) (fe_var 1)) (fe_var 0) fe_int)
  (fss_one (fs_ret (fe_var 2))))) fss_nil)
  (fss_cons (fs_sub ps_setL fe_int (fe_var 0) fe_int)
  (fss_cons (fs_sub ps_setL (fe_op or_mod (fe_BT cr_int n_int (fa_cons (fe_op or_add (fe_op or_add (fe_op or_mul (fe_ix (u1 hr) (fe_var 0) fe_int) fe_int) (fe_op or_mul (fe_ix (u1 hr) (fe_var 0) fe_int) fe_int)) fe_int) fa_nil)) fe_int) (fe_var 0) fe_int)
  (fss_cons (fs_sub ps_setL (fe_op or_add (fe_ix (u1 hr) (fe_var 0) fe_int) fe_int) (fe_var 0) fe_int)
  (fss_one (fs_ret (fe_op or_mod (fe_BT cr_int n_int (fa_cons (fe_op or_add (fe_op or_fdv (fe_ix (u1 hr) (fe_var 0) fe_int) fe_int) (fe_ix (u1 hr) (fe_var 0) fe_int)) fa_nil)) (fe_var 1))))))))
/-! ### _law_rounds: slots 0 script, 1 most, 2 cells, 3 cell -/
abbrev s_law_rounds : Stmt := top 32
def b_law_rounds (F_law_dice : List FL.D → VH → Out FL.D) : FSt :=
  (sSeq (sAs (eSl (eV 0) pNo (pSo (eV 1))) (gN 2))
  (sSeq (sIf (tV (e2 cEq (eV 2) (eFl aNil))) (sAs (eFl (aCons (eC (.int 0)) aNil)) (gN 2)) sNil)
  (sRet (FL.eLc (eV 2) (gN 3) tYes (eF F_law_dice (aCons (eV 3) aNil)) [3]))))
theorem sc_law_rounds : FnScope ["script", "most", "cells", "cell"] ["script", "most"] (defScope s_law_rounds) := ⟨rfl, rfl, rfl, by decide +kernel, rfl, by decide +kernel, by decide +kernel⟩
theorem x_law_rounds {P : Program} {w : World} {K : PySem.W.Frag} {mg : Str → Option Value} {base : Heap} {g : Gc} {k : Nat} {F_law_dice : List FL.D → VH → Out FL.D} (d_law_dice : Df P w K mg base g k "_law_dice" F_law_dice) {f : Addr} {fd : FuncData} (Fn : L2.Fun K "_law_rounds" "_law_rounds" s_law_rounds f fd) (hm : mg "_law_rounds" = some (.ref f)) (hb : Binds K fd ["script", "most"] []) :
    Df P w K mg base g (k + 1) "_law_rounds" (runF 2 4 (b_law_rounds F_law_dice)) := by
  refine Df.mkD Fn sc_law_rounds hm hb fun cdv A outer s H E hr => ?_
  have hN := sc_law_rounds.nd
  exact (fss_cons (fs_set (i := 2) hN rfl (by first | exact .inl rfl | exact .inr rfl) (fe_sl (fe_var 0) fo_none (fo_some (fe_var 1))))
  (fss_cons (fs_if (ft_cmp (or_eq (u64 hr)) (fe_var 2) (fe_fl fa_nil) (by rfl)) (fss_one (fs_set (i := 2) hN rfl (by first | exact .inl rfl | exact .inr rfl) (fe_fl (fa_cons fe_int fa_nil)))) fss_nil)
  (fss_one (fs_ret (fe_lc rfl hN (fe_var 2) (LcP.mk (own := [("cell", 3)]) (blk_by (N := ["script", "most", "cells", "cell"]) (sc := defScope s_law_rounds) (by decide +kernel)) (fun s H C cl fp => (fg_name hN rfl (by first | exact .inl rfl | exact .inr rfl))) (fun s H C cl fp => fts_nil) (fun s H C cl fp => (fe_F d_law_dice LamX.takes0 hr (fa_cons (fe_var 3) fa_nil) (Nat.le_refl _)))))))))
/-! ### _law_word: slots 0 dice, 1 most, 2 found, 3 k -/
abbrev s_law_word : Stmt := top 34
def b_law_word_1 (F_law_roll : List FL.D → VH → Out FL.D) : FSt :=
  (sAs (e2 oAdd (e2 oAdd (e2 oAdd (eV 2) (e2 oIx (eFl (aCons (eC (.str [])) (aCons (eC (.str [98])) (aCons (eC (.str [107])) (aCons (eC (.str [116])) (aCons (eC (.str [112, 114])) (aCons (eC (.str [115, 116])) (aCons (eC (.str [108])) aNil)))))))) (eF F_law_roll (aCons (eV 0) (aCons (eC (.int 7)) aNil))))) (e2 oIx (eC (.str [97, 101, 105, 111, 117])) (eF F_law_roll (aCons (eV 0) (aCons (eC (.int 5)) aNil))))) (e2 oIx (eFl (aCons (eC (.str [])) (aCons (eC (.str [])) (aCons (eC (.str [110])) (aCons (eC (.str [107])) (aCons (eC (.str [114, 116])) aNil)))))) (eF F_law_roll (aCons (eV 0) (aCons (eC (.int 5)) aNil))))) (gN 2))
def b_law_word (F_law_roll : List FL.D → VH → Out FL.D) : FSt :=
  (sSeq (sAs (eC (.str [])) (gN 2))
  (sSeq (sForR (aCons (e2 oAdd (eC (.int 1)) (eF F_law_roll (aCons (eV 0) (aCons (eV 1) aNil)))) aNil) (gN 3)
  (b_law_word_1 F_law_roll))
  (sRet (eV 2))))
theorem sc_law_word : FnScope ["dice", "most", "found", "k"] ["dice", "most"] (defScope s_law_word) := ⟨rfl, rfl, rfl, by decide +kernel, rfl, by decide +kernel, by decide +kernel⟩
theorem x_law_word {P : Program} {w : World} {K : PySem.W.Frag} {mg : Str → Option Value} {base : Heap} {g : Gc} {k : Nat} (n_range : mg "range" = none) {F_law_roll : List FL.D → VH → Out FL.D} (d_law_roll : Df P w K mg base g k "_law_roll" F_law_roll) {f : Addr} {fd : FuncData} (Fn : L2.Fun K "_law_word" "_law_word" s_law_word f fd) (hm : mg "_law_word" = some (.ref f)) (hb : Binds K fd ["dice", "most"] []) :
    Df P w K mg base g (k + 1) "_law_word" (runF 2 4 (b_law_word F_law_roll)) := by
  refine Df.mkD Fn sc_law_word hm hb fun cdv A outer s H E hr => ?_
  have hN := sc_law_word.nd
  exact (fss_cons (fs_set (i := 2) hN rfl (by first | exact .inl rfl | exact .inr rfl) fe_str)
  (fss_cons (fs_forR1 (own := [3]) poF rfl n_range (fa_cons (fe_op or_add fe_int (fe_F d_law_roll tkF hr (fa_cons (fe_var 0) (fa_cons (fe_var 1) fa_nil)) (Nat.le_refl _))) fa_nil) (aLen_cons aLen_nil) (fg_name hN rfl (by first | exact .inl rfl | exact .inr rfl))
  (fss_one (fs_set (i := 2) hN rfl (by first | exact .inl rfl | exact .inr rfl) (fe_op or_add (fe_op or_add (fe_op or_add (fe_var 2) (fe_ix (u1 hr) (fe_fl (fa_cons fe_str (fa_cons fe_str (fa_cons fe_str (fa_cons fe_str (fa_cons fe_str (fa_cons fe_str (fa_cons fe_str fa_nil)))))))) (fe_F d_law_roll tkF hr (fa_cons (fe_var 0) (fa_cons fe_int fa_nil)) (Nat.le_refl _)))) (fe_ix (u1 hr) fe_str (fe_F d_law_roll tkF hr (fa_cons (fe_var 0) (fa_cons fe_int fa_nil)) (Nat.le_refl _)))) (fe_ix (u1 hr) (fe_fl (fa_cons fe_str (fa_cons fe_str (fa_cons fe_str (fa_cons fe_str (fa_cons fe_str fa_nil)))))) (fe_F d_law_roll tkF hr (fa_cons (fe_var 0) (fa_cons fe_int fa_nil)) (Nat.le_refl _)))))))
  (fss_one (fs_ret (fe_var 2)))))
/-! ### _law_joined: slots 0 stem, 1 ending -/
abbrev s_law_joined : Stmt := top 35
def b_law_joined : FSt :=
  (sSeq (sIf (tAnd (tV (e2 cIn (e2 oIx (eV 0) (e1 oNeg (eC (.int 1)))) (eC (.str [97, 101, 105, 111, 117])))) (tV (e2 cIn (e2 oIx (eV 1) (eC (.int 0))) (eC (.str [97, 101, 105, 111, 117]))))) (sRet (e2 oAdd (e2 oAdd (eV 0) (eC (.str [110]))) (eV 1))) sNil)
  (sSeq (sIf (tAnd (tV (e2 cEq (e2 oIx (eV 0) (e1 oNeg (eC (.int 1)))) (eC (.str [107])))) (tV (e2 cIn (e2 oIx (eV 1) (eC (.int 0))) (eC (.str [101, 105]))))) (sRet (e2 oAdd (e2 oAdd (eSl (eV 0) pNo (pSo (e2 oSub (eB bLen (aCons (eV 0) aNil)) (eC (.int 1))))) (eC (.str [115]))) (eV 1))) sNil)
  (sSeq (sIf (tAnd (tV (e2 cEq (e2 oIx (eV 0) (e1 oNeg (eC (.int 1)))) (eC (.str [116])))) (tV (e2 cEq (e2 oIx (eV 1) (eC (.int 0))) (eC (.str [105]))))) (sRet (e2 oAdd (e2 oAdd (eSl (eV 0) pNo (pSo (e2 oSub (eB bLen (aCons (eV 0) aNil)) (eC (.int 1))))) (eC (.str [122]))) (eV 1))) sNil)
  (sRet (e2 oAdd (eV 0) (eV 1))))))
theorem sc_law_joined : FnScope ["stem", "ending"] ["stem", "ending"] (defScope s_law_joined) := ⟨rfl, rfl, rfl, by decide +kernel, rfl, by decide +kernel, by decide +kernel⟩
theorem x_law_joined {P : Program} {w : World} {K : PySem.W.Frag} {mg : Str → Option Value} {base : Heap} {g : Gc} {k : Nat} (n_len : mg "len" = none) {f : Addr} {fd : FuncData} (Fn : L2.Fun K "_law_joined" "_law_joined" s_law_joined f fd) (hm : mg "_law_joined" = some (.ref f)) (hb : Binds K fd ["stem", "ending"] []) :
    Df P w K mg base g (k + 1) "_law_joined" (runF 2 2 (b_law_joined)) := by
  refine Df.mkD Fn sc_law_joined hm hb fun cdv A outer s H E hr => ?_
  have hN := sc_law_joined.nd
  exact (fss_cons (fs_if (ft_w (fw_and (ft_cmp (or_in (u65 hr)) (fe_ix (u1 hr) (fe_var 0) (fe_neg fe_int)) fe_str (by rfl)) (fw_and1 (ft_cmp (or_in (u65 hr)) (fe_ix (u1 hr) (fe_var 1) fe_int) fe_str (by rfl))))) (fss_one (fs_ret (fe_op or_add (fe_op or_add (fe_var 0) fe_str) (fe_var 1)))) fss_nil)
  (fss_cons (fs_if (ft_w (fw_and (ft_cmp (or_eq (u64 hr)) (fe_ix (u1 hr) (fe_var 0) (fe_neg fe_int)) fe_str (by rfl)) (fw_and1 (ft_cmp (or_in (u65 hr)) (fe_ix (u1 hr) (fe_var 1) fe_int) fe_str (by rfl))))) (fss_one (fs_ret (fe_op or_add (fe_op or_add (fe_sl (fe_var 0) fo_none (fo_some (fe_op or_sub (fe_B cr_len n_len (fa_cons (fe_var 0) fa_nil)) fe_int))) fe_str) (fe_var 1)))) fss_nil)
  (fss_cons (fs_if (ft_w (fw_and (ft_cmp (or_eq (u64 hr)) (fe_ix (u1 hr) (fe_var 0) (fe_neg fe_int)) fe_str (by rfl)) (fw_and1 (ft_cmp (or_eq (u64 hr)) (fe_ix (u1 hr) (fe_var 1) fe_int) fe_str (by rfl))))) (fss_one (fs_ret (fe_op or_add (fe_op or_add (fe_sl (fe_var 0) fo_none (fo_some (fe_op or_sub (fe_B cr_len n_len (fa_cons (fe_var 0) fa_nil)) fe_int))) fe_str) (fe_var 1)))) fss_nil)
  (fss_one (fs_ret (fe_op or_add (fe_var 0) (fe_var 1)))))))
/-! ### _law_thing: slots 0 stem, 1 kind, 2 case, 3 many, 4 tail -/
abbrev s_law_thing : Stmt := top 36
def b_law_thing (F_law_joined : List FL.D → VH → Out FL.D) : FSt :=
  (sSeq (sAs (e2 oIx (e2 oIx (eFl (aCons (eFl (aCons (eC (.str [111])) (aCons (eC (.str [111, 109])) (aCons (eC (.str [101, 115])) (aCons (eC (.str [117, 108])) aNil))))) (aCons (eFl (aCons (eC (.str [97])) (aCons (eC (.str [97, 109])) (aCons (eC (.str [105, 115])) (aCons (eC (.str [117, 108])) aNil))))) aNil))) (eV 1)) (eM isLs mIndexL (eFl (aCons (eC (.str [100, 111, 101, 114])) (aCons (eC (.str [100, 111, 110, 101])) (aCons (eC (.str [111, 119, 110, 101, 114])) (aCons (eC (.str [112, 108, 97, 99, 101])) aNil))))) (aCons (eV 2) aNil))) (gN 4))
  (sRet (eF F_law_joined (aCons (eV 0) (aCons (e2 oAdd (eV 4) (e2 oIx (eFl (aCons (eC (.str [])) (aCons (eC (.str [105])) aNil))) (eB bInt (aCons (eV 3) aNil)))) aNil)))))
theorem sc_law_thing : FnScope ["stem", "kind", "case", "many", "tail"] ["stem", "kind", "case", "many"] (defScope s_law_thing) := ⟨rfl, rfl, rfl, by decide +kernel, rfl, by decide +kernel, by decide +kernel⟩
theorem x_law_thing {P : Program} {w : World} {K : PySem.W.Frag} {mg : Str → Option Value} {base : Heap} {g : Gc} {k : Nat} (n_int : mg "int" = none) {F_law_joined : List FL.D → VH → Out FL.D} (d_law_joined : Df P w K mg base g k "_law_joined" F_law_joined) {f : Addr} {fd : FuncData} (Fn : L2.Fun K "_law_thing" "_law_thing" s_law_thing f fd) (hm : mg "_law_thing" = some (.ref f)) (hb : Binds K fd ["stem", "kind", "case", "many"] []) :
    Df P w K mg base g (k + 1) "_law_thing" (runF 4 5 (b_law_thing F_law_joined)) := by
  refine Df.mkD Fn sc_law_thing hm hb fun cdv A outer s H E hr => ?_
  have hN := sc_law_thing.nd
  exact (fss_cons (fs_set (i := 4) hN rfl (by first | exact .inl rfl | exact .inr rfl) (fe_ix (u1 hr) (fe_ix (u1 hr) (fe_fl (fa_cons (fe_fl (fa_cons fe_str (fa_cons fe_str (fa_cons fe_str (fa_cons fe_str fa_nil))))) (fa_cons (fe_fl (fa_cons fe_str (fa_cons fe_str (fa_cons fe_str (fa_cons fe_str fa_nil))))) fa_nil))) (fe_var 1)) (fe_M PySem.F.plainAttrs_list PySem.F.slot_list_index PySem.F.type_list_index (mr_indexL (u65 hr)) ty_lists (fe_fl (fa_cons fe_str (fa_cons fe_str (fa_cons fe_str (fa_cons fe_str fa_nil))))) (fa_cons (fe_var 2) fa_nil))))
  (fss_one (fs_ret (fe_F d_law_joined tkF hr (fa_cons (fe_var 0) (fa_cons (fe_op or_add (fe_var 4) (fe_ix (u1 hr) (fe_fl (fa_cons fe_str (fa_cons fe_str fa_nil))) (fe_BT cr_int n_int (fa_cons (fe_var 3) fa_nil)))) fa_nil)) (Nat.le_refl _)))))
/-! ### _law_grown: slots 0 dice, 1 stem, 2 ways, 3 here, 4 k, 5 way, 6 short, 7 told, 8 one, 9 row -/
abbrev s_law_grown : Stmt := top 37
def b_law_grown_1 (F_law_roll : List FL.D → VH → Out FL.D) (F_law_joined : List FL.D → VH → Out FL.D) (F_grown : List FL.D → VH → Out FL.D) (F_made_of : List FL.D → VH → Out FL.D) (F_taken_apart : List FL.D → VH → Out FL.D) : FSt :=
  (sIf (tV (e2 cIn (eV 5) (eFl (aCons (eC (.str [114, 101])) (aCons (eC (.str [110, 101])) aNil))))) (sAs (e2 oAdd (e2 oAdd (eV 5) (eIf (tV (e2 cIn (e2 oIx (eV 3) (eC (.int 0))) (eC (.str [97, 101, 105, 111, 117])))) (eC (.str [110])) (eC (.str [])))) (eV 3)) (gN 3)) (sAs (eF F_law_joined (aCons (eV 3) (aCons (eV 5) aNil))) (gN 3)))
def b_law_grown (F_law_roll : List FL.D → VH → Out FL.D) (F_law_joined : List FL.D → VH → Out FL.D) (F_grown : List FL.D → VH → Out FL.D) (F_made_of : List FL.D → VH → Out FL.D) (F_taken_apart : List FL.D → VH → Out FL.D) : FSt :=
  (sSeq (sAs (eTup (aCons (FL.eLcR (aCons (eF F_law_roll (aCons (eV 0) (aCons (eC (.int 3)) aNil))) aNil) (gN 4) tYes (e2 oIx (eFl (aCons (eC (.str [114, 101])) (aCons (eC (.str [110, 101])) (aCons (eC (.str [101, 114])) (aCons (eC (.str [105, 116])) (aCons (eC (.str [97, 108])) aNil)))))) (eF F_law_roll (aCons (eV 0) (aCons (eC (.int 5)) aNil)))) [4]) (aCons (eV 1) aNil))) (gT 2 (gCons (gN 2) (gCons (gN 3) gNil))))
  (sSeq (sFor (eV 2) (gN 5)
  (b_law_grown_1 F_law_roll F_law_joined F_grown F_made_of F_taken_apart))
  (sSeq (sIf (tOr (tV (e2 cNe (eF F_grown (aCons (eV 1) (aCons (eV 2) aNil))) (eV 3))) (tAnd (tV (e2 cNe (eV 2) (eFl aNil))) (tV (e2 cNe (eF F_made_of (aCons (eF F_grown (aCons (eV 1) (aCons (eSl (eV 2) pNo (pSo (e2 oSub (eB bLen (aCons (eV 2) aNil)) (eC (.int 1))))) aNil))) (aCons (e2 oIx (eV 2) (e1 oNeg (eC (.int 1)))) aNil))) (eV 3))))) (sRet (eC (.bl false))) sNil)
  (sSeq (sAs (e2 oIx (eFl (aCons (eC (.str [98, 97, 108])) (aCons (eC (.str [107, 97, 116])) (aCons (eC (.str [111, 110, 97])) aNil)))) (eF F_law_roll (aCons (eV 0) (aCons (eC (.int 3)) aNil)))) (gN 6))
  (sSeq (sAs (eF F_taken_apart (aCons (eFl (aCons (eC (.str [98, 97, 108])) (aCons (eC (.str [107, 97, 116])) (aCons (eC (.str [111, 110, 97])) aNil)))) (aCons (eF F_grown (aCons (eV 6) (aCons (eV 2) aNil))) aNil))) (gN 7))
  (sSeq (sIf (tV (e2 cNin (eTup (aCons (eV 6) (aCons (eB bTup (aCons (eV 2) aNil)) aNil))) (eV 7))) (sRet (eC (.bl false))) sNil)
  (sSeq (sIf (tV (e2 cNe (FL.eLc (eV 7) (gT 2 (gCons (gN 8) (gCons (gN 9) gNil))) (tV (e2 cNe (eF F_grown (aCons (eV 8) (aCons (eV 9) aNil))) (eF F_grown (aCons (eV 6) (aCons (eV 2) aNil))))) (eV 8) [8, 9]) (eFl aNil))) (sRet (eC (.bl false))) sNil)
  (sSeq (sIf (tV (e2 cNe (eB bList (aCons (eV 7) aNil)) (eB bSort2 (aCons (eV 7) aNil)))) (sRet (eC (.bl false))) sNil)
  (sRet (eC (.bl true)))))))))))
theorem sc_law_grown : FnScope ["dice", "stem", "ways", "here", "k", "way", "short", "told", "one", "row"] ["dice", "stem"] (defScope s_law_grown) := ⟨rfl, rfl, rfl, by decide +kernel, rfl, by decide +kernel, by decide +kernel⟩
theorem x_law_grown {P : Program} {w : World} {K : PySem.W.Frag} {mg : Str → Option Value} {base : Heap} {g : Gc} {k : Nat} (n_range : mg "range" = none) (n_len : mg "len" = none) (n_tuple : mg "tuple" = none) (n_list : mg "list" = none) (n_sorted : mg "sorted" = none) {F_law_roll : List FL.D → VH → Out FL.D} (d_law_roll : Df P w K mg base g k "_law_roll" F_law_roll) {F_law_joined : List FL.D → VH → Out FL.D} (d_law_joined : Df P w K mg base g k "_law_joined" F_law_joined) {F_grown : List FL.D → VH → Out FL.D} (d_grown : Df P w K mg base g k "grown" F_grown) {F_made_of : List FL.D → VH → Out FL.D} (d_made_of : Df P w K mg base g k "made_of" F_made_of) {F_taken_apart : List FL.D → VH → Out FL.D} (d_taken_apart : Df P w K mg base g k "taken_apart" F_taken_apart) {f : Addr} {fd : FuncData} (Fn : L2.Fun K "_law_grown" "_law_grown" s_law_grown f fd) (hm : mg "_law_grown" = some (.ref f)) (hb : Binds K fd ["dice", "stem"] []) :
    Df P w K mg base g (k + 1) "_law_grown" (runF 2 10 (b_law_grown F_law_roll F_law_joined F_grown F_made_of F_taken_apart)) := by
  refine Df.mkD Fn sc_law_grown hm hb fun cdv A outer s H E hr => ?_
  have hN := sc_law_grown.nd
  exact (fss_cons (fs_as (own := [2, 3]) (fe_tup (fa_cons (fe_lcR1 rfl hN n_range (fa_cons (fe_F d_law_roll tkF hr (fa_cons (fe_var 0) (fa_cons fe_int fa_nil)) (Nat.le_refl _)) fa_nil) (aLen_cons aLen_nil) (LcP.mk (own := [("k", 4)]) (blk_by (N := ["dice", "stem", "ways", "here", "k", "way", "short", "told", "one", "row"]) (sc := defScope s_law_grown) (by decide +kernel)) (fun s H C cl fp => (fg_name hN rfl (by first | exact .inl rfl | exact .inr rfl))) (fun s H C cl fp => fts_nil) (fun s H C cl fp => (fe_ix (u1 hr) (fe_fl (fa_cons fe_str (fa_cons fe_str (fa_cons fe_str (fa_cons fe_str (fa_cons fe_str fa_nil)))))) (fe_F d_law_roll LamX.takes0 hr (fa_cons (fe_var 0) (fa_cons fe_int fa_nil)) (Nat.le_refl _)))))) (fa_cons (fe_var 1) fa_nil))) (fg_tup rfl (fgs_cons (fg_name hN rfl (by first | exact .inl rfl | exact .inr rfl)) (fgs_cons (fg_name hN rfl (by first | exact .inl rfl | exact .inr rfl)) fgs_nil))))
  (fss_cons (fs_for (own := [5]) poF rfl (fe_var 2) (fg_name hN rfl (by first | exact .inl rfl | exact .inr rfl))
  (fss_one (fs_if (ft_cmp (or_in (u65 hr)) (fe_var 5) (fe_fl (fa_cons fe_str (fa_cons fe_str fa_nil))) (by rfl)) (fss_one (fs_set (i := 3) hN rfl (by first | exact .inl rfl | exact .inr rfl) (fe_op or_add (fe_op or_add (fe_var 5) (fe_if (ft_cmp (or_in (u65 hr)) (fe_ix (u1 hr) (fe_var 3) fe_int) fe_str (by rfl)) fe_str fe_str)) (fe_var 3)))) (fss_one (fs_set (i := 3) hN rfl (by first | exact .inl rfl | exact .inr rfl) (fe_F d_law_joined tkF hr (fa_cons (fe_var 3) (fa_cons (fe_var 5) fa_nil)) (Nat.le_refl _)))))))
  (fss_cons (fs_if (ft_w (fw_or (ft_cmp (or_ne (u64 hr)) (fe_F d_grown tkF hr (fa_cons (fe_var 1) (fa_cons (fe_var 2) fa_nil)) (Nat.le_refl _)) (fe_var 3) (by rfl)) (fw_or1 (ft_w (fw_and (ft_cmp (or_ne (u64 hr)) (fe_var 2) (fe_fl fa_nil) (by rfl)) (fw_and1 (ft_cmp (or_ne (u64 hr)) (fe_F d_made_of tkF hr (fa_cons (fe_F d_grown tkF hr (fa_cons (fe_var 1) (fa_cons (fe_sl (fe_var 2) fo_none (fo_some (fe_op or_sub (fe_B cr_len n_len (fa_cons (fe_var 2) fa_nil)) fe_int))) fa_nil)) (Nat.le_refl _)) (fa_cons (fe_ix (u1 hr) (fe_var 2) (fe_neg fe_int)) fa_nil)) (Nat.le_refl _)) (fe_var 3) (by rfl)))))))) (fss_one (fs_ret fe_bl)) fss_nil)
  (fss_cons (fs_set (i := 6) hN rfl (by first | exact .inl rfl | exact .inr rfl) (fe_ix (u1 hr) (fe_fl (fa_cons fe_str (fa_cons fe_str (fa_cons fe_str fa_nil)))) (fe_F d_law_roll tkF hr (fa_cons (fe_var 0) (fa_cons fe_int fa_nil)) (Nat.le_refl _))))
  (fss_cons (fs_set (i := 7) hN rfl (by first | exact .inl rfl | exact .inr rfl) (fe_F d_taken_apart tkF hr (fa_cons (fe_fl (fa_cons fe_str (fa_cons fe_str (fa_cons fe_str fa_nil)))) (fa_cons (fe_F d_grown tkF hr (fa_cons (fe_var 6) (fa_cons (fe_var 2) fa_nil)) (Nat.le_refl _)) fa_nil)) (Nat.le_refl _)))
  (fss_cons (fs_if (ft_cmp (or_nin (u65 hr)) (fe_tup (fa_cons (fe_var 6) (fa_cons (fe_BT cr_tup n_tuple (fa_cons (fe_var 2) fa_nil)) fa_nil))) (fe_var 7) (by rfl)) (fss_one (fs_ret fe_bl)) fss_nil)
  (fss_cons (fs_if (ft_cmp (or_ne (u64 hr)) (fe_lc rfl hN (fe_var 7) (LcP.mk (own := [("one", 8), ("row", 9)]) (blk_by (N := ["dice", "stem", "ways", "here", "k", "way", "short", "told", "one", "row"]) (sc := defScope s_law_grown) (by decide +kernel)) (fun s H C cl fp => (fg_tup rfl (fgs_cons (fg_name hN rfl (by first | exact .inl rfl | exact .inr rfl)) (fgs_cons (fg_name hN rfl (by first | exact .inl rfl | exact .inr rfl)) fgs_nil)))) (fun s H C cl fp => (fts_one (ft_cmp (or_ne (u64 hr)) (fe_F d_grown LamX.takes0 hr (fa_cons (fe_var 8) (fa_cons (fe_var 9) fa_nil)) (Nat.le_refl _)) (fe_F d_grown LamX.takes0 hr (fa_cons (fe_var 6) (fa_cons (fe_var 2) fa_nil)) (Nat.le_refl _)) (by rfl)))) (fun s H C cl fp => (fe_var 8)))) (fe_fl fa_nil) (by rfl)) (fss_one (fs_ret fe_bl)) fss_nil)
  (fss_cons (fs_if (ft_cmp (or_ne (u64 hr)) (fe_BT cr_list n_list (fa_cons (fe_var 7) fa_nil)) (fe_B (cr_sort2 rfl (u64 hr)) n_sorted (fa_cons (fe_var 7) fa_nil)) (by rfl)) (fss_one (fs_ret fe_bl)) fss_nil)
  (fss_one (fs_ret fe_bl))))))))))
/-! ### _law_who: slots 0 cases, 1 n, 2 who, 3 tail, 4 k -/
abbrev s_law_who : Stmt := top 38
def b_law_who_1 (F_who_form : List FL.D → VH → Out FL.D) : FSt :=
  (sSeq (sAs (eTup (aCons (e2 oIx (eFl (aCons (eC (.str [109, 105])) (aCons (eC (.str [116, 105])) (aCons (eC (.str [108, 111])) (aCons (eC (.str [108, 97])) aNil))))) (eV 1)) (aCons (eFl (aCons (eC (.str [])) (aCons (eC (.str [110])) (aCons (eC (.str [115])) (aCons (eC (.str [108])) aNil))))) aNil))) (gT 2 (gCons (gN 2) (gCons (gN 3) gNil))))
  (sSeq (sIf (tV (e2 cNe (FL.eLcR (aCons (eC (.int 4)) aNil) (gN 4) tYes (eF F_who_form (aCons (eV 2) (aCons (e2 oIx (eV 0) (eV 4)) (aCons (eC (.bl false)) aNil)))) [4]) (FL.eLcR (aCons (eC (.int 4)) aNil) (gN 4) tYes (e2 oAdd (eV 2) (e2 oIx (eV 3) (eV 4))) [4]))) (sRet (eC (.bl false))) sNil)
  (sIf (tV (e2 cNe (FL.eLcR (aCons (eC (.int 4)) aNil) (gN 4) tYes (eF F_who_form (aCons (eV 2) (aCons (e2 oIx (eV 0) (eV 4)) (aCons (eC (.bl true)) aNil)))) [4]) (FL.eLcR (aCons (eC (.int 4)) aNil) (gN 4) tYes (e2 oAdd (e2 oAdd (e2 oAdd (eV 2) (eC (.str [114]))) (e2 oIx (eC (.str [97, 101, 105, 111])) (eV 1))) (e2 oIx (eV 3) (eV 4))) [4]))) (sRet (eC (.bl false))) sNil)))
def b_law_who (F_who_form : List FL.D → VH → Out FL.D) : FSt :=
  (sSeq (sForR (aCons (eC (.int 4)) aNil) (gN 1)
  (b_law_who_1 F_who_form))
  (sRet (eC (.bl true))))
theorem sc_law_who : FnScope ["cases", "n", "who", "tail", "k"] ["cases"] (defScope s_law_who) := ⟨rfl, rfl, rfl, by decide +kernel, rfl, by decide +kernel, by decide +kernel⟩
theorem x_law_who {P : Program} {w : World} {K : PySem.W.Frag} {mg : Str → Option Value} {base : Heap} {g : Gc} {k : Nat} (n_range : mg "range" = none) {F_who_form : List FL.D → VH → Out FL.D} (d_who_form : Df P w K mg base g k "who_form" F_who_form) {f : Addr} {fd : FuncData} (Fn : L2.Fun K "_law_who" "_law_who" s_law_who f fd) (hm : mg "_law_who" = some (.ref f)) (hb : Binds K fd ["cases"] []) :
    Df P w K mg base g (k + 1) "_law_who" (runF 1 5 (b_law_who F_who_form)) := by
  refine Df.mkD Fn sc_law_who hm hb fun cdv A outer s H E hr => ?_
  have hN := sc_law_who.nd
  exact (fss_cons (fs_forR1 (own := [1]) poF rfl n_range (fa_cons fe_int fa_nil) (aLen_cons aLen_nil) (fg_name hN rfl (by first | exact .inl rfl | exact .inr rfl))
  (fss_cons (fs_as (own := [2, 3]) (fe_tup (fa_cons (fe_ix (u1 hr) (fe_fl (fa_cons fe_str (fa_cons fe_str (fa_cons fe_str (fa_cons fe_str fa_nil))))) (fe_var 1)) (fa_cons (fe_fl (fa_cons fe_str (fa_cons fe_str (fa_cons fe_str (fa_cons fe_str fa_nil))))) fa_nil))) (fg_tup rfl (fgs_cons (fg_name hN rfl (by first | exact .inl rfl | exact .inr rfl)) (fgs_cons (fg_name hN rfl (by first | exact .inl rfl | exact .inr rfl)) fgs_nil))))
  (fss_cons (fs_if (ft_cmp (or_ne (u64 hr)) (fe_lcR1 rfl hN n_range (fa_cons fe_int fa_nil) (aLen_cons aLen_nil) (LcP.mk (own := [("k", 4)]) (blk_by (N := ["cases", "n", "who", "tail", "k"]) (sc := defScope s_law_who) (by decide +kernel)) (fun s H C cl fp => (fg_name hN rfl (by first | exact .inl rfl | exact .inr rfl))) (fun s H C cl fp => fts_nil) (fun s H C cl fp => (fe_F d_who_form LamX.takes0 hr (fa_cons (fe_var 2) (fa_cons (fe_ix (u1 hr) (fe_var 0) (fe_var 4)) (fa_cons fe_bl fa_nil))) (Nat.le_refl _))))) (fe_lcR1 rfl hN n_range (fa_cons fe_int fa_nil) (aLen_cons aLen_nil) (LcP.mk (own := [("k", 4)]) (blk_by (N := ["cases", "n", "who", "tail", "k"]) (sc := defScope s_law_who) (by decide +kernel)) (fun s H C cl fp => (fg_name hN rfl (by first | exact .inl rfl | exact .inr rfl))) (fun s H C cl fp => fts_nil) (fun s H C cl fp => (fe_op or_add (fe_var 2) (fe_ix (u1 hr) (fe_var 3) (fe_var 4)))))) (by rfl)) (fss_one (fs_ret fe_bl)) fss_nil)
  (fss_one (fs_if (ft_cmp (or_ne (u64 hr)) (fe_lcR1 rfl hN n_range (fa_cons fe_int fa_nil) (aLen_cons aLen_nil) (LcP.mk (own := [("k", 4)]) (blk_by (N := ["cases", "n", "who", "tail", "k"]) (sc := defScope s_law_who) (by decide +kernel)) (fun s H C cl fp => (fg_name hN rfl (by first | exact .inl rfl | exact .inr rfl))) (fun s H C cl fp => fts_nil) (fun s H C cl fp => (fe_F d_who_form LamX.takes0 hr (fa_cons (fe_var 2) (fa_cons (fe_ix (u1 hr) (fe_var 0) (fe_var 4)) (fa_cons fe_bl fa_nil))) (Nat.le_refl _))))) (fe_lcR1 rfl hN n_range (fa_cons fe_int fa_nil) (aLen_cons aLen_nil) (LcP.mk (own := [("k", 4)]) (blk_by (N := ["cases", "n", "who", "tail", "k"]) (sc := defScope s_law_who) (by decide +kernel)) (fun s H C cl fp => (fg_name hN rfl (by first | exact .inl rfl | exact .inr rfl))) (fun s H C cl fp => fts_nil) (fun s H C cl fp => (fe_op or_add (fe_op or_add (fe_op or_add (fe_var 2) fe_str) (fe_ix (u1 hr) fe_str (fe_var 1))) (fe_ix (u1 hr) (fe_var 3) (fe_var 4)))))) (by rfl)) (fss_one (fs_ret fe_bl)) fss_nil)))))
  (fss_one (fs_ret fe_bl)))
/-! ### law: slots 0 script, 1 cases, 2 dice, 3 rows, 4 case, 5 stem, 6 kind, 7 many, 8 time, 9 ahead, 10 person, 11 tail, 12 row -/
abbrev s_law : Stmt := top 39
def b_law_1 (F_law_word : List FL.D → VH → Out FL.D) (F_law_roll : List FL.D → VH → Out FL.D) (F_law_thing : List FL.D → VH → Out FL.D) (F_thing_form : List FL.D → VH → Out FL.D) (F_forms_of_thing : List FL.D → VH → Out FL.D) (F_law_joined : List FL.D → VH → Out FL.D) (F_forms_of_deed : List FL.D → VH → Out FL.D) (F_deed_form : List FL.D → VH → Out FL.D) (F_law_who : List FL.D → VH → Out FL.D) (F_asked_form : List FL.D → VH → Out FL.D) (F_joined : List FL.D → VH → Out FL.D) (F_law_grown : List FL.D → VH → Out FL.D) (F_who_form : List FL.D → VH → Out FL.D) (F_made_of : List FL.D → VH → Out FL.D) (F_law_rounds : List FL.D → VH → Out FL.D) : FSt :=
  (sSeq (sEx (eM isL mAppend (eV 3) (aCons (eTup (aCons (eF F_law_thing (aCons (eV 5) (aCons (eV 6) (aCons (eV 4) (aCons (eV 7) aNil))))) (aCons (eV 4) (aCons (eV 7) aNil)))) aNil)))
  (sIf (tV (e2 cNe (eF F_thing_form (aCons (eV 5) (aCons (eV 6) (aCons (eV 4) (aCons (eV 7) aNil))))) (e2 oIx (e2 oIx (eV 3) (e1 oNeg (eC (.int 1)))) (eC (.int 0))))) (sRet (eC (.bl false))) sNil))
def b_law_2 (F_law_word : List FL.D → VH → Out FL.D) (F_law_roll : List FL.D → VH → Out FL.D) (F_law_thing : List FL.D → VH → Out FL.D) (F_thing_form : List FL.D → VH → Out FL.D) (F_forms_of_thing : List FL.D → VH → Out FL.D) (F_law_joined : List FL.D → VH → Out FL.D) (F_forms_of_deed : List FL.D → VH → Out FL.D) (F_deed_form : List FL.D → VH → Out FL.D) (F_law_who : List FL.D → VH → Out FL.D) (F_asked_form : List FL.D → VH → Out FL.D) (F_joined : List FL.D → VH → Out FL.D) (F_law_grown : List FL.D → VH → Out FL.D) (F_who_form : List FL.D → VH → Out FL.D) (F_made_of : List FL.D → VH → Out FL.D) (F_law_rounds : List FL.D → VH → Out FL.D) : FSt :=
  (sFor (eFl (aCons (eC (.bl false)) (aCons (eC (.bl true)) aNil))) (gN 7)
  (b_law_1 F_law_word F_law_roll F_law_thing F_thing_form F_forms_of_thing F_law_joined F_forms_of_deed F_deed_form F_law_who F_asked_form F_joined F_law_grown F_who_form F_made_of F_law_rounds))
def b_law_3 (F_law_word : List FL.D → VH → Out FL.D) (F_law_roll : List FL.D → VH → Out FL.D) (F_law_thing : List FL.D → VH → Out FL.D) (F_thing_form : List FL.D → VH → Out FL.D) (F_forms_of_thing : List FL.D → VH → Out FL.D) (F_law_joined : List FL.D → VH → Out FL.D) (F_forms_of_deed : List FL.D → VH → Out FL.D) (F_deed_form : List FL.D → VH → Out FL.D) (F_law_who : List FL.D → VH → Out FL.D) (F_asked_form : List FL.D → VH → Out FL.D) (F_joined : List FL.D → VH → Out FL.D) (F_law_grown : List FL.D → VH → Out FL.D) (F_who_form : List FL.D → VH → Out FL.D) (F_made_of : List FL.D → VH → Out FL.D) (F_law_rounds : List FL.D → VH → Out FL.D) : FSt :=
  (sSeq (sAs (e2 oAdd (eV 9) (e2 oIx (e2 oIx (eFl (aCons (eFl (aCons (eC (.str [117])) (aCons (eC (.str [105, 115])) (aCons (eC (.str [101])) aNil)))) (aCons (eFl (aCons (eC (.str [117, 109, 111])) (aCons (eC (.str [105, 116, 101])) (aCons (eC (.str [101, 110])) aNil)))) aNil))) (eB bInt (aCons (eV 7) aNil))) (e2 oSub (eV 10) (eC (.int 1))))) (gN 11))
  (sEx (eM isL mAppend (eV 3) (aCons (eTup (aCons (eF F_law_joined (aCons (eV 5) (aCons (eV 11) aNil))) (aCons (eV 8) (aCons (eV 10) (aCons (eV 7) aNil))))) aNil))))
def b_law_4 (F_law_word : List FL.D → VH → Out FL.D) (F_law_roll : List FL.D → VH → Out FL.D) (F_law_thing : List FL.D → VH → Out FL.D) (F_thing_form : List FL.D → VH → Out FL.D) (F_forms_of_thing : List FL.D → VH → Out FL.D) (F_law_joined : List FL.D → VH → Out FL.D) (F_forms_of_deed : List FL.D → VH → Out FL.D) (F_deed_form : List FL.D → VH → Out FL.D) (F_law_who : List FL.D → VH → Out FL.D) (F_asked_form : List FL.D → VH → Out FL.D) (F_joined : List FL.D → VH → Out FL.D) (F_law_grown : List FL.D → VH → Out FL.D) (F_who_form : List FL.D → VH → Out FL.D) (F_made_of : List FL.D → VH → Out FL.D) (F_law_rounds : List FL.D → VH → Out FL.D) : FSt :=
  (sFor (eFl (aCons (eC (.bl false)) (aCons (eC (.bl true)) aNil))) (gN 7)
  (b_law_3 F_law_word F_law_roll F_law_thing F_thing_form F_forms_of_thing F_law_joined F_forms_of_deed F_deed_form F_law_who F_asked_form F_joined F_law_grown F_who_form F_made_of F_law_rounds))
def b_law_5 (F_law_word : List FL.D → VH → Out FL.D) (F_law_roll : List FL.D → VH → Out FL.D) (F_law_thing : List FL.D → VH → Out FL.D) (F_thing_form : List FL.D → VH → Out FL.D) (F_forms_of_thing : List FL.D → VH → Out FL.D) (F_law_joined : List FL.D → VH → Out FL.D) (F_forms_of_deed : List FL.D → VH → Out FL.D) (F_deed_form : List FL.D → VH → Out FL.D) (F_law_who : List FL.D → VH → Out FL.D) (F_asked_form : List FL.D → VH → Out FL.D) (F_joined : List FL.D → VH → Out FL.D) (F_law_grown : List FL.D → VH → Out FL.D) (F_who_form : List FL.D → VH → Out FL.D) (F_made_of : List FL.D → VH → Out FL.D) (F_law_rounds : List FL.D → VH → Out FL.D) : FSt :=
  (sFor (eFl (aCons (eC (.int 1)) (aCons (eC (.int 2)) (aCons (eC (.int 3)) aNil)))) (gN 10)
  (b_law_4 F_law_word F_law_roll F_law_thing F_thing_form F_forms_of_thing F_law_joined F_forms_of_deed F_deed_form F_law_who F_asked_form F_joined F_law_grown F_who_form F_made_of F_law_rounds))
def b_law_6 (F_law_word : List FL.D → VH → Out FL.D) (F_law_roll : List FL.D → VH → Out FL.D) (F_law_thing : List FL.D → VH → Out FL.D) (F_thing_form : List FL.D → VH → Out FL.D) (F_forms_of_thing : List FL.D → VH → Out FL.D) (F_law_joined : List FL.D → VH → Out FL.D) (F_forms_of_deed : List FL.D → VH → Out FL.D) (F_deed_form : List FL.D → VH → Out FL.D) (F_law_who : List FL.D → VH → Out FL.D) (F_asked_form : List FL.D → VH → Out FL.D) (F_joined : List FL.D → VH → Out FL.D) (F_law_grown : List FL.D → VH → Out FL.D) (F_who_form : List FL.D → VH → Out FL.D) (F_made_of : List FL.D → VH → Out FL.D) (F_law_rounds : List FL.D → VH → Out FL.D) : FSt :=
  (sSeq (sAs (eTup (aCons (eF F_law_word (aCons (eV 2) (aCons (eC (.int 3)) aNil))) (aCons (eF F_law_roll (aCons (eV 2) (aCons (eC (.int 2)) aNil))) aNil))) (gT 2 (gCons (gN 5) (gCons (gN 6) gNil))))
  (sSeq (sAs (eLst aNil) (gN 3))
  (sSeq (sFor (eV 1) (gN 4)
  (b_law_2 F_law_word F_law_roll F_law_thing F_thing_form F_forms_of_thing F_law_joined F_forms_of_deed F_deed_form F_law_who F_asked_form F_joined F_law_grown F_who_form F_made_of F_law_rounds))
  (sSeq (sIf (tV (e2 cNe (eB bList (aCons (eF F_forms_of_thing (aCons (eV 5) (aCons (eV 6) aNil))) aNil)) (eV 3))) (sRet (eC (.bl false))) sNil)
  (sSeq (sAs (eLst aNil) (gN 3))
  (sSeq (sFor (eFl (aCons (eTup (aCons (eC (.str [110, 111, 119])) (aCons (eC (.str [])) aNil))) (aCons (eTup (aCons (eC (.str [112, 97, 115, 116])) (aCons (eC (.str [97, 114])) aNil))) (aCons (eTup (aCons (eC (.str [116, 111, 32, 99, 111, 109, 101])) (aCons (eC (.str [101, 118])) aNil))) aNil)))) (gT 2 (gCons (gN 8) (gCons (gN 9) gNil)))
  (b_law_5 F_law_word F_law_roll F_law_thing F_thing_form F_forms_of_thing F_law_joined F_forms_of_deed F_deed_form F_law_who F_asked_form F_joined F_law_grown F_who_form F_made_of F_law_rounds))
  (sSeq (sIf (tV (e2 cNe (eB bList (aCons (eF F_forms_of_deed (aCons (eV 5) aNil)) aNil)) (eV 3))) (sRet (eC (.bl false))) sNil)
  (sSeq (sIf (tV (e2 cNe (FL.eLc (eV 3) (gN 12) (tV (e2 cNe (eF F_deed_form (aCons (eV 5) (aCons (e2 oIx (eV 12) (eC (.int 1))) (aCons (e2 oIx (eV 12) (eC (.int 2))) (aCons (e2 oIx (eV 12) (eC (.int 3))) aNil))))) (e2 oIx (eV 12) (eC (.int 0))))) (eV 12) [12]) (eFl aNil))) (sRet (eC (.bl false))) sNil)
  (sSeq (sIf (tNot (tV (eF F_law_who (aCons (eV 1) aNil)))) (sRet (eC (.bl false))) sNil)
  (sSeq (sIf (tOr (tV (e2 cNe (FL.eLc (eV 1) (gN 4) tYes (eF F_asked_form (aCons (eV 4) aNil)) [4]) (eFl (aCons (eC (.str [107, 101, 108])) (aCons (eC (.str [107, 101, 108, 111, 109])) (aCons (eC (.str [107, 101, 108, 101, 115])) (aCons (eC (.str [107, 101, 108, 117, 108])) aNil))))))) (tV (e2 cNe (eF F_joined (aCons (eV 5) (aCons (eC (.str [])) aNil))) (eV 5)))) (sRet (eC (.bl false))) sNil)
  (sSeq (sIf (tNot (tV (eF F_law_grown (aCons (eV 2) (aCons (eV 5) aNil))))) (sRet (eC (.bl false))) sNil)
  (sSeq (sIf (tV (e2 cNe (eTold sub tells (eF F_thing_form (aCons (eV 5) (aCons (eC (.int 2)) (aCons (eC (.str [100, 111, 101, 114])) (aCons (eC (.bl false)) aNil)))))) (eC (.str [119, 111, 114, 100])))) (sRet (eC (.bl false))) sNil)
  (sSeq (sIf (tV (e2 cNe (eTold sub tells (eF F_deed_form (aCons (eV 5) (aCons (eC (.str [101, 118, 101, 114])) (aCons (eC (.int 1)) (aCons (eC (.bl false)) aNil)))))) (eC (.str [119, 111, 114, 100])))) (sRet (eC (.bl false))) sNil)
  (sSeq (sIf (tV (e2 cNe (eTold sub tells (eF F_who_form (aCons (eC (.str [115, 117])) (aCons (eC (.str [100, 111, 101, 114])) (aCons (eC (.bl false)) aNil))))) (eC (.str [119, 111, 114, 100])))) (sRet (eC (.bl false))) sNil)
  (sIf (tV (e2 cNe (eTold sub tells (eF F_made_of (aCons (eV 5) (aCons (eC (.str [117, 109])) aNil)))) (eC (.str [119, 111, 114, 100])))) (sRet (eC (.bl false))) sNil)))))))))))))))
def b_law (F_law_word : List FL.D → VH → Out FL.D) (F_law_roll : List FL.D → VH → Out FL.D) (F_law_thing : List FL.D → VH → Out FL.D) (F_thing_form : List FL.D → VH → Out FL.D) (F_forms_of_thing : List FL.D → VH → Out FL.D) (F_law_joined : List FL.D → VH → Out FL.D) (F_forms_of_deed : List FL.D → VH → Out FL.D) (F_deed_form : List FL.D → VH → Out FL.D) (F_law_who : List FL.D → VH → Out FL.D) (F_asked_form : List FL.D → VH → Out FL.D) (F_joined : List FL.D → VH → Out FL.D) (F_law_grown : List FL.D → VH → Out FL.D) (F_who_form : List FL.D → VH → Out FL.D) (F_made_of : List FL.D → VH → Out FL.D) (F_law_rounds : List FL.D → VH → Out FL.D) : FSt :=
  (sSeq (sAs (eFl (aCons (eC (.str [100, 111, 101, 114])) (aCons (eC (.str [100, 111, 110, 101])) (aCons (eC (.str [111, 119, 110, 101, 114])) (aCons (eC (.str [112, 108, 97, 99, 101])) aNil))))) (gN 1))
  (sSeq (sFor (eF F_law_rounds (aCons (eV 0) (aCons (eC (.int 4)) aNil))) (gN 2)
  (b_law_6 F_law_word F_law_roll F_law_thing F_thing_form F_forms_of_thing F_law_joined F_forms_of_deed F_deed_form F_law_who F_asked_form F_joined F_law_grown F_who_form F_made_of F_law_rounds))
  (sRet (eC (.bl true)))))
theorem sc_law : FnScope ["script", "cases", "dice", "rows", "case", "stem", "kind", "many", "time", "ahead", "person", "tail", "row"] ["script"] (defScope s_law) := ⟨rfl, rfl, rfl, by decide +kernel, rfl, by decide +kernel, by decide +kernel⟩
theorem x_law {P : Program} {w : World} {K : PySem.W.Frag} {mg : Str → Option Value} {base : Heap} {g : Gc} {k : Nat} (n_list : mg "list" = none) (n_int : mg "int" = none) (T_law_told : Teller K mg g "_law_told" "what" s_law_told ["what"] tells) (hsub : Subs K g sub) {F_law_word : List FL.D → VH → Out FL.D} (d_law_word : Df P w K mg base g k "_law_word" F_law_word) {F_law_roll : List FL.D → VH → Out FL.D} (d_law_roll : Df P w K mg base g k "_law_roll" F_law_roll) {F_law_thing : List FL.D → VH → Out FL.D} (d_law_thing : Df P w K mg base g k "_law_thing" F_law_thing) {F_thing_form : List FL.D → VH → Out FL.D} (d_thing_form : Df P w K mg base g k "thing_form" F_thing_form) {F_forms_of_thing : List FL.D → VH → Out FL.D} (d_forms_of_thing : Df P w K mg base g k "forms_of_thing" F_forms_of_thing) {F_law_joined : List FL.D → VH → Out FL.D} (d_law_joined : Df P w K mg base g k "_law_joined" F_law_joined) {F_forms_of_deed : List FL.D → VH → Out FL.D} (d_forms_of_deed : Df P w K mg base g k "forms_of_deed" F_forms_of_deed) {F_deed_form : List FL.D → VH → Out FL.D} (d_deed_form : Df P w K mg base g k "deed_form" F_deed_form) {F_law_who : List FL.D → VH → Out FL.D} (d_law_who : Df P w K mg base g k "_law_who" F_law_who) {F_asked_form : List FL.D → VH → Out FL.D} (d_asked_form : Df P w K mg base g k "asked_form" F_asked_form) {F_joined : List FL.D → VH → Out FL.D} (d_joined : Df P w K mg base g k "joined" F_joined) {F_law_grown : List FL.D → VH → Out FL.D} (d_law_grown : Df P w K mg base g k "_law_grown" F_law_grown) {F_who_form : List FL.D → VH → Out FL.D} (d_who_form : Df P w K mg base g k "who_form" F_who_form) {F_made_of : List FL.D → VH → Out FL.D} (d_made_of : Df P w K mg base g k "made_of" F_made_of) {F_law_rounds : List FL.D → VH → Out FL.D} (d_law_rounds : Df P w K mg base g k "_law_rounds" F_law_rounds) {f c Pt : Addr} {dV kV doc pm ct oc : Value} {an od : Option Addr} {osl : Array (Option Value)} (lk : K.lookup f = some ⟨oc, od, .func (PySem.W.fnOf "law" "law" (defArgs s_law) (defBody s_law) (defScope s_law) dV kV doc pm an (.ref c) ct), osl⟩)
    (hcd : PySem.W.codeIn K (.ref c) "law" = true) (TB : LamX.TabB base mg c Pt) (hmT : (Pt, PySem.Str.ofString "law.<locals>.<lambda>") ∈ g.T) (hu : ∀ p ∈ g.T, p.1 = Pt → p.2 = PySem.Str.ofString "law.<locals>.<lambda>") :
    FnOk P w K mg base (L2.CX P w) (k + 3) f (PySem.W.fnOf "law" "law" (defArgs s_law) (defBody s_law) (defScope s_law) dV kV doc pm an (.ref c) ct) ["script"] (spF K g (runF 1 13 (b_law F_law_word F_law_roll F_law_thing F_thing_form F_forms_of_thing F_law_joined F_forms_of_deed F_deed_form F_law_who F_asked_form F_joined F_law_grown F_who_form F_made_of F_law_rounds))) := by
  refine mkC lk hcd sc_law fun A outer s H E hr2 => ?_
  have hN := sc_law.nd
  have hr : Room k _ := hr2.mono (by omega)
  exact (fss_cons (fs_set (i := 1) hN rfl (by first | exact .inl rfl | exact .inr rfl) (fe_fl (fa_cons fe_str (fa_cons fe_str (fa_cons fe_str (fa_cons fe_str fa_nil))))))
  (fss_cons (fs_for (own := [2]) poF rfl (fe_F d_law_rounds tkF hr (fa_cons (fe_var 0) (fa_cons fe_int fa_nil)) (Nat.le_refl _)) (fg_name hN rfl (by first | exact .inl rfl | exact .inr rfl))
  (fss_cons (fs_as (own := [5, 6]) (fe_tup (fa_cons (fe_F d_law_word tkF hr (fa_cons (fe_var 2) (fa_cons fe_int fa_nil)) (Nat.le_refl _)) (fa_cons (fe_F d_law_roll tkF hr (fa_cons (fe_var 2) (fa_cons fe_int fa_nil)) (Nat.le_refl _)) fa_nil))) (fg_tup rfl (fgs_cons (fg_name hN rfl (by first | exact .inl rfl | exact .inr rfl)) (fgs_cons (fg_name hN rfl (by first | exact .inl rfl | exact .inr rfl)) fgs_nil))))
  (fss_cons (fs_set (i := 3) hN rfl (by first | exact .inl rfl | exact .inr rfl) (fe_lst fa_nil))
  (fss_cons (fs_for (own := [4]) poF rfl (fe_var 1) (fg_name hN rfl (by first | exact .inl rfl | exact .inr rfl))
  (fss_one (fs_for (own := [7]) poF rfl (fe_fl (fa_cons fe_bl (fa_cons fe_bl fa_nil))) (fg_name hN rfl (by first | exact .inl rfl | exact .inr rfl))
  (fss_cons (fs_ex (fe_M PySem.F.plainAttrs_list PySem.F.slot_list_append PySem.F.type_list_append mr_append ty_list (fe_var 3) (fa_cons (fe_tup (fa_cons (fe_F d_law_thing tkF hr (fa_cons (fe_var 5) (fa_cons (fe_var 6) (fa_cons (fe_var 4) (fa_cons (fe_var 7) fa_nil)))) (Nat.le_refl _)) (fa_cons (fe_var 4) (fa_cons (fe_var 7) fa_nil)))) fa_nil)))
  (fss_one (fs_if (ft_cmp (or_ne (u64 hr)) (fe_F d_thing_form tkF hr (fa_cons (fe_var 5) (fa_cons (fe_var 6) (fa_cons (fe_var 4) (fa_cons (fe_var 7) fa_nil)))) (Nat.le_refl _)) (fe_ix (u1 hr) (fe_ix (u1 hr) (fe_var 3) (fe_neg fe_int)) fe_int) (by rfl)) (fss_one (fs_ret fe_bl)) fss_nil))))))
  (fss_cons (fs_if (ft_cmp (or_ne (u64 hr)) (fe_BT cr_list n_list (fa_cons (fe_F d_forms_of_thing tkF hr (fa_cons (fe_var 5) (fa_cons (fe_var 6) fa_nil)) (Nat.le_refl _)) fa_nil)) (fe_var 3) (by rfl)) (fss_one (fs_ret fe_bl)) fss_nil)
  (fss_cons (fs_set (i := 3) hN rfl (by first | exact .inl rfl | exact .inr rfl) (fe_lst fa_nil))
  (fss_cons (fs_for (own := [8, 9]) poF rfl (fe_fl (fa_cons (fe_tup (fa_cons fe_str (fa_cons fe_str fa_nil))) (fa_cons (fe_tup (fa_cons fe_str (fa_cons fe_str fa_nil))) (fa_cons (fe_tup (fa_cons fe_str (fa_cons fe_str fa_nil))) fa_nil)))) (fg_tup rfl (fgs_cons (fg_name hN rfl (by first | exact .inl rfl | exact .inr rfl)) (fgs_cons (fg_name hN rfl (by first | exact .inl rfl | exact .inr rfl)) fgs_nil)))
  (fss_one (fs_for (own := [10]) poF rfl (fe_fl (fa_cons fe_int (fa_cons fe_int (fa_cons fe_int fa_nil)))) (fg_name hN rfl (by first | exact .inl rfl | exact .inr rfl))
  (fss_one (fs_for (own := [7]) poF rfl (fe_fl (fa_cons fe_bl (fa_cons fe_bl fa_nil))) (fg_name hN rfl (by first | exact .inl rfl | exact .inr rfl))
  (fss_cons (fs_set (i := 11) hN rfl (by first | exact .inl rfl | exact .inr rfl) (fe_op or_add (fe_var 9) (fe_ix (u1 hr) (fe_ix (u1 hr) (fe_fl (fa_cons (fe_fl (fa_cons fe_str (fa_cons fe_str (fa_cons fe_str fa_nil)))) (fa_cons (fe_fl (fa_cons fe_str (fa_cons fe_str (fa_cons fe_str fa_nil)))) fa_nil))) (fe_BT cr_int n_int (fa_cons (fe_var 7) fa_nil))) (fe_op or_sub (fe_var 10) fe_int))))
  (fss_one (fs_ex (fe_M PySem.F.plainAttrs_list PySem.F.slot_list_append PySem.F.type_list_append mr_append ty_list (fe_var 3) (fa_cons (fe_tup (fa_cons (fe_F d_law_joined tkF hr (fa_cons (fe_var 5) (fa_cons (fe_var 11) fa_nil)) (Nat.le_refl _)) (fa_cons (fe_var 8) (fa_cons (fe_var 10) (fa_cons (fe_var 7) fa_nil))))) fa_nil))))))))))
  (fss_cons (fs_if (ft_cmp (or_ne (u64 hr)) (fe_BT cr_list n_list (fa_cons (fe_F d_forms_of_deed tkF hr (fa_cons (fe_var 5) fa_nil) (Nat.le_refl _)) fa_nil)) (fe_var 3) (by rfl)) (fss_one (fs_ret fe_bl)) fss_nil)
  (fss_cons (fs_if (ft_cmp (or_ne (u64 hr)) (fe_lc rfl hN (fe_var 3) (LcP.mk (own := [("row", 12)]) (blk_by (N := ["script", "cases", "dice", "rows", "case", "stem", "kind", "many", "time", "ahead", "person", "tail", "row"]) (sc := defScope s_law) (by decide +kernel)) (fun s H C cl fp => (fg_name hN rfl (by first | exact .inl rfl | exact .inr rfl))) (fun s H C cl fp => (fts_one (ft_cmp (or_ne (u64 hr)) (fe_F d_deed_form LamX.takes0 hr (fa_cons (fe_var 5) (fa_cons (fe_ix (u1 hr) (fe_var 12) fe_int) (fa_cons (fe_ix (u1 hr) (fe_var 12) fe_int) (fa_cons (fe_ix (u1 hr) (fe_var 12) fe_int) fa_nil)))) (Nat.le_refl _)) (fe_ix (u1 hr) (fe_var 12) fe_int) (by rfl)))) (fun s H C cl fp => (fe_var 12)))) (fe_fl fa_nil) (by rfl)) (fss_one (fs_ret fe_bl)) fss_nil)
  (fss_cons (fs_if (ft_not (ft_val (fe_F d_law_who tkF hr (fa_cons (fe_var 1) fa_nil) (Nat.le_refl _)))) (fss_one (fs_ret fe_bl)) fss_nil)
  (fss_cons (fs_if (ft_w (fw_or (ft_cmp (or_ne (u64 hr)) (fe_lc rfl hN (fe_var 1) (LcP.mk (own := [("case", 4)]) (blk_by (N := ["script", "cases", "dice", "rows", "case", "stem", "kind", "many", "time", "ahead", "person", "tail", "row"]) (sc := defScope s_law) (by decide +kernel)) (fun s H C cl fp => (fg_name hN rfl (by first | exact .inl rfl | exact .inr rfl))) (fun s H C cl fp => fts_nil) (fun s H C cl fp => (fe_F d_asked_form LamX.takes0 hr (fa_cons (fe_var 4) fa_nil) (Nat.le_refl _))))) (fe_fl (fa_cons fe_str (fa_cons fe_str (fa_cons fe_str (fa_cons fe_str fa_nil))))) (by rfl)) (fw_or1 (ft_cmp (or_ne (u64 hr)) (fe_F d_joined tkF hr (fa_cons (fe_var 5) (fa_cons fe_str fa_nil)) (Nat.le_refl _)) (fe_var 5) (by rfl))))) (fss_one (fs_ret fe_bl)) fss_nil)
  (fss_cons (fs_if (ft_not (ft_val (fe_F d_law_grown tkF hr (fa_cons (fe_var 2) (fa_cons (fe_var 5) fa_nil)) (Nat.le_refl _)))) (fss_one (fs_ret fe_bl)) fss_nil)
  (fss_cons (fs_if (ft_cmp (or_ne (u64 hr)) (fe_told T_law_told hsub rfl TB rfl hmT hu hr2 (LamX.lamS_by (sc := defScope s_law) (by decide +kernel)) rfl (fun _ _ _ _ _ => rfl) (fun A outer s H E f c hr => (fe_F d_thing_form tkL hr (fa_cons (fe_var 5) (fa_cons fe_int (fa_cons fe_str (fa_cons fe_bl fa_nil)))) (Nat.le_refl _)))) fe_str (by rfl)) (fss_one (fs_ret fe_bl)) fss_nil)
  (fss_cons (fs_if (ft_cmp (or_ne (u64 hr)) (fe_told T_law_told hsub rfl TB rfl hmT hu hr2 (LamX.lamS_by (sc := defScope s_law) (by decide +kernel)) rfl (fun _ _ _ _ _ => rfl) (fun A outer s H E f c hr => (fe_F d_deed_form tkL hr (fa_cons (fe_var 5) (fa_cons fe_str (fa_cons fe_int (fa_cons fe_bl fa_nil)))) (Nat.le_refl _)))) fe_str (by rfl)) (fss_one (fs_ret fe_bl)) fss_nil)
  (fss_cons (fs_if (ft_cmp (or_ne (u64 hr)) (fe_told T_law_told hsub rfl TB rfl hmT hu hr2 (LamX.lamS_by (sc := defScope s_law) (by decide +kernel)) rfl (fun _ _ _ _ _ => rfl) (fun A outer s H E f c hr => (fe_F d_who_form tkL hr (fa_cons fe_str (fa_cons fe_str (fa_cons fe_bl fa_nil))) (Nat.le_refl _)))) fe_str (by rfl)) (fss_one (fs_ret fe_bl)) fss_nil)
  (fss_one (fs_if (ft_cmp (or_ne (u64 hr)) (fe_told T_law_told hsub rfl TB rfl hmT hu hr2 (LamX.lamS_by (sc := defScope s_law) (by decide +kernel)) rfl (fun _ _ _ _ _ => rfl) (fun A outer s H E f c hr => (fe_F d_made_of tkL hr (fa_cons (fe_var 5) (fa_cons fe_str fa_nil)) (Nat.le_refl _)))) fe_str (by rfl)) (fss_one (fs_ret fe_bl)) fss_nil)))))))))))))))))
  (fss_one (fs_ret fe_bl))))
end K04
end
set_option Elab.async false
set_option linter.all false
set_option maxRecDepth 100000
set_option maxHeartbeats 4000000
namespace K04
open PySem FL
/-! ### sounds: words -/
def vows : List Nat := [97, 101, 105, 111, 117]
def oths : List Nat := [98, 100, 102, 103, 107, 108, 109, 110, 112, 114, 115, 116, 118, 122]
def heads : List (List Nat) := [[112, 114], [116, 114], [107, 114], [98, 114], [100, 114], [103, 114], [112, 108], [107, 108], [98, 108], [103, 108], [102, 108], [102, 114], [115, 116]]
def isV (c : Nat) : Bool := decide (c ∈ vows)
def isLt (c : Nat) : Bool := decide (c ∈ vows ++ oths)
theorem c_VOWELS_eq : c_VOWELS = .str vows := rfl
theorem c_OTHERS_eq : c_OTHERS = .str oths := rfl
def isWord (w : List Nat) : Bool := decide (1 ≤ w.length ∧ w.length ≤ 30) && (w.all isLt && w.any isV)
theorem isWord_len {w : List Nat} (h : isWord w = true) : 1 ≤ w.length ∧ w.length ≤ 30 := by
  unfold isWord at h
  rw [Bool.and_eq_true] at h
  exact of_decide_eq_true h.1
def wordS : List D → VH → Out D
  | [.str w], h => if w.length ≤ 16777216 then .ok (.bl (isWord w)) h else .bad
  | [.non], h => .ok (.bl false) h
  | [.int _], h => .ok (.bl false) h
  | _, _ => .bad
theorem word_eq (xs : List D) (h : VH) : wordS xs h = .bad ∨ runF 1 2 b_is_word xs h = wordS xs h := by
  have run : ∀ x, runF 1 2 b_is_word [x] h = endF (b_is_word [some x, none] h) := fun x => rfl
  unfold wordS
  split
  · rename_i w
    split
    · rename_i hl
      right
      have q1 : stT false (gN 1) tYes (e2 cIn (eV 1) (e2 oAdd (eC c_VOWELS) (eC c_OTHERS))) [1] [some (.str w), none] (w.map fun c => .str [c]) h = .ok (w.all isLt) h :=
        stT_all (fun c => D.str [c]) isLt w fun c _ => ⟨_, rfl, rfl, by simp [c_VOWELS_eq, c_OTHERS_eq, FL.wipe, isLt, vows, oths]⟩
      have q2 : stT true (gN 1) tYes (e2 cIn (eV 1) (eC c_VOWELS)) [1] [some (.str w), none] (w.map fun c => .str [c]) h = .ok (w.any isV) h :=
        stT_any (fun c => D.str [c]) isV w fun c _ => ⟨_, rfl, rfl, by simp [c_VOWELS_eq, FL.wipe, isV, vows]⟩
      rw [run]
      unfold b_is_word isWord
      by_cases h1 : 1 ≤ w.length
      · have h1' : (1 : Int) ≤ w.length := by omega
        by_cases h2 : w.length ≤ 30
        · have h2' : (w.length : Int) ≤ 30 := by omega
          simp only [ap_sSeq, ap_sIf, ap_tOr, ap_tNot, ap_tV, ap_eB, ap_aCons, ap_aNil, ap_eV, ap_eC, List.getElem?_cons_zero, vK_some, bind_ok, bIsi_x, tyN_s, isi_ss, of_some, bK_bl, Bool.not_true, Bool.false_eq_true, if_false, ap_eCh, bLen_s, hl, if_true, cLe_ii, h1', h2', decide_true, chK_t, thenS_ok, ap_sNil, nextS_nx, ap_sRet, ap_eAnd, ap_eStG, stX_str, q1, q2, stEnd_ok, anK_bl]
          cases w.all isLt <;> simp [h1, h2]
        · have h2' : ¬ (w.length : Int) ≤ 30 := by omega
          simp [hl, h1', h1, h2', h2]
      · have h1' : ¬ (1 : Int) ≤ w.length := by omega
        simp [hl, h1', h1]
    · exact .inl rfl
  · right
    rw [run]
    simp [b_is_word]
  · right
    rw [run]
    simp [b_is_word]
  · exact .inl rfl
theorem word_str {w : List Nat} {h : VH} (hl : w.length ≤ 16777216) : wordS [.str w] h = .ok (.bl (isWord w)) h := by
  exact if_pos hl
/-! ### forms: an ending put to a stem -/
def lastN (w : List Nat) : Nat := w.getD (w.length - 1) 0
def hdN (w : List Nat) : Nat := w.getD 0 0
def joinW (s e : List Nat) : List Nat :=
  if e = [] then s else if isV (lastN s) = true ∧ isV (hdN e) = true then s ++ [110] ++ e
  else if lastN s = 107 ∧ hdN e ∈ [101, 105] then s.take (s.length - 1) ++ [115] ++ e
  else if lastN s = 116 ∧ hdN e = 105 then s.take (s.length - 1) ++ [122] ++ e else s ++ e
def joinS : List D → VH → Out D
  | [.str s, .str e], h => if 1 ≤ s.length ∧ s.length ≤ 1000 ∧ e.length ≤ 1000 then .ok (.str (joinW s e)) h else .bad
  | _, _ => .bad
theorem at_last {w : List Nat} (h : 0 < w.length) : atI w (-1) = some (lastN w) := by
  unfold atI ixN lastN
  rw [if_neg (by decide), if_pos (by omega)]
  have e : ((-1 : Int) + (w.length : Nat)).toNat = w.length - 1 := by omega
  rw [e]
  show w[w.length - 1]? = _
  rw [List.getD_eq_getElem?_getD, List.getElem?_eq_getElem (by omega)]
  rfl
theorem ix_last {w : List Nat} {h : VH} (h0 : 0 < w.length) (hl : w.length ≤ 16777216) : oIx (.str w) (.int (-1)) h = some (.str [lastN w], h) := by
  have e : oIx (.str w) (.int (-1)) h = if w.length ≤ 16777216 then (match atI w (-1) with
    | some c => some (.str [c], h)
    | none => none) else none := rfl
  rw [e, if_pos hl, at_last h0]
theorem ix_hd {w : List Nat} {h : VH} (h0 : 0 < w.length) (hl : w.length ≤ 16777216) : oIx (.str w) (.int 0) h = some (.str [hdN w], h) := by
  have e : oIx (.str w) (.int 0) h = if w.length ≤ 16777216 then (match atI w (0 : Nat) with
    | some c => some (.str [c], h)
    | none => none) else none := rfl
  rw [e, if_pos hl, atI_nat, List.getElem?_eq_getElem h0]
  unfold hdN
  rw [List.getD_eq_getElem?_getD, List.getElem?_eq_getElem h0]
  rfl
theorem join_eq (xs : List D) (h : VH) : joinS xs h = .bad ∨ runF 2 4 b_joined xs h = joinS xs h := by
  have run : ∀ x y, runF 2 4 b_joined [x, y] h = endF (b_joined [some x, some y, none, none] h) := fun x y => rfl
  unfold joinS
  split
  · rename_i s e
    split
    · rename_i hl
      obtain ⟨h1, h2, h3⟩ := hl
      right
      have i1 := ix_last (w := s) (h := h) h1 (by omega)
      rw [run]
      unfold b_joined joinW
      by_cases he : e = []
      · subst he
        simp
      have h4 : 1 ≤ e.length := List.length_pos_iff.mpr he
      have i2 := ix_hd (w := e) (h := h) h4 (by omega)
      have c1 := cut_init s 1 (by decide) h1
      have c1' : cut s none (some (-1)) = s.take (s.length - 1) := c1
      have l1 : (s.take (s.length - 1)).length = s.length - 1 := by rw [List.length_take]; omega
      rw [if_neg he]
      simp only [isV, decide_eq_true_eq]
      refine run_nx (δ1 := [some (.str s), some (.str e), none, none]) (h1 := h) (by simp [he]) ?_
      refine run_nx (δ1 := [some (.str s), some (.str e), some (.str [lastN s]), some (.str [hdN e])]) (h1 := h) (by simp [oNeg, i1, i2]) ?_
      generalize lastN s = a at *
      generalize hdN e = b at *
      clear run
      have z1 : s.length + 1 ≤ 16777216 := by omega
      have z2 : s.length + 1 + e.length ≤ 16777216 := by omega
      have z3 : s.length + e.length ≤ 16777216 := by omega
      have z4 : s.length ≤ 16777216 := by omega
      have z5 : s.length - 1 + 1 ≤ 16777216 := by omega
      have z6 : s.length - 1 + 1 + e.length ≤ 16777216 := by omega
      have z7 : s.length - 1 ≤ 16777216 := by omega
      by_cases q1 : a ∈ vows ∧ b ∈ vows
      · simp [c_VOWELS_eq, q1.1, q1.2, z1, z2, z3]
        try omega
      have q1' : ¬ (a ∈ vows ∧ b ∈ vows) := q1
      have st1 : sIf (tAnd (tV (FL.e2 cIn (eV 2) (eC c_VOWELS))) (tV (FL.e2 cIn (eV 3) (eC c_VOWELS)))) (sRet (FL.e2 oAdd (FL.e2 oAdd (eV 0) (eC (.str [110]))) (eV 1))) sNil [some (.str s), some (.str e), some (.str [a]), some (.str [b])] h = .nx [some (.str s), some (.str e), some (.str [a]), some (.str [b])] h := by
        by_cases qa : a ∈ vows
        · have qb : ¬ b ∈ vows := fun z => q1 ⟨qa, z⟩
          simp [c_VOWELS_eq, qa, qb]
        · simp [c_VOWELS_eq, qa]
      rw [if_neg q1]
      refine run_nx st1 ?_
      by_cases q2 : a = 107 ∧ b ∈ [101, 105]
      · rw [if_pos q2]
        obtain ⟨rfl, q2⟩ := q2
        have q2' : b = 101 ∨ b = 105 := by simpa using q2
        simp [q2', oNeg, c1', z1, z2, z3, z4, l1, z5, z6]
        try omega
      rw [if_neg q2]
      have st2 : sIf (tAnd (tV (FL.e2 cEq (eV 2) (eC (.str [107])))) (tV (FL.e2 cIn (eV 3) (eC (.str [101, 105]))))) (sRet (FL.e2 oAdd (FL.e2 oAdd (eSl (eV 0) pNo (pSo (FL.e1 oNeg (eC (.int 1))))) (eC (.str [115]))) (eV 1))) sNil [some (.str s), some (.str e), some (.str [a]), some (.str [b])] h = .nx [some (.str s), some (.str e), some (.str [a]), some (.str [b])] h := by
        by_cases qa : a = 107
        · have qb : ¬ b ∈ [101, 105] := fun z => q2 ⟨qa, z⟩
          have qb' : ¬ (b = 101 ∨ b = 105) := by simpa using qb
          subst qa
          simp [qb']
        · simp [qa]
      refine run_nx st2 ?_
      by_cases q3 : a = 116 ∧ b = 105
      · rw [if_pos q3]
        obtain ⟨rfl, rfl⟩ := q3
        simp [oNeg, c1', z1, z2, z3, z4, l1, z5, z6]
        try omega
      rw [if_neg q3]
      by_cases qa : a = 116
      · have qb : ¬ b = 105 := fun z => q3 ⟨qa, z⟩
        subst qa
        simp [qb, z3]
      · simp [qa, z3]
    · exact .inl rfl
  · exact .inl rfl
theorem join_ok {s e : List Nat} {h : VH} (h1 : 1 ≤ s.length) (h2 : s.length ≤ 1000) (h3 : e.length ≤ 1000) : joinS [.str s, .str e] h = .ok (.str (joinW s e)) h := if_pos ⟨h1, h2, h3⟩
theorem joinW_len {s e : List Nat} (h1 : 1 ≤ s.length) : s.length + e.length ≤ (joinW s e).length ∧ (joinW s e).length ≤ s.length + e.length + 1 := by
  unfold joinW
  have l1 : (s.take (s.length - 1)).length = s.length - 1 := by rw [List.length_take]; omega
  split
  · rename_i he; subst he; simp
  · split
    · simp; omega
    · split
      · simp only [List.length_append, l1, List.length_singleton]; omega
      · split
        · simp only [List.length_append, l1, List.length_singleton]; omega
        · simp
end K04
set_option Elab.async false
set_option linter.all false
set_option maxRecDepth 100000
set_option maxHeartbeats 4000000
namespace K04
open PySem FL
/-! ### forms: of things, of deeds, of persons, of askers -/
def casesL : List (List Nat) := [[100, 111, 101, 114], [100, 111, 110, 101], [111, 119, 110, 101, 114], [112, 108, 97, 99, 101]]
def timesL : List (List Nat) := [[110, 111, 119], [112, 97, 115, 116], [116, 111, 32, 99, 111, 109, 101]]
def whoL : List (List Nat) := [[109, 105], [116, 105], [108, 111], [108, 97]]
def smallL : List (List Nat) := [[110, 101], [107, 117], [107, 101, 108]]
def end0L : List (List Nat) := [[111], [111, 109], [101, 115], [117, 108]]
def end1L : List (List Nat) := [[97], [97, 109], [105, 115], [117, 108]]
def persL : List (List Nat) := [[117], [105, 115], [101], [117, 109, 111], [105, 116, 101], [101, 110]]
def aheadL : List (List Nat) := [[], [97, 114], [101, 118]]
def whoEndL : List (List Nat) := [[], [110], [115], [108]]
def askEndL : List (List Nat) := [[], [111, 109], [101, 115], [117, 108]]
theorem c_CASES_eq : c_CASES = .tup (casesL.map D.str) := rfl
theorem c_TIMES_eq : c_TIMES = .tup (timesL.map D.str) := rfl
theorem c_WHO_eq : c_WHO = .tup (whoL.map D.str) := rfl
theorem c_SMALL_eq : c_SMALL = .tup (smallL.map D.str) := rfl
theorem c_PERSONS_eq : c_PERSONS = .tup (persL.map D.str) := rfl
/-- the place of c in a list of texts -/
theorem find_ix {l : List (List Nat)} {c : List Nat} (hc : c ∈ l) : l.findIdx? (fun z => decide (z = c)) = some (l.idxOf c) := by
  induction l with
  | nil => cases hc
  | cons b l ih =>
    rw [List.findIdx?_cons, List.idxOf_cons]
    by_cases e : b = c
    · subst e; simp
    · have hm : c ∈ l := (List.mem_cons.mp hc).resolve_left fun z => e z.symm
      have e' : (b == c) = false := by simpa using e
      simp [e, e', ih hm]
theorem mIndexT_at {l : List (List Nat)} {c : List Nat} {h : VH} (hc : c ∈ l) : mIndexT (.tup (l.map D.str)) [.str c] h = some (.int ((l.idxOf c : Nat) : Int), h) := by
  rw [mIndexT_strs, find_ix hc]
theorem idx_lt {l : List (List Nat)} {c : List Nat} (hc : c ∈ l) : l.idxOf c < l.length := List.idxOf_lt_length_iff.mpr hc
theorem ixT_strs {l : List (List Nat)} {n : Nat} {h : VH} (hn : n < l.length) : oIx (.tup (l.map D.str)) (.int (n : Int)) h = some (.str (l.getD n []), h) := by
  have e : oIx (.tup (l.map D.str)) (.int (n : Int)) h = match atI (l.map D.str) (n : Int) with
    | some d => some (d, h)
    | none => none := rfl
  rw [e, atI_nat, List.getElem?_map, List.getElem?_eq_getElem hn, List.getD_eq_getElem?_getD, List.getElem?_eq_getElem hn]
  rfl
theorem ixF_strs {l : List (List Nat)} {n : Nat} {h : VH} (hn : n < l.length) : oIx (.fls (l.map D.str)) (.int (n : Int)) h = some (.str (l.getD n []), h) := by
  have e : oIx (.fls (l.map D.str)) (.int (n : Int)) h = match atI (l.map D.str) (n : Int) with
    | some d => some (d, h)
    | none => none := rfl
  rw [e, atI_nat, List.getElem?_map, List.getElem?_eq_getElem hn, List.getD_eq_getElem?_getD, List.getElem?_eq_getElem hn]
  rfl
/-- things -/
def tailT (k : Int) (n : Nat) : List Nat := if k = 0 then end0L.getD n [] else end1L.getD n []
def manyT (m : Bool) : List Nat := if m = true then [105] else []
def thingW (s : List Nat) (k : Int) (c : List Nat) (m : Bool) : List Nat := joinW s (tailT k (casesL.idxOf c) ++ manyT m)
def thingS : List D → VH → Out D
  | [.str s, .int k, .str c, .bl m], h => if 1 ≤ s.length ∧ s.length ≤ 1000 then (if (k = 0 ∨ k = 1) ∧ c ∈ casesL then .ok (.str (thingW s k c m)) h else .err 0 none h) else .bad
  | _, _ => .bad
theorem end0_ok : ∀ n < 4, 1 ≤ (end0L.getD n []).length ∧ (end0L.getD n []).length ≤ 2 := by decide
theorem end1_ok : ∀ n < 4, 1 ≤ (end1L.getD n []).length ∧ (end1L.getD n []).length ≤ 2 := by decide
theorem tailT_ok {k : Int} {c : List Nat} (hc : c ∈ casesL) : 1 ≤ (tailT k (casesL.idxOf c)).length ∧ (tailT k (casesL.idxOf c)).length ≤ 2 := by
  unfold tailT
  split
  · exact end0_ok _ (idx_lt hc)
  · exact end1_ok _ (idx_lt hc)
theorem manyT_len (m : Bool) : (manyT m).length ≤ 1 := by cases m <;> decide
theorem wn_ENDINGS {k : Int} {h : VH} : oWnin c_ENDINGS (.int k) h = some (.bl (!decide (k = 0 ∨ k = 1)), h) := by
  by_cases h0 : k = 0
  · subst h0; rfl
  · by_cases h1 : k = 1
    · subst h1; rfl
    · have h0' : ¬ (0 : Int) = k := fun z => h0 z.symm
      have h1' : ¬ (1 : Int) = k := fun z => h1 z.symm
      simp [oWnin, isKey, c_ENDINGS, dGet, keyEq, h0, h1, h0', h1']
theorem wx_ENDINGS0 {h : VH} : oWix c_ENDINGS (.int 0) h = some (.tup (end0L.map D.str), h) := rfl
theorem wx_ENDINGS1 {h : VH} : oWix c_ENDINGS (.int 1) h = some (.tup (end1L.map D.str), h) := rfl
theorem thing_eq (xs : List D) (h : VH) : thingS xs h = .bad ∨ runF 4 4 (b_thing_form joinS) xs h = thingS xs h := by
  have run : ∀ x y z u, runF 4 4 (b_thing_form joinS) [x, y, z, u] h = endF (b_thing_form joinS [some x, some y, some z, some u] h) := fun x y z u => rfl
  unfold thingS
  split
  · rename_i s k c m
    split
    · rename_i hl
      right
      rw [run]
      unfold b_thing_form
      have n2 : cNin (.str c) c_CASES h = some (.bl (!decide (c ∈ casesL)), h) := by rw [c_CASES_eq, cNin_sT]
      by_cases hk : k = 0 ∨ k = 1
      · by_cases hc : c ∈ casesL
        · have n3 : mIndexT c_CASES [.str c] h = some (.int ((casesL.idxOf c : Nat) : Int), h) := mIndexT_at hc
          have n4 := idx_lt hc
          have n5 := tailT_ok (k := k) hc
          have n6 := manyT_len m
          have tc : isT c_CASES h = true := rfl
          have q : ∀ e, FL.e2 oAdd (FL.e2 oIx (FL.e1 (oWix c_ENDINGS) (eV 1)) (eM isT mIndexT (eC c_CASES) (aCons (eV 2) aNil))) (eIf (tTr (eV 3)) (eC (.str [105])) (eC (.str []))) [some (.str s), some (.int k), some (.str c), some (.bl m)] h = e → e = .ok (.str (tailT k (casesL.idxOf c) ++ manyT m)) h := by
            intro e he
            rw [← he]
            have l2 : (tailT k (casesL.idxOf c)).length ≤ 16777215 := by omega
            have l3 : (tailT k (casesL.idxOf c)).length ≤ 16777216 := by omega
            rcases hk with rfl | rfl
            · have i4 := ixT_strs (l := end0L) (h := h) n4
              unfold tailT at *
              simp only [if_true] at *
              cases m <;> simp [-List.getD_eq_getElem?_getD, wx_ENDINGS0, tc, n3, i4, manyT, l2, l3]
            · have i4 := ixT_strs (l := end1L) (h := h) n4
              unfold tailT at *
              simp only [show ¬ (1 : Int) = 0 by decide, if_false] at *
              cases m <;> simp [-List.getD_eq_getElem?_getD, wx_ENDINGS1, tc, n3, i4, manyT, l2, l3]
          have q := q _ rfl
          have j : joinS [.str s, .str (tailT k (casesL.idxOf c) ++ manyT m)] h = .ok (.str (thingW s k c m)) h := join_ok hl.1 hl.2 (by rw [List.length_append]; omega)
          rw [if_pos ⟨hk, hc⟩]
          refine run_nx (δ1 := [some (.str s), some (.int k), some (.str c), some (.bl m)]) (h1 := h) (by simp [wn_ENDINGS, hk, n2, hc]) ?_
          simp [-ap_e2, q, j]
        · rw [if_neg fun z => hc z.2]
          simp [wn_ENDINGS, hk, n2, hc]
      · rw [if_neg fun z => hk z.1]
        simp [wn_ENDINGS, hk]
    · exact .inl rfl
  · exact .inl rfl
/-- deeds -/
def tailD (t : List Nat) (p : Int) (m : Bool) : List Nat := aheadL.getD (timesL.idxOf t) [] ++ persL.getD ((p - 1 + if m = true then 3 else 0).toNat) []
def deedW (s t : List Nat) (p : Int) (m : Bool) : List Nat := joinW s (tailD t p m)
def deedS : List D → VH → Out D
  | [.str s, .str t, .int p, .bl m], h => if 1 ≤ s.length ∧ s.length ≤ 1000 ∧ (p = 1 ∨ p = 2 ∨ p = 3) then (if t ∈ timesL then .ok (.str (deedW s t p m)) h else .err 0 none h) else .bad
  | _, _ => .bad
theorem timesL_cases {t : List Nat} (h : t ∈ timesL) : t = [110, 111, 119] ∨ t = [112, 97, 115, 116] ∨ t = [116, 111, 32, 99, 111, 109, 101] := by simpa [timesL] using h
theorem tailD_len {t : List Nat} {p : Int} {m : Bool} (ht : t ∈ timesL) (hp : p = 1 ∨ p = 2 ∨ p = 3) : 1 ≤ (tailD t p m).length ∧ (tailD t p m).length ≤ 5 := by
  rcases timesL_cases ht with rfl | rfl | rfl <;> rcases hp with rfl | rfl | rfl <;> cases m <;> decide
theorem deed_eq (xs : List D) (h : VH) : deedS xs h = .bad ∨ runF 4 4 (b_deed_form joinS) xs h = deedS xs h := by
  have run : ∀ x y z u, runF 4 4 (b_deed_form joinS) [x, y, z, u] h = endF (b_deed_form joinS [some x, some y, some z, some u] h) := fun x y z u => rfl
  unfold deedS
  split
  · rename_i s t p m
    split
    · rename_i hl
      obtain ⟨l1, l2, hp⟩ := hl
      right
      rw [run]
      unfold b_deed_form
      have n2 : cNin (.str t) c_TIMES h = some (.bl (!decide (t ∈ timesL)), h) := by rw [c_TIMES_eq, cNin_sT]
      by_cases ht : t ∈ timesL
      · rw [if_pos ht]
        have hb := tailD_len (m := m) ht hp
        have j : joinS [.str s, .str (tailD t p m)] h = .ok (.str (deedW s t p m)) h := join_ok l1 l2 (by omega)
        have n3 : cNin (.int p) (.tup [.int 1, .int 2, .int 3]) h = some (.bl false, h) := by
          rcases hp with rfl | rfl | rfl <;> rfl
        have q : FL.e2 oAdd (FL.e1 (oWix c_AHEAD) (eV 1)) (FL.e2 oIx (eC c_PERSONS) (FL.e2 oAdd (FL.e2 oSub (eV 2) (eC (.int 1))) (eIf (tTr (eV 3)) (eC (.int 3)) (eC (.int 0))))) [some (.str s), some (.str t), some (.int p), some (.bl m)] h = .ok (.str (tailD t p m)) h := by
          rcases timesL_cases ht with rfl | rfl | rfl <;> rcases hp with rfl | rfl | rfl <;> cases m <;> rfl
        refine run_nx (δ1 := [some (.str s), some (.str t), some (.int p), some (.bl m)]) (h1 := h) (by simp [n2, ht, n3]) ?_
        simp [-ap_e2, q, j]
      · rw [if_neg ht]
        simp [n2, ht]
    · exact .inl rfl
  · exact .inl rfl
/-- persons -/
def whoW (w c : List Nat) (m : Bool) : List Nat := w ++ (if m = true then [114, [97, 101, 105, 111].getD (whoL.idxOf w) 0] else []) ++ whoEndL.getD (casesL.idxOf c) []
def whoS : List D → VH → Out D
  | [.str w, .str c, .bl m], h => if w ∈ whoL ∧ c ∈ casesL then .ok (.str (whoW w c m)) h else if w.length ≤ 1000 ∧ c.length ≤ 1000 then .err 0 none h else .bad
  | _, _ => .bad
theorem casesL_cases {t : List Nat} (h : t ∈ casesL) : t = [100, 111, 101, 114] ∨ t = [100, 111, 110, 101] ∨ t = [111, 119, 110, 101, 114] ∨ t = [112, 108, 97, 99, 101] := by simpa [casesL] using h
theorem whoL_cases {t : List Nat} (h : t ∈ whoL) : t = [109, 105] ∨ t = [116, 105] ∨ t = [108, 111] ∨ t = [108, 97] := by simpa [whoL] using h
theorem who_eq (xs : List D) (h : VH) : whoS xs h = .bad ∨ runF 3 3 b_who_form xs h = whoS xs h := by
  have run : ∀ x y z, runF 3 3 b_who_form [x, y, z] h = endF (b_who_form [some x, some y, some z] h) := fun x y z => rfl
  unfold whoS
  split
  · rename_i w c m
    have n1 : cNin (.str w) c_WHO h = some (.bl (!decide (w ∈ whoL)), h) := by rw [c_WHO_eq, cNin_sT]
    have n2 : cNin (.str c) c_CASES h = some (.bl (!decide (c ∈ casesL)), h) := by rw [c_CASES_eq, cNin_sT]
    split
    · rename_i hl
      right
      rw [run]
      unfold b_who_form
      refine run_nx (δ1 := [some (.str w), some (.str c), some (.bl m)]) (h1 := h) (by simp [n1, n2, hl.1, hl.2]) ?_
      clear n1 n2 run
      obtain ⟨h1, h2⟩ := hl
      rcases whoL_cases h1 with rfl | rfl | rfl | rfl <;> rcases casesL_cases h2 with rfl | rfl | rfl | rfl <;> cases m <;> rfl
    · split
      · rename_i hn hl
        right
        rw [run]
        unfold b_who_form
        by_cases h1 : w ∈ whoL
        · have h2 : ¬ c ∈ casesL := fun z => hn ⟨h1, z⟩
          simp [n1, n2, h1, h2]
        · simp [n1, n2, h1]
      · exact .inl rfl
  · exact .inl rfl
/-- askers -/
def askW (c : List Nat) : List Nat := [107, 101, 108] ++ askEndL.getD (casesL.idxOf c) []
def askS : List D → VH → Out D
  | [.str c], h => if c ∈ casesL then .ok (.str (askW c)) h else .bad
  | _, _ => .bad
theorem ask_eq (xs : List D) (h : VH) : askS xs h = .bad ∨ runF 1 1 b_asked_form xs h = askS xs h := by
  have run : ∀ x, runF 1 1 b_asked_form [x] h = endF (b_asked_form [some x] h) := fun x => rfl
  unfold askS
  split
  · rename_i c
    split
    · rename_i hc
      right
      rw [run]
      unfold b_asked_form
      have n2 : cNin (.str c) c_CASES h = some (.bl (!decide (c ∈ casesL)), h) := by rw [c_CASES_eq, cNin_sT]
      refine run_nx (δ1 := [some (.str c)]) (h1 := h) (by simp [n2, hc]) ?_
      rcases casesL_cases hc with rfl | rfl | rfl | rfl <;> rfl
    · exact .inl rfl
  · exact .inl rfl
/-- stems -/
def isStem (w : List Nat) : Bool := isWord w && (decide (w.length ≤ 12) && !decide (w ∈ smallL ++ whoL))
def stemS : List D → VH → Out D
  | [.str w], h => if w.length ≤ 16777216 then .ok (.bl (isStem w)) h else .bad
  | _, _ => .bad
theorem stem_eq (xs : List D) (h : VH) : stemS xs h = .bad ∨ runF 1 1 (b_is_stem wordS) xs h = stemS xs h := by
  have run : ∀ x, runF 1 1 (b_is_stem wordS) [x] h = endF (b_is_stem wordS [some x] h) := fun x => rfl
  unfold stemS
  split
  · rename_i w
    split
    · rename_i hl
      right
      rw [run]
      unfold b_is_stem isStem
      have n1 : oAdd c_SMALL c_WHO h = some (.tup ((smallL ++ whoL).map D.str), h) := rfl
      have n2 : cNin (.str w) (.tup ((smallL ++ whoL).map D.str)) h = some (.bl (!decide (w ∈ smallL ++ whoL)), h) := cNin_sT
      have n3 : (w.length : Int) ≤ 12 ↔ w.length ≤ 12 := by omega
      cases hw : isWord w with
      | false => simp [word_str hl, hw]
      | true =>
        by_cases h12 : w.length ≤ 12
        · simp only [ap_sRet, ap_eAnd, ap_eF, ap_aCons, ap_aNil, ap_eV, ap_eC, ap_eB, List.getElem?_cons_zero, vK_some, bind_ok, word_str hl, hw, anK_bl]
          have n3' : (w.length : Int) ≤ 12 := by omega
          simp [-List.map_append, hl, n1, n2, h12, n3']
        · have n3' : ¬ (w.length : Int) ≤ 12 := by omega
          simp [word_str hl, hw, hl, h12, n3']
    · exact .inl rfl
  · exact .inl rfl
end K04
set_option Elab.async false
set_option linter.all false
set_option maxRecDepth 100000
set_option maxHeartbeats 4000000
namespace K04
open PySem FL
/-! ### forms: whole tables -/
def bothL : List Bool := [false, true]
def thRow (s : List Nat) (k : Int) (c : List Nat) (m : Bool) : D := .tup [.str (thingW s k c m), .str c, .bl m]
def thingsL (s : List Nat) (k : Int) : List D := casesL.flatMap fun c => bothL.map (thRow s k c)
def thingsS : List D → VH → Out D
  | [.str s, .int k], h => if 1 ≤ s.length ∧ s.length ≤ 1000 ∧ (k = 0 ∨ k = 1) then .ok (.tup (thingsL s k)) h else .bad
  | _, _ => .bad
theorem filt_true {α : Type} (l : List α) : l.filter (fun _ => true) = l := List.filter_eq_self.mpr fun _ _ => rfl
theorem things_eq (xs : List D) (h : VH) : thingsS xs h = .bad ∨ runF 2 4 (b_forms_of_thing thingS) xs h = thingsS xs h := by
  have run : ∀ x y, runF 2 4 (b_forms_of_thing thingS) [x, y] h = endF (b_forms_of_thing thingS [some x, some y, none, none] h) := fun x y => rfl
  unfold thingsS
  split
  · rename_i s k
    split
    · rename_i hl
      obtain ⟨l1, l2, hk⟩ := hl
      right
      rw [run]
      unfold b_forms_of_thing
      have q := lc2_of (a := eC c_CASES) (g := gN 2) (a1 := eTup (aCons (eC (.bl false)) (aCons (eC (.bl true)) aNil))) (g1 := gN 3) (t1 := tYes) (e := eTup (aCons (eF thingS (aCons (eV 0) (aCons (eV 1) (aCons (eV 2) (aCons (eV 3) aNil))))) (aCons (eV 2) (aCons (eV 3) aNil)))) (own := [2, 3]) (own1 := [3]) (δ := [some (.str s), some (.int k), none, none]) (h := h) (h1 := h)
        D.str casesL (fun _ => bothL) (fun _ => D.bl) (fun _ _ => true) (thRow s k) (d0 := c_CASES) rfl rfl (by decide) fun c hc => ⟨_, _, rfl, rfl, rfl, fun m _ => ⟨_, rfl, rfl, fun _ => by
          have j : thingS [.str s, .int k, .str c, .bl m] h = .ok (.str (thingW s k c m)) h := by
            show (if 1 ≤ s.length ∧ s.length ≤ 1000 then (if (k = 0 ∨ k = 1) ∧ c ∈ casesL then Out.ok (D.str (thingW s k c m)) h else .err 0 none h) else .bad) = _
            rw [if_pos ⟨l1, l2⟩, if_pos ⟨hk, hc⟩]
          simp [FL.wipe, j, thRow]⟩⟩
      simp only [filt_true] at q
      rw [ap_sRet, ap_eB, ap_aCons, q]
      rfl
    · exact .inl rfl
  · exact .inl rfl
def dRow (s t : List Nat) (p : Int) (m : Bool) : D := .tup [.str (deedW s t p m), .str t, .int p, .bl m]
def perL : List Int := [1, 2, 3]
def dRow2 (s t : List Nat) (p : Int) : List D := bothL.map (dRow s t p)
def dRow3 (s t : List Nat) : List D := perL.flatMap (dRow2 s t)
def deedsL (s : List Nat) : List D := timesL.flatMap (dRow3 s)
theorem dRow2_len (s t : List Nat) (p : Int) : (dRow2 s t p).length = 2 := rfl
theorem dRow3_len (s t : List Nat) (k : Nat) : ((perL.take k).flatMap (dRow2 s t)).length ≤ 6 := by
  rw [List.length_flatMap]
  have e : (perL.take k).map (fun a => (dRow2 s t a).length) = (perL.take k).map fun _ => 2 := List.map_congr_left fun _ _ => dRow2_len _ _ _
  rw [e, List.map_const', List.sum_replicate_nat, List.length_take]
  show min k 3 * 2 ≤ 6
  omega
theorem deedsL_len (s : List Nat) (k : Nat) : ((timesL.take k).flatMap (dRow3 s)).length ≤ 18 := by
  rw [List.length_flatMap]
  have e : (timesL.take k).map (fun a => (dRow3 s a).length) = (timesL.take k).map fun _ => 6 := List.map_congr_left fun _ _ => rfl
  rw [e, List.map_const', List.sum_replicate_nat, List.length_take]
  show min k 3 * 6 ≤ 18
  omega
theorem take_succ_flat {α β : Type} {l : List α} {k : Nat} {x : α} (f : α → List β) (hx : l[k]? = some x) : (l.take (k + 1)).flatMap f = (l.take k).flatMap f ++ f x := by
  rw [List.take_add_one, hx, List.flatMap_append]
  simp
theorem perL_cases {p : Int} (h : p ∈ perL) : p = 1 ∨ p = 2 ∨ p = 3 := by simpa [perL] using h
def deedsS : List D → VH → Out D
  | [.str s], h => if 1 ≤ s.length ∧ s.length ≤ 1000 then .ok (.tup (deedsL s)) h else .bad
  | _, _ => .bad
theorem deeds_turn {s t : List Nat} {p : Int} {acc : List D} {h : VH} {x4 : Option D} (l1 : 1 ≤ s.length) (l2 : s.length ≤ 1000) (ht : t ∈ timesL) (hp : p ∈ perL) (ha : acc.length ≤ 100) :
    b_forms_of_deed_1 deedS [some (.str s), some (.ref h.length), some (.str t), some (.int p), x4] (h ++ [.lst acc]) = .nx [some (.str s), some (.ref h.length), some (.str t), some (.int p), x4] (h ++ [.lst (acc ++ dRow2 s t p)]) := by
  unfold b_forms_of_deed_1
  have q := lcF_all (a := eTup (aCons (eC (.bl false)) (aCons (eC (.bl true)) aNil))) (i := 4) (e := eTup (aCons (eF deedS (aCons (eV 0) (aCons (eV 2) (aCons (eV 3) (aCons (eV 4) aNil))))) (aCons (eV 2) (aCons (eV 3) (aCons (eV 4) aNil))))) (own := [4]) (δ := [some (.str s), some (.ref h.length), some (.str t), some (.int p), x4]) (h := h ++ [.lst acc]) (h1 := h ++ [.lst acc]) (l := bothL) D.bl (.inr rfl) (by decide) (dRow s t p) fun m _ => by
    have j : deedS [.str s, .str t, .int p, .bl m] (h ++ [.lst acc]) = .ok (.str (deedW s t p m)) (h ++ [.lst acc]) := by
      show (if 1 ≤ s.length ∧ s.length ≤ 1000 ∧ (p = 1 ∨ p = 2 ∨ p = 3) then (if t ∈ timesL then Out.ok (D.str (deedW s t p m)) (h ++ [.lst acc]) else .err 0 none (h ++ [.lst acc])) else .bad) = _
      rw [if_pos ⟨l1, l2, perL_cases hp⟩, if_pos ht]
    simp [FL.wipe, j, dRow]
  have ex := extend_rf (h := h ++ [.lst acc]) (k := h.length) (xs := acc) (ys := dRow2 s t p) (by simp) (by rw [dRow2_len]; omega)
  rw [set_last] at ex
  have ex' : mExtend (.ref h.length) [.fls (bothL.map (dRow s t p))] (h ++ [.lst acc]) = some (.non, h ++ [.lst (acc ++ dRow2 s t p)]) := ex
  rw [ap_sEx, ap_eM, ap_eV]
  simp [-ap_eLc, q, ex']
theorem deeds_run {s : List Nat} {h : VH} (l1 : 1 ≤ s.length) (l2 : s.length ≤ 1000) : endF (b_forms_of_deed deedS [some (.str s), none, none, none, none] h) = .ok (.tup (deedsL s)) (h ++ [.lst (deedsL s)]) := by
  unfold b_forms_of_deed
  refine run_nx (δ1 := [some (.str s), some (.ref h.length), none, none, none]) (h1 := h ++ [.lst []]) (by simp) ?_
  have q : OkS (fun δ h' => (∃ x2 x3 x4, δ = [some (.str s), some (.ref h.length), x2, x3, x4]) ∧ h' = h ++ [.lst (deedsL s)]) (sFor (eC c_TIMES) (gN 2) (b_forms_of_deed_2 deedS) [some (.str s), some (.ref h.length), none, none, none] (h ++ [.lst []])) := by
    rw [ap_sFor, ap_eC, thenS_ok, c_TIMES_eq, forX_tup]
    have r := forT_ix (g := gN 2) (b := b_forms_of_deed_2 deedS) D.str timesL (fun k δ h' => (∃ x2 x3 x4, δ = [some (.str s), some (.ref h.length), x2, x3, x4]) ∧ h' = h ++ [.lst ((timesL.take k).flatMap (dRow3 s))]) (δ := [some (.str s), some (.ref h.length), none, none, none]) (h := h ++ [.lst []]) ⟨⟨none, none, none, rfl⟩, rfl⟩ fun k t δ h' hk q => by
      obtain ⟨⟨x2, x3, x4, rfl⟩, rfl⟩ := q
      refine ⟨_, _, rfl, .of ?_⟩
      have ht : t ∈ timesL := List.mem_of_getElem? hk
      have la := deedsL_len s k
      rw [take_succ_flat (dRow3 s) hk]
      generalize (timesL.take k).flatMap (dRow3 s) = acc at *
      show OkS _ (b_forms_of_deed_2 deedS [some (.str s), some (.ref h.length), some (.str t), x3, x4] (h ++ [.lst acc]))
      unfold b_forms_of_deed_2
      rw [ap_sFor]
      have e0 : eTup (aCons (eC (.int 1)) (aCons (eC (.int 2)) (aCons (eC (.int 3)) aNil))) [some (.str s), some (.ref h.length), some (.str t), x3, x4] (h ++ [.lst acc]) = .ok (.tup (perL.map D.int)) (h ++ [.lst acc]) := rfl
      rw [e0, thenS_ok, forX_tup]
      have r := forT_ix (g := gN 3) (b := b_forms_of_deed_1 deedS) D.int perL (fun j δ h' => (∃ x3 x4, δ = [some (.str s), some (.ref h.length), some (.str t), x3, x4]) ∧ h' = h ++ [.lst (acc ++ (perL.take j).flatMap (dRow2 s t))]) (δ := [some (.str s), some (.ref h.length), some (.str t), x3, x4]) (h := h ++ [.lst acc]) ⟨⟨x3, x4, rfl⟩, by simp⟩ fun j p δ h' hj q => by
        obtain ⟨⟨x3, x4, rfl⟩, rfl⟩ := q
        have hp : p ∈ perL := List.mem_of_getElem? hj
        have lb := dRow3_len s t j
        refine ⟨_, _, rfl, .nx (deeds_turn (x4 := x4) l1 l2 ht hp (by rw [List.length_append]; omega)) ⟨⟨_, _, rfl⟩, ?_⟩⟩
        rw [take_succ_flat (dRow2 s t) hj, List.append_assoc]
      obtain ⟨δ2, h2, e2, ⟨x3', x4', rfl⟩, rfl⟩ := r.ex
      exact .nx e2 ⟨⟨_, _, _, rfl⟩, rfl⟩
    exact r
  obtain ⟨δ2, h2, e2, ⟨x2, x3, x4, rfl⟩, rfl⟩ := q.ex
  refine run_nx e2 ?_
  simp
theorem bnd_dRow (n : Nat) (s t : List Nat) (p : Int) (m : Bool) : bnd n (dRow s t p m) = true := rfl
theorem bnds_of {n : Nat} : ∀ {l : List D}, (∀ d ∈ l, bnd n d = true) → bnds n l = true
  | [], _ => rfl
  | a :: l, H => by
    unfold bnds
    rw [H a List.mem_cons_self, bnds_of fun d hd => H d (List.mem_cons_of_mem _ hd)]
    rfl
theorem deeds_cl (xs : List D) (h : VH) (w : wf h) : Cl h.length (runF 1 5 (b_forms_of_deed deedS) xs h) (deedsS xs h) := by
  have run : ∀ x, runF 1 5 (b_forms_of_deed deedS) [x] h = endF (b_forms_of_deed deedS [some x, none, none, none, none] h) := fun x => rfl
  unfold deedsS
  split
  · rename_i s
    split
    · rename_i hl
      rw [run, deeds_run hl.1 hl.2]
      refine .v w (bnds_of fun d hd => ?_)
      obtain ⟨t, _, hd⟩ := List.mem_flatMap.mp hd
      obtain ⟨p, _, hd⟩ := List.mem_flatMap.mp hd
      obtain ⟨m, _, rfl⟩ := List.mem_map.mp hd
      exact bnd_dRow _ _ _ _ _
    · exact .bad
  · exact .bad
end K04
set_option Elab.async false
set_option linter.all false
set_option maxRecDepth 100000
set_option maxHeartbeats 4000000
namespace K04
open PySem FL
/-! ### forms: words made of words -/
def preL : List (List Nat) := [[114, 101], [110, 101]]
def postL : List (List Nat) := [[101, 114], [105, 116], [97, 108]]
def waysL : List (List Nat) := [[114, 101], [110, 101], [101, 114], [105, 116], [97, 108]]
def madeW (s w : List Nat) : List Nat := if w ∈ preL then w ++ (if isV (hdN s) = true then [110] else []) ++ s else joinW s w
def madeS : List D → VH → Out D
  | [.str s, .str w], h => if isWord s = true ∧ w.length ≤ 1000 then (if w ∈ waysL then .ok (.str (madeW s w)) h else .err 0 none h) else .bad
  | _, _ => .bad
theorem waysL_iff {w : List Nat} : w ∈ waysL ↔ w ∈ preL ∨ w ∈ postL := by
  simp only [waysL, preL, postL, List.mem_cons, List.not_mem_nil, or_false]
  constructor
  · rintro (h | h | h | h | h) <;> simp [h]
  · rintro ((h | h) | (h | h | h)) <;> simp [h]
theorem waysL_cases {w : List Nat} (h : w ∈ waysL) : w = [114, 101] ∨ w = [110, 101] ∨ w = [101, 114] ∨ w = [105, 116] ∨ w = [97, 108] := by simpa [waysL] using h
theorem made_eq (xs : List D) (h : VH) : madeS xs h = .bad ∨ runF 2 2 (b_made_of wordS joinS) xs h = madeS xs h := by
  have run : ∀ x y, runF 2 2 (b_made_of wordS joinS) [x, y] h = endF (b_made_of wordS joinS [some x, some y] h) := fun x y => rfl
  unfold madeS
  split
  · rename_i s w
    split
    · rename_i hl
      obtain ⟨hw, l2⟩ := hl
      have hs := isWord_len hw
      right
      rw [run]
      unfold b_made_of
      have l1 : s.length ≤ 16777216 := by omega
      have l3 : w.length ≤ 16777216 := by omega
      refine run_nx (δ1 := [some (.str s), some (.str w)]) (h1 := h) (by simp [word_str l1, hw]) ?_
      have n1 : cIn (.str w) (.tup [.str [114, 101], .str [110, 101]]) h = some (.bl (decide (w ∈ preL)), h) := cIn_sT (l := preL)
      have n2 : cNin (.str w) (.tup [.str [101, 114], .str [105, 116], .str [97, 108]]) h = some (.bl (!decide (w ∈ postL)), h) := cNin_sT (l := postL)
      have i1 := ix_hd (w := s) (h := h) hs.1 l1
      have n3 : cIn (.str [hdN s]) c_VOWELS h = some (.bl (isV (hdN s)), h) := by rw [c_VOWELS_eq, cIn_cs]; rfl
      by_cases hp : w ∈ preL
      · have hm : w ∈ waysL := waysL_iff.mpr (.inl hp)
        have hm2 : w.length = 2 := by rcases waysL_cases hm with rfl | rfl | rfl | rfl | rfl <;> rfl
        rw [if_pos hm]
        unfold madeW
        rw [if_pos hp]
        have z1 : s.length ≤ 16777213 := by omega
        have z2 : s.length ≤ 16777214 := by omega
        have z3 : 2 + s.length ≤ 16777216 := by omega
        have z4 : 3 + s.length ≤ 16777216 := by omega
        cases hv : isV (hdN s) <;> simp [hv, n1, hp, i1, n3, hm2, z1, z2, z3, z4] <;> (try omega)
      · refine run_nx (δ1 := [some (.str s), some (.str w)]) (h1 := h) (by simp [n1, hp]) ?_
        by_cases hq : w ∈ postL
        · have hm : w ∈ waysL := waysL_iff.mpr (.inr hq)
          rw [if_pos hm]
          unfold madeW
          rw [if_neg hp]
          have j := join_ok (h := h) (e := w) hs.1 (by omega) l2
          simp [n2, hq, j]
        · have hm : ¬ w ∈ waysL := fun z => (waysL_iff.mp z).elim hp hq
          rw [if_neg hm]
          simp [n2, hq]
    · exact .inl rfl
  · exact .inl rfl
theorem made_ok {s w : List Nat} {h : VH} (hs : isWord s = true) (hw : w ∈ waysL) : madeS [.str s, .str w] h = .ok (.str (madeW s w)) h := by
  have hm2 : w.length ≤ 1000 := by rcases waysL_cases hw with rfl | rfl | rfl | rfl | rfl <;> decide
  show (if isWord s = true ∧ w.length ≤ 1000 then (if w ∈ waysL then Out.ok (D.str (madeW s w)) h else .err 0 none h) else .bad) = _
  rw [if_pos ⟨hs, hm2⟩, if_pos hw]
theorem madeW_len {s w : List Nat} (hs : 1 ≤ s.length) (hw : w ∈ waysL) : s.length + 2 ≤ (madeW s w).length ∧ (madeW s w).length ≤ s.length + 3 := by
  have hm2 : w.length = 2 := by rcases waysL_cases hw with rfl | rfl | rfl | rfl | rfl <;> rfl
  unfold madeW
  split
  · split <;> simp only [List.length_append, hm2, List.length_singleton, List.length_nil] <;> omega
  · have := joinW_len (e := w) hs
    omega
theorem joinW_all {s e : List Nat} (hs : s.all isLt = true) (he : e.all isLt = true) : (joinW s e).all isLt = true := by
  have ht : (s.take (s.length - 1)).all isLt = true := by
    rw [List.all_eq_true] at hs ⊢
    exact fun x hx => hs x (List.mem_of_mem_take hx)
  unfold joinW
  split
  · exact hs
  · split
    · rw [List.all_append, List.all_append, hs, he]; rfl
    · split
      · rw [List.all_append, List.all_append, ht, he]; rfl
      · split
        · rw [List.all_append, List.all_append, ht, he]; rfl
        · rw [List.all_append, hs, he]; rfl
theorem joinW_any {s e : List Nat} (he : e.any isV = true) : (joinW s e).any isV = true := by
  have h0 : e ≠ [] := fun z => by subst z; cases he
  unfold joinW
  rw [if_neg h0]
  split
  · rw [List.any_append, he, Bool.or_true]
  · split
    · rw [List.any_append, he, Bool.or_true]
    · split
      · rw [List.any_append, he, Bool.or_true]
      · rw [List.any_append, he, Bool.or_true]
theorem madeW_word {s w : List Nat} (hs : isWord s = true) (hw : w ∈ waysL) (hl : (madeW s w).length ≤ 30) : isWord (madeW s w) = true := by
  have hn := isWord_len hs
  have hm := madeW_len hn.1 hw
  have wl : w.all isLt = true ∧ w.any isV = true := by rcases waysL_cases hw with rfl | rfl | rfl | rfl | rfl <;> decide
  have hs' := hs
  unfold isWord at hs'
  rw [Bool.and_eq_true, Bool.and_eq_true] at hs'
  have key : (madeW s w).all isLt = true ∧ (madeW s w).any isV = true := by
    unfold madeW
    split
    · refine ⟨?_, ?_⟩
      · rw [List.all_append, List.all_append, wl.1, hs'.2.1]
        cases isV (hdN s) <;> rfl
      · rw [List.any_append, hs'.2.2, Bool.or_true]
    · exact ⟨joinW_all hs'.2.1 wl.1, joinW_any wl.2⟩
  unfold isWord
  rw [Bool.and_eq_true, Bool.and_eq_true]
  exact ⟨decide_eq_true ⟨by omega, hl⟩, key⟩
def grownW (s : List Nat) (ws : List (List Nat)) : List Nat := ws.foldl madeW s
def growOk : List Nat → List (List Nat) → Bool
  | _, [] => true
  | s, w :: r => isWord s && (decide (w ∈ waysL) && growOk (madeW s w) r)
theorem grownW_snoc (s : List Nat) (ws : List (List Nat)) (w : List Nat) : grownW s (ws ++ [w]) = madeW (grownW s ws) w := by
  unfold grownW
  rw [List.foldl_append]
  rfl
theorem growOk_snoc : ∀ {s : List Nat} {ws : List (List Nat)} {w : List Nat}, growOk s (ws ++ [w]) = (growOk s ws && (isWord (grownW s ws) && decide (w ∈ waysL)))
  | s, [], w => by simp [growOk, grownW]
  | s, v :: r, w => by
    have ih := growOk_snoc (s := madeW s v) (ws := r) (w := w)
    show (isWord s && (decide (v ∈ waysL) && growOk (madeW s v) (r ++ [w]))) = ((isWord s && (decide (v ∈ waysL) && growOk (madeW s v) r)) && (isWord (grownW (madeW s v) r) && decide (w ∈ waysL)))
    rw [ih]
    simp only [Bool.and_assoc]
theorem allT_some : ∀ {xs : List D} {l : List (List Nat)}, allT xs = some l → xs = l.map D.str
  | [], l, e => by cases e; rfl
  | x :: xs, l, e => by
    cases x with
    | str a =>
      simp only [allT] at e
      cases ea : allT xs with
      | none => rw [ea] at e; cases e
      | some l' =>
        rw [ea] at e
        cases e
        rw [List.map_cons, allT_some ea]
    | _ => cases e
def strsOf : D → Option (List (List Nat))
  | .fls xs => allT xs
  | .tup xs => allT xs
  | _ => none
def grownS : List D → VH → Out D
  | [.str s, x], h => match strsOf x with
    | some ws => if growOk s ws = true then .ok (.str (grownW s ws)) h else .bad
    | none => .bad
  | _, _ => .bad
theorem grown_loop {s0 : List Nat} {ws : List (List Nat)} {h : VH} {x : D} {x2 : Option D} (hg : growOk s0 ws = true) : OkS (fun δ h' => (∃ x2, δ = [some (.str (grownW s0 ws)), some x, x2]) ∧ h' = h) (forT (gN 2) (b_grown_1 madeS) (ws.map D.str) [some (.str s0), some x, x2] h) := by
  induction ws generalizing s0 x2 with
  | nil => exact .mk ⟨⟨_, rfl⟩, rfl⟩
  | cons w ws ih =>
    have hg' : (isWord s0 && (decide (w ∈ waysL) && growOk (madeW s0 w) ws)) = true := hg
    simp only [Bool.and_eq_true, decide_eq_true_eq] at hg'
    have m := made_ok (h := h) hg'.1 hg'.2.1
    have e : b_grown_1 madeS [some (.str s0), some x, some (.str w)] h = .nx [some (.str (madeW s0 w)), some x, some (.str w)] h := by
      unfold b_grown_1
      simp [m]
    rw [List.map_cons, forT_cons]
    show OkS _ (loopS (b_grown_1 madeS [some (.str s0), some x, some (.str w)] h) _)
    rw [e]
    exact ih hg'.2.2
theorem grown_eq (xs : List D) (h : VH) : grownS xs h = .bad ∨ runF 2 3 (b_grown madeS) xs h = grownS xs h := by
  have run : ∀ x y, runF 2 3 (b_grown madeS) [x, y] h = endF (b_grown madeS [some x, some y, none] h) := fun x y => rfl
  unfold grownS
  split
  · rename_i s x
    split
    · rename_i ws hx
      split
      · rename_i hg
        right
        rw [run]
        unfold b_grown
        have q : sFor (eV 1) (gN 2) (b_grown_1 madeS) [some (.str s), some x, none] h = forT (gN 2) (b_grown_1 madeS) (ws.map D.str) [some (.str s), some x, none] h := by
          cases x with
          | fls xs => rw [← allT_some (show allT xs = some ws from hx)]; simp
          | tup xs => rw [← allT_some (show allT xs = some ws from hx)]; simp
          | _ => cases hx
        have r := grown_loop (x := x) (x2 := none) (h := h) hg
        rw [← q] at r
        obtain ⟨δ2, h2, e2, ⟨x2, rfl⟩, rfl⟩ := r.ex
        refine run_nx e2 ?_
        simp
      · exact .inl rfl
    · exact .inl rfl
  · exact .inl rfl
theorem grown_f {s : List Nat} {ws : List (List Nat)} {h : VH} (hg : growOk s ws = true) : grownS [.str s, .fls (ws.map D.str)] h = .ok (.str (grownW s ws)) h := by
  show (match allT (ws.map D.str) with
    | some ws => if growOk s ws = true then Out.ok (D.str (grownW s ws)) h else .bad
    | none => .bad) = _
  rw [allT_strs]
  exact if_pos hg
theorem grown_t {s : List Nat} {ws : List (List Nat)} {h : VH} (hg : growOk s ws = true) : grownS [.str s, .tup (ws.map D.str)] h = .ok (.str (grownW s ws)) h := by
  show (match allT (ws.map D.str) with
    | some ws => if growOk s ws = true then Out.ok (D.str (grownW s ws)) h else .bad
    | none => .bad) = _
  rw [allT_strs]
  exact if_pos hg
theorem grownW_len : ∀ {ws : List (List Nat)} {s : List Nat}, 1 ≤ s.length → (∀ w ∈ ws, w ∈ waysL) → s.length ≤ (grownW s ws).length ∧ (grownW s ws).length ≤ s.length + 3 * ws.length
  | [], s, _, _ => ⟨Nat.le_refl _, Nat.le_refl _⟩
  | w :: ws, s, h1, H => by
    have m := madeW_len h1 (H w List.mem_cons_self)
    have ih := grownW_len (ws := ws) (s := madeW s w) (by omega) fun v hv => H v (List.mem_cons_of_mem _ hv)
    show s.length ≤ (grownW (madeW s w) ws).length ∧ (grownW (madeW s w) ws).length ≤ s.length + 3 * (ws.length + 1)
    omega
/-- short enough words grow well -/
theorem grow_ok : ∀ {ws : List (List Nat)} {s : List Nat}, isWord s = true → (∀ w ∈ ws, w ∈ waysL) → s.length + 3 * ws.length ≤ 30 → growOk s ws = true ∧ isWord (grownW s ws) = true
  | [], s, h1, _, _ => ⟨rfl, h1⟩
  | w :: ws, s, h1, H, hl => by
    have hw := H w List.mem_cons_self
    have m := madeW_len (isWord_len h1).1 hw
    rw [List.length_cons] at hl
    have ih := grow_ok (ws := ws) (s := madeW s w) (madeW_word h1 hw (by omega)) (fun v hv => H v (List.mem_cons_of_mem _ hv)) (by omega)
    refine ⟨?_, ih.2⟩
    show (isWord s && (decide (w ∈ waysL) && growOk (madeW s w) ws)) = true
    rw [h1, decide_eq_true hw, ih.1]
    rfl
end K04
set_option Elab.async false
set_option linter.all false
set_option maxRecDepth 100000
set_option maxHeartbeats 4000000
namespace K04
open PySem FL
/-! ### forms: words taken apart -/
abbrev Rw := List Nat × List (List Nat)
def rwD (r : Rw) : D := .tup [.str r.1, .tup (r.2.map D.str)]
def gw (r : Rw) : List Nat := grownW r.1 r.2
def nextR (rows : List Rw) : List Rw := rows.flatMap fun r => waysL.map fun w => (r.1, r.2 ++ [w])
def keepR (n : Nat) (rows : List Rw) : List Rw := rows.filter fun r => decide ((gw r).length ≤ n)
def hitR (word : List Nat) (rows : List Rw) : List Rw := rows.filter fun r => decide (gw r = word)
def rowsK (stems : List (List Nat)) (n : Nat) : Nat → List Rw
  | 0 => stems.map fun s => (s, [])
  | k + 1 => keepR n (nextR (rowsK stems n k))
def foundK (stems : List (List Nat)) (word : List Nat) : Nat → List Rw
  | 0 => []
  | k + 1 => foundK stems word k ++ hitR word (rowsK stems word.length k)
def rwP (r : Rw) : PyData := .tuple [sP r.1, .tuple (r.2.map sP)]
def takenL (stems : List (List Nat)) (word : List Nat) : List Rw := (foundK stems word 4).mergeSort fun a b => PySem.W.dataLe false rwP a b
def goodR (r : Rw) : Prop := growOk r.1 r.2 = true ∧ isWord (gw r) = true
theorem next_good {rows : List Rw} {n : Nat} (hn : n ≤ 30) (H : ∀ r ∈ rows, goodR r) : (∀ r ∈ nextR rows, growOk r.1 r.2 = true ∧ (gw r).length ≤ 33) ∧ ∀ r ∈ keepR n (nextR rows), goodR r := by
  have key : ∀ r ∈ nextR rows, growOk r.1 r.2 = true ∧ (gw r).length ≤ 33 ∧ ((gw r).length ≤ 30 → isWord (gw r) = true) := by
    intro r hr
    obtain ⟨q, hq, hr⟩ := List.mem_flatMap.mp hr
    obtain ⟨w, hw, rfl⟩ := List.mem_map.mp hr
    obtain ⟨g1, g2⟩ := H q hq
    have e : gw (q.1, q.2 ++ [w]) = madeW (gw q) w := grownW_snoc _ _ _
    have m := madeW_len (isWord_len g2).1 hw
    have l30 := (isWord_len g2).2
    refine ⟨?_, by rw [e]; omega, fun hl => ?_⟩
    · show growOk q.1 (q.2 ++ [w]) = true
      rw [growOk_snoc, g1, show isWord (grownW q.1 q.2) = true from g2, decide_eq_true hw]
      rfl
    · rw [e] at hl ⊢
      exact madeW_word g2 hw hl
  refine ⟨fun r hr => ⟨(key r hr).1, (key r hr).2.1⟩, fun r hr => ?_⟩
  obtain ⟨h1, h2⟩ := List.mem_filter.mp hr
  have h2 := of_decide_eq_true h2
  exact ⟨(key r h1).1, (key r h1).2.2 (by omega)⟩
theorem rows_good {stems : List (List Nat)} {n : Nat} (hn : n ≤ 30) (hs : ∀ s ∈ stems, isWord s = true) : ∀ k, ∀ r ∈ rowsK stems n k, goodR r
  | 0, r, hr => by
    obtain ⟨s, h1, rfl⟩ := List.mem_map.mp hr
    exact ⟨rfl, hs s h1⟩
  | k + 1, r, hr => (next_good hn (rows_good hn hs k)).2 r hr
theorem nextR_len (rows : List Rw) : (nextR rows).length = rows.length * 5 := by
  unfold nextR
  rw [List.length_flatMap, List.map_congr_left (g := fun _ => 5) fun _ _ => by rw [List.length_map]; rfl, List.map_const', List.sum_replicate_nat]
theorem rows_len (stems : List (List Nat)) (n : Nat) : ∀ k, (rowsK stems n k).length ≤ stems.length * 5 ^ k
  | 0 => by simp [rowsK]
  | k + 1 => by
    have ih := rows_len stems n k
    have h1 : (rowsK stems n (k + 1)).length ≤ (nextR (rowsK stems n k)).length := List.length_filter_le _ _
    rw [nextR_len] at h1
    rw [Nat.pow_succ, ← Nat.mul_assoc]
    exact Nat.le_trans h1 (Nat.mul_le_mul_right 5 ih)
theorem hit_len (word : List Nat) (rows : List Rw) : (hitR word rows).length ≤ rows.length := List.length_filter_le _ _
theorem found_len (stems : List (List Nat)) (word : List Nat) : ∀ k, k ≤ 4 → (foundK stems word k).length ≤ stems.length * 625 * k
  | 0, _ => by simp [foundK]
  | k + 1, hk => by
    have ih := found_len stems word k (by omega)
    have h1 := rows_len stems word.length k
    have h2 := hit_len word (rowsK stems word.length k)
    have h3 : 5 ^ k ≤ 625 := Nat.pow_le_pow_right (n := 5) (by decide) (show k ≤ 4 by omega)
    have h4 : stems.length * 5 ^ k ≤ stems.length * 625 := Nat.mul_le_mul_left _ h3
    show (foundK stems word k ++ hitR word (rowsK stems word.length k)).length ≤ _
    rw [List.length_append, Nat.mul_succ]
    omega
theorem tak_hit {rows : List Rw} {word : List Nat} {δ : DS} {h : VH} (H : ∀ r ∈ rows, growOk r.1 r.2 = true) (hz : rows.length ≤ 16777216) (h3 : δ[3]? = some (some (.fls (rows.map rwD)))) (h1 : δ[1]? = some (some (.str word))) (hl : δ.length = 8) :
    eLc (eV 3) (gT 2 (gCons (gN 2) (gCons (gN 7) gNil))) (tV (FL.e2 cEq (eF grownS (aCons (eV 2) (aCons (eV 7) aNil))) (eV 1))) (eTup (aCons (eV 2) (aCons (eV 7) aNil))) [2, 7] δ h = .ok (.fls ((hitR word rows).map rwD)) h := by
  obtain ⟨x0, x1, x2, x3, x4, x5, x6, x7, rfl⟩ : ∃ x0 x1 x2 x3 x4 x5 x6 x7, δ = [x0, x1, x2, x3, x4, x5, x6, x7] := by
    match δ, hl with
    | [a, b, c, d, e, f, g, i], _ => exact ⟨a, b, c, d, e, f, g, i, rfl⟩
  cases h3
  cases h1
  have q := lcT_mapE (g := gT 2 (gCons (gN 2) (gCons (gN 7) gNil))) (t := tV (FL.e2 cEq (eF grownS (aCons (eV 2) (aCons (eV 7) aNil))) (eV 1))) (e := eTup (aCons (eV 2) (aCons (eV 7) aNil))) (own := [2, 7]) (δ := [x0, some (.str word), x2, some (.fls (rows.map rwD)), x4, x5, x6, x7]) (h := h) rwD (fun r => decide (gw r = word)) rwD rows [] (by simpa using hz) fun r hr => by
    have g := grown_t (h := h) (H r hr)
    exact ⟨_, rfl, by simp [FL.wipe, g, gw]; rfl, fun _ => by simp [FL.wipe, rwD]⟩
  rw [ap_eLc, ap_eV]
  show (Out.ok (D.fls (rows.map rwD)) h).bind _ = _
  rw [bind_ok, lcX_fls, q]
  simp [hitR]
theorem tak_keep {rows : List Rw} {word : List Nat} {δ : DS} {h : VH} (H : ∀ r ∈ rows, growOk r.1 r.2 = true ∧ (gw r).length ≤ 33) (hw : word.length ≤ 30) (hz : rows.length ≤ 16777216) (h3 : δ[3]? = some (some (.fls (rows.map rwD)))) (h1 : δ[1]? = some (some (.str word))) (hl : δ.length = 8) :
    eLc (eV 3) (gT 2 (gCons (gN 2) (gCons (gN 7) gNil))) (tV (FL.e2 cLe (eB bLen (aCons (eF grownS (aCons (eV 2) (aCons (eV 7) aNil))) aNil)) (eB bLen (aCons (eV 1) aNil)))) (eTup (aCons (eV 2) (aCons (eV 7) aNil))) [2, 7] δ h = .ok (.fls ((keepR word.length rows).map rwD)) h := by
  obtain ⟨x0, x1, x2, x3, x4, x5, x6, x7, rfl⟩ : ∃ x0 x1 x2 x3 x4 x5 x6 x7, δ = [x0, x1, x2, x3, x4, x5, x6, x7] := by
    match δ, hl with
    | [a, b, c, d, e, f, g, i], _ => exact ⟨a, b, c, d, e, f, g, i, rfl⟩
  cases h3
  cases h1
  have q := lcT_mapE (g := gT 2 (gCons (gN 2) (gCons (gN 7) gNil))) (t := tV (FL.e2 cLe (eB bLen (aCons (eF grownS (aCons (eV 2) (aCons (eV 7) aNil))) aNil)) (eB bLen (aCons (eV 1) aNil)))) (e := eTup (aCons (eV 2) (aCons (eV 7) aNil))) (own := [2, 7]) (δ := [x0, some (.str word), x2, some (.fls (rows.map rwD)), x4, x5, x6, x7]) (h := h) rwD (fun r => decide ((gw r).length ≤ word.length)) rwD rows [] (by simpa using hz) fun r hr => by
    have g := grown_t (h := h) (H r hr).1
    have l1 : (gw r).length ≤ 16777216 := by have := (H r hr).2; omega
    have l1' : (grownW r.1 r.2).length ≤ 16777216 := l1
    have l2 : word.length ≤ 16777216 := by omega
    exact ⟨_, rfl, by simp [FL.wipe, g, gw, l1', l2]; rfl, fun _ => by simp [FL.wipe, rwD]⟩
  rw [ap_eLc, ap_eV]
  show (Out.ok (D.fls (rows.map rwD)) h).bind _ = _
  rw [bind_ok, lcX_fls, q]
  simp [keepR]
theorem tak_next {rows : List Rw} {δ : DS} {h : VH} (hw : ∀ r ∈ rows, r.2.length ≤ 1000) (hz : rows.length * 5 ≤ 16777216) (h3 : δ[3]? = some (some (.fls (rows.map rwD)))) (hl : δ.length = 8) :
    eLc2 (eV 3) (gT 2 (gCons (gN 2) (gCons (gN 7) gNil))) tYes (eTup (aCons (eC (.str [114, 101])) (aCons (eC (.str [110, 101])) (aCons (eC (.str [101, 114])) (aCons (eC (.str [105, 116])) (aCons (eC (.str [97, 108])) aNil)))))) (gN 6) tYes (eTup (aCons (eV 2) (aCons (FL.e2 oAdd (eV 7) (eTup (aCons (eV 6) aNil))) aNil))) [2, 7, 6] [6] δ h = .ok (.fls ((nextR rows).map rwD)) h := by
  obtain ⟨x0, x1, x2, x3, x4, x5, x6, x7, rfl⟩ : ∃ x0 x1 x2 x3 x4 x5 x6 x7, δ = [x0, x1, x2, x3, x4, x5, x6, x7] := by
    match δ, hl with
    | [a, b, c, d, e, f, g, i], _ => exact ⟨a, b, c, d, e, f, g, i, rfl⟩
  cases h3
  have hz2 : (rows.flatMap fun _ => waysL).length ≤ 16777216 := by
    rw [List.length_flatMap, show (rows.map fun _ => waysL.length) = rows.map fun _ => 5 from rfl, List.map_const', List.sum_replicate_nat]
    exact hz
  have q := lc2_of (a := eV 3) (g := gT 2 (gCons (gN 2) (gCons (gN 7) gNil))) (a1 := eTup (aCons (eC (.str [114, 101])) (aCons (eC (.str [110, 101])) (aCons (eC (.str [101, 114])) (aCons (eC (.str [105, 116])) (aCons (eC (.str [97, 108])) aNil)))))) (g1 := gN 6) (t1 := tYes) (e := eTup (aCons (eV 2) (aCons (FL.e2 oAdd (eV 7) (eTup (aCons (eV 6) aNil))) aNil))) (own := [2, 7, 6]) (own1 := [6]) (δ := [x0, x1, x2, some (.fls (rows.map rwD)), x4, x5, x6, x7]) (h := h) (h1 := h)
    rwD rows (fun _ => waysL) (fun _ => D.str) (fun _ _ => true) (fun r w => rwD (r.1, r.2 ++ [w])) (d0 := .fls (rows.map rwD)) rfl rfl hz2 fun r hr => ⟨_, _, rfl, rfl, rfl, fun w _ => ⟨_, rfl, rfl, fun _ => ?_⟩⟩
  · simp only [filt_true] at q
    rw [q]
    unfold nextR
    rw [List.map_flatMap]
    simp only [List.map_map]
    rfl
  · have hw2 : r.2.length ≤ 16777215 := by have := hw r hr; omega
    simp [FL.wipe, rwD, hw2]
theorem rows_ways (stems : List (List Nat)) (n : Nat) : ∀ k, ∀ r ∈ rowsK stems n k, r.1 ∈ stems ∧ r.2.length = k ∧ ∀ w ∈ r.2, w ∈ waysL
  | 0, r, hr => by
    obtain ⟨s, h1, rfl⟩ := List.mem_map.mp hr
    exact ⟨h1, rfl, fun w hw => nomatch hw⟩
  | k + 1, r, hr => by
    obtain ⟨h1, _⟩ := List.mem_filter.mp hr
    obtain ⟨q, hq, h1⟩ := List.mem_flatMap.mp h1
    obtain ⟨w, hw, rfl⟩ := List.mem_map.mp h1
    obtain ⟨i1, i2, i3⟩ := rows_ways stems n k q hq
    refine ⟨i1, by simp [i2], fun v hv => ?_⟩
    rcases List.mem_append.mp hv with hv | hv
    · exact i3 v hv
    · rw [List.mem_singleton.mp hv]; exact hw
theorem tak_turn {stems : List (List Nat)} {word : List Nat} {x0 x2 x5 x6 x7 : Option D} {h : VH} {k : Nat} (hs : ∀ s ∈ stems, isWord s = true) (hl : stems.length ≤ 1000) (hw : isWord word = true) (hk : k < 4) :
    b_taken_apart_1 wordS stemS grownS [x0, some (.str word), x2, some (.fls ((rowsK stems word.length k).map rwD)), some (.ref h.length), x5, x6, x7] (h ++ [.lst ((foundK stems word k).map rwD)]) = .nx [x0, some (.str word), x2, some (.fls ((rowsK stems word.length (k + 1)).map rwD)), some (.ref h.length), x5, x6, x7] (h ++ [.lst ((foundK stems word (k + 1)).map rwD)]) := by
  have hw30 := (isWord_len hw).2
  have G := rows_good (n := word.length) hw30 hs k
  have N := (next_good hw30 G).1
  have L := rows_len stems word.length k
  have p5 : 5 ^ k ≤ 125 := Nat.pow_le_pow_right (n := 5) (by decide) (show k ≤ 3 by omega)
  have L2 : stems.length * 5 ^ k ≤ stems.length * 125 := Nat.mul_le_mul_left _ p5
  have W := rows_ways stems word.length k
  have F := found_len stems word k (by omega)
  have F2 : stems.length * 625 * k ≤ stems.length * 625 * 4 := Nat.mul_le_mul_left _ (by omega)
  have HL := hit_len word (rowsK stems word.length k)
  have NL := nextR_len (rowsK stems word.length k)
  show _ = OutS.nx [x0, some (.str word), x2, some (.fls ((keepR word.length (nextR (rowsK stems word.length k))).map rwD)), some (.ref h.length), x5, x6, x7] (h ++ [.lst ((foundK stems word k ++ hitR word (rowsK stems word.length k)).map rwD)])
  generalize rowsK stems word.length k = rows at *
  generalize foundK stems word k = found at *
  unfold b_taken_apart_1
  have ex := extend_rf (h := h ++ [.lst (found.map rwD)]) (k := h.length) (xs := found.map rwD) (ys := (hitR word rows).map rwD) (by simp) (by rw [List.length_map, List.length_map]; omega)
  rw [set_last, ← List.map_append] at ex
  have q1 := tak_hit (rows := rows) (word := word) (δ := [x0, some (.str word), x2, some (.fls (rows.map rwD)), some (.ref h.length), x5, x6, x7]) (h := h ++ [.lst (found.map rwD)]) (fun r hr => (G r hr).1) (by omega) rfl rfl rfl
  have hget : (h ++ [O.lst (found.map rwD)])[h.length]? = some (.lst (found.map rwD)) := by simp
  refine (seq_nx (δ1 := [x0, some (.str word), x2, some (.fls (rows.map rwD)), some (.ref h.length), x5, x6, x7]) (h1 := h ++ [.lst ((found ++ hitR word rows).map rwD)]) ?_).trans ?_
  · rw [ap_sEx, ap_eM, ap_eV]
    simp [-ap_eLc, -List.map_append, q1, ex]
  have q2 := tak_next (rows := rows) (δ := [x0, some (.str word), x2, some (.fls (rows.map rwD)), some (.ref h.length), x5, x6, x7]) (h := h ++ [.lst ((found ++ hitR word rows).map rwD)]) (fun r hr => by have := (W r hr).2.1; omega) (by omega) rfl rfl
  refine (seq_nx (δ1 := [x0, some (.str word), x2, some (.fls ((nextR rows).map rwD)), some (.ref h.length), x5, x6, x7]) (h1 := h ++ [.lst ((found ++ hitR word rows).map rwD)]) (by rw [ap_sAs, q2]; rfl)).trans ?_
  have q3 := tak_keep (rows := nextR rows) (word := word) (δ := [x0, some (.str word), x2, some (.fls ((nextR rows).map rwD)), some (.ref h.length), x5, x6, x7]) (h := h ++ [.lst ((found ++ hitR word rows).map rwD)]) N hw30 (by omega) rfl rfl rfl
  rw [ap_sAs, q3]
  rfl
theorem rwP_of (r : Rw) (h : VH) : toP deep h (rwD r) = some (rwP r) := by
  have e : allS ((r.2.map D.str).map (toP 10 h)) = some (r.2.map sP) := by
    rw [List.map_map]
    exact allS_of (f := toP 10 h ∘ D.str) (k := sP) fun a _ => rfl
  show (match allS (List.map (toP 11 h) [D.str r.1, D.tup (r.2.map D.str)]) with
    | some l => some (PyData.tuple l)
    | none => none) = _
  have e2 : toP 11 h (.tup (r.2.map D.str)) = some (.tuple (r.2.map sP)) := by
    show (match allS ((r.2.map D.str).map (toP 10 h)) with
      | some l => some (PyData.tuple l)
      | none => none) = _
    rw [e]
  rw [List.map_cons, List.map_cons, e2]
  rfl
theorem alikeAll_strs : ∀ l l' : List (List Nat), PySem.W.alikeAll (l.map sP) (l'.map sP) = true
  | [], _ => by simp [PySem.W.alikeAll]
  | _ :: _, [] => by simp [PySem.W.alikeAll]
  | a :: l, b :: l' => by
    rw [List.map_cons, List.map_cons]
    unfold PySem.W.alikeAll
    rw [alikeAll_strs l l']
    rfl
theorem rwP_alike (a b : Rw) : PySem.W.alike (rwP a) (rwP b) = true := by
  have h := alikeAll_strs a.2 b.2
  simp only [rwP, PySem.W.alike, PySem.W.alikeAll, h, Bool.and_true]
  rfl
theorem rwP_sortable (l : List Rw) : sortable (l.map rwP) = true := by
  unfold sortable
  rw [Bool.or_eq_true]
  left
  rw [List.all_map, List.all_eq_true]
  exact fun _ _ => rfl
def takenS : List D → VH → Out D
  | [.fls xs, .str word], h => match allT xs with
    | some stems => if stems.length ≤ 1000 ∧ (stems.all isStem = true ∧ isWord word = true) then .ok (.tup ((takenL stems word).map rwD)) h else .bad
    | none => .bad
  | _, _ => .bad
theorem taken_run {stems : List (List Nat)} {word : List Nat} {h : VH} (hl : stems.length ≤ 1000) (hs : stems.all isStem = true) (hw : isWord word = true) :
    endF (b_taken_apart wordS stemS grownS [some (.fls (stems.map D.str)), some (.str word), none, none, none, none, none, none] h) = .ok (.tup ((takenL stems word).map rwD)) (h ++ [.lst ((foundK stems word 4).map rwD)]) := by
  have hw30 := isWord_len hw
  have hs' : ∀ s ∈ stems, isWord s = true := fun s h1 => by
    have := List.all_eq_true.mp hs s h1
    unfold isStem at this
    rw [Bool.and_eq_true] at this
    exact this.1
  unfold b_taken_apart
  have q1 : stT false (gN 2) tYes (eF stemS (aCons (eV 2) aNil)) [2] [some (.fls (stems.map D.str)), some (.str word), none, none, none, none, none, none] (stems.map D.str) h = .ok (stems.all isStem) h :=
    stT_all D.str isStem stems fun s h1 => ⟨_, rfl, rfl, by
      have l := (isWord_len (hs' s h1)).2
      have l2 : s.length ≤ 16777216 := by omega
      simp [FL.wipe, stemS, l2]⟩
  have lw : word.length ≤ 16777216 := by omega
  refine run_nx (δ1 := [some (.fls (stems.map D.str)), some (.str word), none, none, none, none, none, none]) (h1 := h) (by
    simp only [ap_sIf, ap_tOr, ap_tNot, ap_tV, ap_eF, ap_aCons, ap_aNil, ap_eV, List.getElem?_cons_zero, List.getElem?_cons_succ, vK_some, bind_ok, word_str lw, hw, bK_bl, ap_eStG, stX_fls, q1, hs, stEnd_ok]
    simp) ?_
  have q2 := lcF_all (a := eV 0) (i := 2) (e := eTup (aCons (eV 2) (aCons (eTup aNil) aNil))) (own := [2]) (δ := [some (.fls (stems.map D.str)), some (.str word), none, none, none, none, none, none]) (h := h) (h1 := h) (l := stems) D.str (.inl rfl) (by omega) (fun s => rwD (s, [])) fun s _ => by simp [FL.wipe, rwD]
  have q2' : (stems.map fun s => rwD (s, [])) = (rowsK stems word.length 0).map rwD := by
    show _ = (stems.map fun s => (s, [])).map rwD
    rw [List.map_map]
    rfl
  rw [q2'] at q2
  refine run_nx (δ1 := [some (.fls (stems.map D.str)), some (.str word), none, some (.fls ((rowsK stems word.length 0).map rwD)), some (.ref h.length), none, none, none]) (h1 := h ++ [.lst ((foundK stems word 0).map rwD)]) (by
    simp only [ap_sPar, ap_aCons, ap_aNil, q2, bind_ok]
    simp [foundK]) ?_
  have q : OkS (fun δ h' => (∃ x5, δ = [some (.fls (stems.map D.str)), some (.str word), none, some (.fls ((rowsK stems word.length 4).map rwD)), some (.ref h.length), x5, none, none]) ∧ h' = h ++ [.lst ((foundK stems word 4).map rwD)]) (sForR (aCons (eC (.int 4)) aNil) (gN 5) (b_taken_apart_1 wordS stemS grownS) [some (.fls (stems.map D.str)), some (.str word), none, some (.fls ((rowsK stems word.length 0).map rwD)), some (.ref h.length), none, none, none] (h ++ [.lst ((foundK stems word 0).map rwD)])) := by
    rw [forR_1 (n := 4) (h1 := h ++ [.lst ((foundK stems word 0).map rwD)]) (by simp) (by omega)]
    refine forT_rng (fun (i : Nat) => D.int i) 4 (fun k δ h' => (∃ x5, δ = [some (.fls (stems.map D.str)), some (.str word), none, some (.fls ((rowsK stems word.length k).map rwD)), some (.ref h.length), x5, none, none]) ∧ h' = h ++ [.lst ((foundK stems word k).map rwD)]) ⟨⟨none, rfl⟩, rfl⟩ fun k δ h' hk q => ?_
    obtain ⟨⟨x5, rfl⟩, rfl⟩ := q
    exact ⟨_, _, rfl, .nx (tak_turn hs' hl hw hk) ⟨⟨_, rfl⟩, rfl⟩⟩
  obtain ⟨δ2, h2, e2, ⟨x5, rfl⟩, rfl⟩ := q.ex
  refine run_nx e2 ?_
  have b := bSort2_of (x := .ref h.length) (h := h ++ [.lst ((foundK stems word 4).map rwD)]) (l := foundK stems word 4) rwD rwP (by simp [itemsOfX, itemsOf]) (fun a _ => rwP_of a _) (fun a _ b _ => rwP_alike a b) (rwP_sortable _)
  rw [ap_sRet, ap_eB, ap_aCons, ap_eB, ap_aCons, ap_eV]
  simp [b, takenL]
theorem rwD_bnd (n : Nat) (r : Rw) : bnd n (rwD r) = true := by
  have h := bnds_of (n := n) (l := r.2.map D.str) fun d hd => by
    obtain ⟨a, _, rfl⟩ := List.mem_map.mp hd
    rfl
  simp [rwD, bnd, bnds, h]
theorem taken_cl (xs : List D) (h : VH) (w : wf h) : Cl h.length (runF 2 8 (b_taken_apart wordS stemS grownS) xs h) (takenS xs h) := by
  have run : ∀ x y, runF 2 8 (b_taken_apart wordS stemS grownS) [x, y] h = endF (b_taken_apart wordS stemS grownS [some x, some y, none, none, none, none, none, none] h) := fun x y => rfl
  unfold takenS
  split
  · rename_i ys word
    split
    · rename_i stems hx
      split
      · rename_i hl
        rw [run, allT_some hx, taken_run hl.1 hl.2.1 hl.2.2]
        refine .v w (bnds_of fun d hd => ?_)
        obtain ⟨r, _, rfl⟩ := List.mem_map.mp hd
        exact rwD_bnd _ r
      · exact .bad
    · exact .bad
  · exact .bad
theorem rwD_plain (r : Rw) : plainD deep (rwD r) = true := by
  have h : ((r.2.map D.str).all (plainD 10)) = true := by
    rw [List.all_map, List.all_eq_true]
    exact fun _ _ => rfl
  show ([D.str r.1, D.tup (r.2.map D.str)].all (plainD 11)) = true
  rw [List.all_cons, List.all_cons]
  show (true && (((r.2.map D.str).all (plainD 10)) && true)) = true
  rw [h]
  rfl
/-- what is found is found at its place -/
theorem found_at {stems : List (List Nat)} {word : List Nat} {r : Rw} {k : Nat} (hr : r ∈ rowsK stems word.length k) (hg : gw r = word) : ∀ m, k < m → r ∈ foundK stems word m
  | 0, h => absurd h (Nat.not_lt_zero _)
  | m + 1, h => by
    rcases Nat.lt_or_ge k m with h1 | h1
    · exact List.mem_append.mpr (.inl (found_at hr hg m h1))
    · have : m = k := by omega
      subst this
      exact List.mem_append.mpr (.inr (List.mem_filter.mpr ⟨hr, decide_eq_true hg⟩))
theorem found_all {stems : List (List Nat)} {word : List Nat} : ∀ m, ∀ r ∈ foundK stems word m, gw r = word ∧ ∃ k < m, r ∈ rowsK stems word.length k
  | 0, r, h => nomatch h
  | m + 1, r, h => by
    rcases List.mem_append.mp h with h | h
    · obtain ⟨h1, k, h2, h3⟩ := found_all m r h
      exact ⟨h1, k, by omega, h3⟩
    · obtain ⟨h1, h2⟩ := List.mem_filter.mp h
      exact ⟨of_decide_eq_true h2, m, by omega, h1⟩
/-- a stem with its ways stands in the rows of its length -/
theorem rows_has {stems : List (List Nat)} {s : List Nat} {n : Nat} (hs : s ∈ stems) (h1 : 1 ≤ s.length) : ∀ (ws us : List (List Nat)), (∀ w ∈ ws ++ us, w ∈ waysL) → (grownW s (ws ++ us)).length ≤ n → (s, ws) ∈ rowsK stems n ws.length := by
  intro ws
  induction hw : ws.length using Nat.strongRecOn generalizing ws with
  | _ k ih =>
    intro us hm hn
    rcases List.eq_nil_or_concat ws with rfl | ⟨vs, v, rfl⟩
    · subst hw
      exact List.mem_map.mpr ⟨s, hs, rfl⟩
    · rw [List.concat_eq_append] at *
      rw [List.length_append, List.length_singleton] at hw
      subst hw
      have i := ih vs.length (by omega) vs rfl (v :: us) (by simpa using hm) (by simpa using hn)
      have hv : v ∈ waysL := hm v (by simp)
      refine List.mem_filter.mpr ⟨List.mem_flatMap.mpr ⟨(s, vs), i, List.mem_map.mpr ⟨v, hv, rfl⟩⟩, decide_eq_true ?_⟩
      have m1 := grownW_len (ws := vs ++ [v]) (s := s) h1 fun w hw => hm w (List.mem_append.mpr (.inl hw))
      have m2 := grownW_len (ws := us) (s := grownW s (vs ++ [v])) (by omega) fun w hw => hm w (List.mem_append.mpr (.inr hw))
      have e : grownW (grownW s (vs ++ [v])) us = grownW s ((vs ++ [v]) ++ us) := by
        unfold grownW
        rw [List.foldl_append (l := vs ++ [v])]
      rw [e] at m2
      show (grownW s (vs ++ [v])).length ≤ n
      omega
end K04
set_option Elab.async false
set_option linter.all false
set_option maxRecDepth 100000
set_option maxHeartbeats 4000000
namespace K04
open PySem FL
/-! ### drawn words -/
def rN (s : Dc) (m : Int) : Nat := (dVal s m).toNat
theorem rN_eq {s : Dc} {m : Int} (h : 0 < m) : dVal s m = (rN s m : Int) := (Int.toNat_of_nonneg (dVal_lo h)).symm
theorem rN_lt {s : Dc} {m : Nat} (h : 0 < m) : rN s (m : Int) < m := by
  have h1 := rN_eq (s := s) (m := (m : Int)) (by omega)
  have h2 := dVal_hi (s := s) (m := (m : Int)) (by omega)
  omega
def pre7 : List (List Nat) := [[], [98], [107], [116], [112, 114], [115, 116], [108]]
def suf5 : List (List Nat) := [[], [], [110], [107], [114, 116]]
def lwSyl (s : Dc) : List Nat := pre7.getD (rN s 7) [] ++ [vows.getD (rN (dNext s 7) 5) 0] ++ suf5.getD (rN (dNext (dNext s 7) 5) 5) []
def lwNxt (s : Dc) : Dc := dNext (dNext (dNext s 7) 5) 5
def lwAt (s : Dc) : Nat → List Nat × Dc
  | 0 => ([], s)
  | k + 1 => ((lwAt s k).1 ++ lwSyl (lwAt s k).2, lwNxt (lwAt s k).2)
def lwW (m : Int) (s : Dc) : List Nat × Dc := lwAt (dNext s m) (1 + rN s m)
theorem pre7_ok : ∀ n < 7, (pre7.getD n []).length ≤ 2 ∧ (pre7.getD n []).all isLt = true := by decide
theorem suf5_ok : ∀ n < 5, (suf5.getD n []).length ≤ 2 ∧ (suf5.getD n []).all isLt = true := by decide
theorem vows_ok : ∀ n < 5, isLt (vows.getD n 0) = true ∧ isV (vows.getD n 0) = true := by decide
theorem lwSyl_ok (s : Dc) : 1 ≤ (lwSyl s).length ∧ (lwSyl s).length ≤ 5 ∧ (lwSyl s).all isLt = true ∧ (lwSyl s).any isV = true := by
  have h1 := pre7_ok _ (rN_lt (s := s) (m := 7) (by decide))
  have h2 := vows_ok _ (rN_lt (s := dNext s 7) (m := 5) (by decide))
  have h3 := suf5_ok _ (rN_lt (s := dNext (dNext s 7) 5) (m := 5) (by decide))
  unfold lwSyl
  have e7 : ((7 : Nat) : Int) = 7 := rfl
  have e5 : ((5 : Nat) : Int) = 5 := rfl
  rw [e7] at h1
  rw [e5] at h2 h3
  generalize pre7.getD (rN s 7) [] = a at *
  generalize suf5.getD (rN (dNext (dNext s 7) 5) 5) [] = b at *
  generalize vows.getD (rN (dNext s 7) 5) 0 = c at *
  refine ⟨by simp; omega, by simp; omega, by simp [h1.2, h2.1, h3.2], by simp [h2.2]⟩
theorem lwAt_len (s : Dc) : ∀ k, k ≤ (lwAt s k).1.length ∧ (lwAt s k).1.length ≤ 5 * k ∧ (lwAt s k).1.all isLt = true
  | 0 => ⟨Nat.le_refl _, Nat.le_refl _, rfl⟩
  | k + 1 => by
    have ih := lwAt_len s k
    have h := lwSyl_ok (lwAt s k).2
    unfold lwAt
    refine ⟨?_, ?_, ?_⟩
    · simp only [List.length_append]; omega
    · simp only [List.length_append]; omega
    · simp only [List.all_append, ih.2.2, h.2.2.1]; rfl
theorem lw_word {m : Nat} (s : Dc) (h0 : 0 < m) (hm : m ≤ 4) : isWord (lwW (m : Int) s).1 = true := by
  unfold lwW
  have hr := rN_lt (s := s) h0
  obtain ⟨k, hk⟩ : ∃ k, 1 + rN s (m : Int) = k + 1 := ⟨rN s (m : Int), by omega⟩
  have hl := lwAt_len (dNext s m) (k + 1)
  rw [hk]
  unfold isWord
  simp only [Bool.and_eq_true]
  refine ⟨decide_eq_true ⟨by omega, by omega⟩, hl.2.2, ?_⟩
  unfold lwAt
  rw [List.any_append, (lwSyl_ok _).2.2.2, Bool.or_true]
def lwS : List D → VH → Out D
  | [.ref d, .int m], h => if 0 < m ∧ m ≤ 4 then (match h[d]? with
    | some o => match asD o with
      | some s => .ok (.str (lwW m s).1) (h.set d (dO (lwW m s).2))
      | none => .bad
    | none => .bad) else .bad
  | _, _ => .bad
theorem at_strs {l : List (List Nat)} {n : Nat} (h : n < l.length) : atI (l.map D.str) (n : Int) = some (.str (l.getD n [])) := by
  rw [atI_nat, List.getElem?_map, List.getD_eq_getElem?_getD, List.getElem?_eq_getElem h]
  rfl
theorem ix_str {w : List Nat} {n : Nat} {h : VH} (hn : n < w.length) (hl : w.length ≤ 16777216) : oIx (.str w) (.int (n : Int)) h = some (.str [w.getD n 0], h) := by
  have e : oIx (.str w) (.int (n : Int)) h = if w.length ≤ 16777216 then (match atI w (n : Int) with
    | some c => some (.str [c], h)
    | none => none) else none := rfl
  rw [e, if_pos hl, atI_nat, List.getElem?_eq_getElem hn, List.getD_eq_getElem?_getD, List.getElem?_eq_getElem hn]
  rfl
theorem lw_turn {d : Nat} {m : Int} {h : VH} {s : Dc} {f : List Nat} {x3 : Option D} (hd : d < h.length) (hf : f.length ≤ 1000) :
    b_law_word_1 rollS [some (.ref d), some (.int m), some (.str f), x3] (h.set d (dO s)) = .nx [some (.ref d), some (.int m), some (.str (f ++ lwSyl s)), x3] (h.set d (dO (lwNxt s))) := by
  have r1 := rollS_set (s := s) (m := 7) hd (by decide) (by decide)
  have r2 := rollS_set (s := dNext s 7) (m := 5) hd (by decide) (by decide)
  have r3 := rollS_set (s := dNext (dNext s 7) 5) (m := 5) hd (by decide) (by decide)
  rw [rN_eq (by decide)] at r1 r2 r3
  have a1 : atI [D.str [], D.str [98], D.str [107], D.str [116], D.str [112, 114], D.str [115, 116], D.str [108]] (rN s 7 : Int) = some (.str (pre7.getD (rN s 7) [])) := at_strs (l := pre7) (rN_lt (s := s) (m := 7) (by decide))
  have a3 : atI [D.str [], D.str [], D.str [110], D.str [107], D.str [114, 116]] (rN (dNext (dNext s 7) 5) 5 : Int) = some (.str (suf5.getD (rN (dNext (dNext s 7) 5) 5) [])) := at_strs (l := suf5) (rN_lt (s := dNext (dNext s 7) 5) (m := 5) (by decide))
  have a2 : oIx (.str [97, 101, 105, 111, 117]) (.int (rN (dNext s 7) 5 : Int)) (h.set d (dO (dNext (dNext s 7) 5))) = some (.str [vows.getD (rN (dNext s 7) 5) 0], _) := ix_str (w := vows) (rN_lt (s := dNext s 7) (m := 5) (by decide)) (by decide)
  have l1 := (pre7_ok _ (rN_lt (s := s) (m := 7) (by decide))).1
  have l3 := (suf5_ok _ (rN_lt (s := dNext (dNext s 7) 5) (m := 5) (by decide))).1
  have e7 : ((7 : Nat) : Int) = 7 := rfl
  have e5 : ((5 : Nat) : Int) = 5 := rfl
  rw [e7] at l1
  rw [e5] at l3
  unfold b_law_word_1 lwSyl lwNxt
  generalize pre7.getD (rN s 7) [] = p at *
  generalize suf5.getD (rN (dNext (dNext s 7) 5) 5) [] = q at *
  generalize vows.getD (rN (dNext s 7) 5) 0 = c at *
  have z1 : f.length + p.length ≤ 16777216 := by omega
  have z2 : f.length + p.length + 1 ≤ 16777216 := by omega
  have z3 : f.length + p.length + 1 + q.length ≤ 16777216 := by omega
  have z4 : f.length + (p.length + 1) ≤ 16777216 := by omega
  have z5 : f.length + (p.length + (1 + q.length)) ≤ 16777216 := by omega
  have z6 : f.length + (p.length + 1) + q.length ≤ 16777216 := by omega
  simp [r1, r2, r3, a1, a2, a3, z1, z2, z3, z4, z5, z6]
theorem lw_eq (xs : List D) (h : VH) : lwS xs h = .bad ∨ runF 2 4 (b_law_word rollS) xs h = lwS xs h := by
  have run : ∀ x y, runF 2 4 (b_law_word rollS) [x, y] h = endF (b_law_word rollS [some x, some y, none, none] h) := fun x y => rfl
  unfold lwS
  split
  · rename_i d m
    split
    · rename_i hm
      cases ho : h[d]? with
      | none => exact .inl rfl
      | some o =>
        dsimp only
        cases ea : asD o with
        | none => exact .inl rfl
        | some s =>
          right
          have eo := asD_some ea
          subst eo
          have hd := hp_lt ho
          have hset : h = h.set d (dO s) := by
            refine List.ext_getElem? fun i => ?_
            by_cases hi : d = i
            · subst hi
              rw [List.getElem?_set_self hd, ho]
            · rw [List.getElem?_set_ne hi]
          have r0 := rollS_ok (h := h) (d := d) (m := m) (s := s) hm.1 (by omega) ho
          rw [rN_eq hm.1] at r0
          obtain ⟨k, rfl⟩ := Int.eq_ofNat_of_zero_le (show 0 ≤ m by omega)
          have hk := rN_lt (s := s) (m := k) (by omega)
          have q : OkS (fun δ h' => (∃ x3, δ = [some (.ref d), some (.int (k : Int)), some (.str (lwAt (dNext s k) (1 + rN s k)).1), x3]) ∧ h' = h.set d (dO (lwAt (dNext s k) (1 + rN s k)).2)) (sForR (aCons (FL.e2 oAdd (eC (.int 1)) (eF rollS (aCons (eV 0) (aCons (eV 1) aNil)))) aNil) (gN 3) (b_law_word_1 rollS) [some (.ref d), some (.int (k : Int)), some (.str []), none] h) := by
            rw [forR_1 (n := 1 + rN s k) (h1 := h.set d (dO (dNext s k))) (by simp [r0]) (by omega)]
            refine forT_rng (fun (i : Nat) => D.int i) (1 + rN s k) (fun i δ h' => (∃ x3, δ = [some (.ref d), some (.int (k : Int)), some (.str (lwAt (dNext s k) i).1), x3]) ∧ h' = h.set d (dO (lwAt (dNext s k) i).2)) ⟨⟨none, rfl⟩, rfl⟩ fun i δ h' hi q => ?_
            obtain ⟨⟨x3, rfl⟩, rfl⟩ := q
            have hl := lwAt_len (dNext s k) i
            exact ⟨_, _, rfl, .nx (lw_turn hd (by omega)) ⟨⟨_, rfl⟩, rfl⟩⟩
          obtain ⟨δ', h', e2, ⟨x3, rfl⟩, rfl⟩ := q.ex
          rw [run]
          unfold b_law_word
          refine run_nx (δ1 := [some (.ref d), some (.int (k : Int)), some (.str []), none]) (h1 := h) (by simp) ?_
          refine run_nx e2 ?_
          simp [lwW]
    · exact .inl rfl
  · exact .inl rfl
theorem lwS_set {j : Nat} {m : Int} {h : VH} {s : Dc} (hj : j < h.length) (h0 : 0 < m) (hm : m ≤ 4) : lwS [.ref j, .int m] (h.set j (dO s)) = .ok (.str (lwW m s).1) (h.set j (dO (lwW m s).2)) := by
  simp only [lwS, h0, hm, and_self, if_true, List.getElem?_set_self hj, asD_dO, List.set_set]
/-! ### the law's own telling -/
def ljS : List D → VH → Out D
  | [.str s, .str e], h => if 1 ≤ s.length ∧ s.length ≤ 1000 ∧ 1 ≤ e.length ∧ e.length ≤ 1000 then .ok (.str (joinW s e)) h else .bad
  | _, _ => .bad
theorem lj_eq (xs : List D) (h : VH) : ljS xs h = .bad ∨ runF 2 2 b_law_joined xs h = ljS xs h := by
  have run : ∀ x y, runF 2 2 b_law_joined [x, y] h = endF (b_law_joined [some x, some y] h) := fun x y => rfl
  unfold ljS
  split
  · rename_i s e
    split
    · rename_i hl
      obtain ⟨h1, h2, h4, h3⟩ := hl
      right
      have i1 := ix_last (w := s) (h := h) h1 (by omega)
      rw [run]
      unfold b_law_joined joinW
      have he : e ≠ [] := fun z => by subst z; exact absurd h4 (by decide)
      have i2 := ix_hd (w := e) (h := h) h4 (by omega)
      have c0 : ((s.length : Int) - 1) = ((s.length - 1 : Nat) : Int) := by omega
      have c1 := cut_take s (s.length - 1)
      have l1 : (s.take (s.length - 1)).length = s.length - 1 := by rw [List.length_take]; omega
      rw [if_neg he]
      simp only [isV, decide_eq_true_eq]
      generalize hA : lastN s = a at *
      generalize hB : hdN e = b at *
      clear run
      have z1 : s.length + 1 ≤ 16777216 := by omega
      have z2 : s.length + 1 + e.length ≤ 16777216 := by omega
      have z3 : s.length + e.length ≤ 16777216 := by omega
      have z4 : s.length ≤ 16777216 := by omega
      have z5 : s.length - 1 + 1 ≤ 16777216 := by omega
      have z6 : s.length - 1 + 1 + e.length ≤ 16777216 := by omega
      have vl : vows = [97, 101, 105, 111, 117] := rfl
      by_cases q1 : a ∈ vows ∧ b ∈ vows
      · have q1a := q1.1
        have q1b := q1.2
        rw [vl] at q1a q1b
        simp [-List.mem_cons, oNeg, i1, i2, vl, q1a, q1b, z1, z2, z3]
        try omega
      rw [if_neg q1]
      have st1 : sIf (tAnd (tV (FL.e2 cIn (FL.e2 oIx (eV 0) (FL.e1 oNeg (eC (.int 1)))) (eC (.str [97, 101, 105, 111, 117])))) (tV (FL.e2 cIn (FL.e2 oIx (eV 1) (eC (.int 0))) (eC (.str [97, 101, 105, 111, 117]))))) (sRet (FL.e2 oAdd (FL.e2 oAdd (eV 0) (eC (.str [110]))) (eV 1))) sNil [some (.str s), some (.str e)] h = .nx [some (.str s), some (.str e)] h := by
        rw [vl] at q1
        by_cases qa : a ∈ [97, 101, 105, 111, 117]
        · have qb : ¬ b ∈ [97, 101, 105, 111, 117] := fun z => q1 ⟨qa, z⟩
          simp [-List.mem_cons, oNeg, i1, i2, qa, qb]
        · simp [-List.mem_cons, oNeg, i1, i2, qa]
      refine run_nx st1 ?_
      by_cases q2 : a = 107 ∧ b ∈ [101, 105]
      · rw [if_pos q2]
        obtain ⟨rfl, q2⟩ := q2
        simp [-List.mem_cons, q2, oNeg, i1, i2, c0, c1, z1, z2, z3, z4, l1, z5, z6]
        try omega
      rw [if_neg q2]
      have st2 : sIf (tAnd (tV (FL.e2 cEq (FL.e2 oIx (eV 0) (FL.e1 oNeg (eC (.int 1)))) (eC (.str [107])))) (tV (FL.e2 cIn (FL.e2 oIx (eV 1) (eC (.int 0))) (eC (.str [101, 105]))))) (sRet (FL.e2 oAdd (FL.e2 oAdd (eSl (eV 0) pNo (pSo (FL.e2 oSub (eB bLen (aCons (eV 0) aNil)) (eC (.int 1))))) (eC (.str [115]))) (eV 1))) sNil [some (.str s), some (.str e)] h = .nx [some (.str s), some (.str e)] h := by
        by_cases qa : a = 107
        · have qb : ¬ b ∈ [101, 105] := fun z => q2 ⟨qa, z⟩
          subst qa
          simp [-List.mem_cons, oNeg, i1, i2, qb]
        · simp [oNeg, i1, i2, qa]
      refine run_nx st2 ?_
      by_cases q3 : a = 116 ∧ b = 105
      · rw [if_pos q3]
        obtain ⟨rfl, rfl⟩ := q3
        simp [oNeg, i1, i2, c0, c1, z1, z2, z3, z4, l1, z5, z6]
        try omega
      rw [if_neg q3]
      by_cases qa : a = 116
      · have qb : ¬ b = 105 := fun z => q3 ⟨qa, z⟩
        subst qa
        simp [oNeg, i1, i2, qb, z3]
      · simp [oNeg, i1, i2, qa, z3]
    · exact .inl rfl
  · exact .inl rfl
theorem lj_ok {s e : List Nat} {h : VH} (h1 : 1 ≤ s.length) (h2 : s.length ≤ 1000) (h4 : 1 ≤ e.length) (h3 : e.length ≤ 1000) : ljS [.str s, .str e] h = .ok (.str (joinW s e)) h := if_pos ⟨h1, h2, h4, h3⟩
def ltS : List D → VH → Out D
  | [.str s, .int k, .str c, .bl m], h => if (1 ≤ s.length ∧ s.length ≤ 1000) ∧ (k = 0 ∨ k = 1) ∧ c ∈ casesL then .ok (.str (thingW s k c m)) h else .bad
  | _, _ => .bad
theorem lt_eq (xs : List D) (h : VH) : ltS xs h = .bad ∨ runF 4 5 (b_law_thing ljS) xs h = ltS xs h := by
  have run : ∀ x y z u, runF 4 5 (b_law_thing ljS) [x, y, z, u] h = endF (b_law_thing ljS [some x, some y, some z, some u, none] h) := fun x y z u => rfl
  unfold ltS
  split
  · rename_i s k c m
    split
    · rename_i hl
      obtain ⟨⟨l1, l2⟩, hk, hc⟩ := hl
      right
      rw [run]
      unfold b_law_thing
      have n5 := tailT_ok (k := k) hc
      have n6 := manyT_len m
      have j : ljS [.str s, .str (tailT k (casesL.idxOf c) ++ manyT m)] h = .ok (.str (thingW s k c m)) h := lj_ok l1 l2 (by rw [List.length_append]; omega) (by rw [List.length_append]; omega)
      refine run_nx (δ1 := [some (.str s), some (.int k), some (.str c), some (.bl m), some (.str (tailT k (casesL.idxOf c)))]) (h1 := h) (by
        rcases hk with rfl | rfl <;> rcases casesL_cases hc with rfl | rfl | rfl | rfl <;> rfl) ?_
      have q : FL.e2 oAdd (eV 4) (FL.e2 oIx (eFl (aCons (eC (.str [])) (aCons (eC (.str [105])) aNil))) (eB bInt (aCons (eV 3) aNil))) [some (.str s), some (.int k), some (.str c), some (.bl m), some (.str (tailT k (casesL.idxOf c)))] h = .ok (.str (tailT k (casesL.idxOf c) ++ manyT m)) h := by
        clear j
        rcases hk with rfl | rfl <;> rcases casesL_cases hc with rfl | rfl | rfl | rfl <;> cases m <;> rfl
      simp [-ap_e2, q, j]
    · exact .inl rfl
  · exact .inl rfl
theorem lt_ok {s c : List Nat} {k : Int} {m : Bool} {h : VH} (l1 : 1 ≤ s.length) (l2 : s.length ≤ 1000) (hk : k = 0 ∨ k = 1) (hc : c ∈ casesL) : ltS [.str s, .int k, .str c, .bl m] h = .ok (.str (thingW s k c m)) h := if_pos ⟨⟨l1, l2⟩, hk, hc⟩
def lwhoS : List D → VH → Out D
  | [.fls xs], h => match allT xs with
    | some l => if l = casesL then .ok (.bl true) h else .bad
    | none => .bad
  | _, _ => .bad
theorem lwho_turn {n : Nat} (hn : n < 4) {x2 x3 x4 : Option D} {h : VH} : ∃ x2' x3', b_law_who_1 whoS [some (.fls (casesL.map D.str)), some (.int (n : Nat)), x2, x3, x4] h = .nx [some (.fls (casesL.map D.str)), some (.int (n : Nat)), x2', x3', x4] h := by
  refine ⟨some (.str (whoL.getD n [])), some (.fls (whoEndL.map D.str)), ?_⟩
  unfold b_law_who_1
  have a1 := ixF_strs (l := whoL) (n := n) (h := h) hn
  have a1' : oIx (.fls [.str [109, 105], .str [116, 105], .str [108, 111], .str [108, 97]]) (.int (n : Int)) h = _ := a1
  have hm : whoL.getD n [] ∈ whoL := by
    rw [List.getD_eq_getElem?_getD, List.getElem?_eq_getElem hn]
    exact List.getElem_mem hn
  have hix : whoL.idxOf (whoL.getD n []) = n := by
    have : n = 0 ∨ n = 1 ∨ n = 2 ∨ n = 3 := by omega
    rcases this with rfl | rfl | rfl | rfl <;> decide
  refine (seq_nx (δ1 := [some (.fls (casesL.map D.str)), some (.int (n : Nat)), some (.str (whoL.getD n [])), some (.fls (whoEndL.map D.str)), x4]) (h1 := h) (by simp [-List.getD_eq_getElem?_getD, a1', whoEndL])).trans ?_
  have hl2 : (whoL.getD n []).length = 2 := by
    rcases whoL_cases hm with e | e | e | e <;> rw [e] <;> rfl
  generalize whoL.getD n [] = w at *
  have wk : ∀ k < 4, casesL.idxOf (casesL.getD k []) = k ∧ casesL.getD k [] ∈ casesL := by decide
  have ek : ∀ k < 4, (whoEndL.getD k []).length ≤ 1 := by decide
  have row : ∀ (m : Bool) (k : Nat), k < 4 → FL.eF whoS (aCons (eV 2) (aCons (FL.e2 oIx (eV 0) (eV 4)) (aCons (eC (.bl m)) aNil))) [some (.fls (casesL.map D.str)), some (.int (n : Nat)), some (.str w), some (.fls (whoEndL.map D.str)), some (.int (k : Nat))] h = .ok (.str (whoW w (casesL.getD k []) m)) h := by
    intro m k hk
    have a2 := at_strs (l := casesL) (n := k) hk
    have j : whoS [.str w, .str (casesL.getD k []), .bl m] h = .ok (.str (whoW w (casesL.getD k []) m)) h := if_pos ⟨hm, (wk k hk).2⟩
    simp [-List.getD_eq_getElem?_getD, a2, j]
  have all4 : ∀ (e : FE) (f : Nat → List Nat), (∀ k < 4, e [some (.fls (casesL.map D.str)), some (.int (n : Nat)), some (.str w), some (.fls (whoEndL.map D.str)), some (.int (k : Nat))] h = .ok (.str (f k)) h) → FL.eLcR (aCons (eC (.int 4)) aNil) (gN 4) tYes e [4] [some (.fls (casesL.map D.str)), some (.int (n : Nat)), some (.str w), some (.fls (whoEndL.map D.str)), x4] h = .ok (.fls (((List.range 4).map f).map D.str)) h := by
    intro e f he
    rw [lcR_1 (n := 4) (h1 := h) (by simp) (by omega)]
    rw [lcT_allE (fun (k : Nat) => D.int k) (fun k => D.str (f k)) (List.range 4) (by decide) fun k hk => ⟨_, rfl, he k (List.mem_range.mp hk)⟩]
    rw [List.map_map]
    rfl
  have q1 := all4 _ (fun k => whoW w (casesL.getD k []) false) (row false)
  have q2 := all4 _ (fun k => whoW w (casesL.getD k []) true) (row true)
  have q3 := all4 (FL.e2 oAdd (eV 2) (FL.e2 oIx (eV 3) (eV 4))) (fun k => whoW w (casesL.getD k []) false) fun k hk => by
    have a3 := at_strs (l := whoEndL) (n := k) hk
    have l3 := ek k hk
    unfold whoW
    rw [(wk k hk).1]
    generalize whoEndL.getD k [] = t at *
    have z : w.length + t.length ≤ 16777216 := by omega
    simp [a3, z]
  have ev : ∀ n < 4, ([97, 101, 105, 111] : List Nat).getD n 0 = ([97, 101, 105, 111] : List Nat).getD n 0 := fun _ _ => rfl
  have a5 := ix_str (w := [97, 101, 105, 111]) (n := n) (h := h) hn (by decide)
  have q4 := all4 (FL.e2 oAdd (FL.e2 oAdd (FL.e2 oAdd (eV 2) (eC (.str [114]))) (FL.e2 oIx (eC (.str [97, 101, 105, 111])) (eV 1))) (FL.e2 oIx (eV 3) (eV 4))) (fun k => whoW w (casesL.getD k []) true) fun k hk => by
    have a3 := at_strs (l := whoEndL) (n := k) hk
    have l3 := ek k hk
    unfold whoW
    rw [(wk k hk).1, hix]
    generalize whoEndL.getD k [] = t at *
    generalize ([97, 101, 105, 111] : List Nat).getD n 0 = v at *
    have z1 : w.length + 1 ≤ 16777216 := by omega
    have z2 : w.length + 1 + 1 ≤ 16777216 := by omega
    have z3 : w.length + 1 + 1 + t.length ≤ 16777216 := by omega
    have z4 : w.length ≤ 16777214 := by omega
    have z5 : w.length ≤ 16777215 := by omega
    have z6 : w.length + (1 + (1 + t.length)) ≤ 16777216 := by omega
    have z7 : 4 + t.length ≤ 16777216 := by omega
    simp [a3, a5, hl2, z7]
  have c1 := cNe_strs (l := (List.range 4).map fun k => whoW w (casesL.getD k []) false) (l' := (List.range 4).map fun k => whoW w (casesL.getD k []) false) (h := h)
  have c2 := cNe_strs (l := (List.range 4).map fun k => whoW w (casesL.getD k []) true) (l' := (List.range 4).map fun k => whoW w (casesL.getD k []) true) (h := h)
  refine (seq_nx (δ1 := [some (.fls (casesL.map D.str)), some (.int (n : Nat)), some (.str w), some (.fls (whoEndL.map D.str)), x4]) (h1 := h) ?_).trans ?_
  · rw [ap_sIf, ap_tV, ap_e2, q1, bind_ok, q3, bind_ok, c1]
    simp
  · rw [ap_sIf, ap_tV, ap_e2, q2, bind_ok, q4, bind_ok, c2]
    simp
theorem lwho_eq (xs : List D) (h : VH) : lwhoS xs h = .bad ∨ runF 1 5 (b_law_who whoS) xs h = lwhoS xs h := by
  have run : ∀ x, runF 1 5 (b_law_who whoS) [x] h = endF (b_law_who whoS [some x, none, none, none, none] h) := fun x => rfl
  unfold lwhoS
  split
  · rename_i ys
    split
    · rename_i l hl
      split
      · rename_i hc
        right
        subst hc
        rw [run, allT_some hl]
        unfold b_law_who
        have q : OkS (fun δ h' => (∃ x1 x2 x3 x4, δ = [some (.fls (casesL.map D.str)), x1, x2, x3, x4]) ∧ h' = h) (sForR (aCons (eC (.int 4)) aNil) (gN 1) (b_law_who_1 whoS) [some (.fls (casesL.map D.str)), none, none, none, none] h) := by
          rw [forR_1 (n := 4) (h1 := h) (by simp) (by omega)]
          refine forT_rng (fun (i : Nat) => D.int i) 4 (fun k δ h' => (∃ x1 x2 x3 x4, δ = [some (.fls (casesL.map D.str)), x1, x2, x3, x4]) ∧ h' = h) ⟨⟨none, none, none, none, rfl⟩, rfl⟩ fun k δ h' hk q => ?_
          obtain ⟨⟨x1, x2, x3, x4, rfl⟩, rfl⟩ := q
          obtain ⟨x2', x3', e⟩ := lwho_turn (x2 := x2) (x3 := x3) (x4 := x4) (h := h') hk
          exact ⟨_, _, rfl, .nx e ⟨⟨_, _, _, _, rfl⟩, rfl⟩⟩
        obtain ⟨δ2, h2, e2, ⟨x1, x2, x3, x4, rfl⟩, rfl⟩ := q.ex
        refine run_nx e2 ?_
        simp
      · exact .inl rfl
    · exact .inl rfl
  · exact .inl rfl
end K04
set_option Elab.async false
set_option linter.all false
set_option maxRecDepth 100000
set_option maxHeartbeats 4000000
namespace K04
open PySem FL
/-! ### the law: words grown -/
def wayAt (s : Dc) : List Nat := waysL.getD (rN s 5) []
def waysW (s : Dc) : List (List Nat) × Dc := draws wayAt (fun s => dNext s 5) (rN s 3) (dNext s 3)
def lgNxt (s : Dc) : Dc := dNext (waysW s).2 3
def shortL : List (List Nat) := [[98, 97, 108], [107, 97, 116], [111, 110, 97]]
def lgS : List D → VH → Out D
  | [.ref d, .str stem], h => if isWord stem = true ∧ stem.length ≤ 15 then (match h[d]? with
    | some o => match asD o with
      | some s => .ok (.bl true) (h.set d (dO (lgNxt s)))
      | none => .bad
    | none => .bad) else .bad
  | _, _ => .bad
theorem wayAt_in (s : Dc) : wayAt s ∈ waysL := by
  unfold wayAt
  have h := rN_lt (s := s) (m := 5) (by decide)
  have h' : rN s 5 < waysL.length := h
  rw [List.getD_eq_getElem?_getD, List.getElem?_eq_getElem h']
  exact List.getElem_mem h'
theorem waysW_ok (s : Dc) : (∀ w ∈ (waysW s).1, w ∈ waysL) ∧ (waysW s).1.length ≤ 2 := by
  refine ⟨draws_all (p := fun w => w ∈ waysL) wayAt_in _ _, ?_⟩
  unfold waysW
  rw [draws_len]
  have h := rN_lt (s := s) (m := 3) (by decide)
  have e3 : ((3 : Nat) : Int) = 3 := rfl
  rw [e3] at h
  omega
theorem lg_ways {d : Nat} {s : Dc} {h : VH} {δ : DS} (hd : d < h.length) (h0 : δ[0]? = some (some (.ref d))) (hl : δ.length = 10) :
    FL.eLcR (aCons (eF rollS (aCons (eV 0) (aCons (eC (.int 3)) aNil))) aNil) (gN 4) tYes (FL.e2 oIx (eFl (aCons (eC (.str [114, 101])) (aCons (eC (.str [110, 101])) (aCons (eC (.str [101, 114])) (aCons (eC (.str [105, 116])) (aCons (eC (.str [97, 108])) aNil)))))) (eF rollS (aCons (eV 0) (aCons (eC (.int 5)) aNil)))) [4] δ (h.set d (dO s)) = .ok (.fls ((waysW s).1.map D.str)) (h.set d (dO (waysW s).2)) := by
  have r0 := rollS_set (s := s) (m := 3) hd (by decide) (by decide)
  rw [rN_eq (by decide)] at r0
  rw [lcR_1 (n := rN s 3) (h1 := h.set d (dO (dNext s 3))) (by simp [h0, r0]) (by have := rN_lt (s := s) (m := 3) (by decide); have e3 : ((3 : Nat) : Int) = 3 := rfl; rw [e3] at this; omega)]
  rw [lc_draws (i := 4) D.str wayAt (fun s => dNext s 5) (fun x s => by
    have r1 := rollS_set (s := s) (m := 5) hd (by decide) (by decide)
    rw [rN_eq (by decide)] at r1
    have a1 : atI [D.str [114, 101], D.str [110, 101], D.str [101, 114], D.str [105, 116], D.str [97, 108]] (rN s 5 : Int) = some (.str (wayAt s)) := at_strs (l := waysL) (rN_lt (s := s) (m := 5) (by decide))
    have g0 : (FL.wipe δ [4])[0]? = some (some (.ref d)) := by simp [FL.wipe, h0]
    simp [g0, h0, FL.wipe, r1, a1]) _ _ _ (by rw [List.length_map, List.length_range]; have := rN_lt (s := s) (m := 3) (by decide); have e3 : ((3 : Nat) : Int) = 3 := rfl; rw [e3] at this; simp; omega)]
  rw [List.length_map, List.length_range, List.nil_append]
  rfl
theorem lg_loop {ws : List (List Nat)} {s0 : List Nat} {h : VH} {x0 x1 x2 x4 x5 x6 x7 x8 x9 : Option D} (hg : growOk s0 ws = true) : OkS (fun δ h' => (∃ x5, δ = [x0, x1, x2, some (.str (grownW s0 ws)), x4, x5, x6, x7, x8, x9]) ∧ h' = h) (forT (gN 5) (b_law_grown_1 rollS ljS grownS madeS takenS) (ws.map D.str) [x0, x1, x2, some (.str s0), x4, x5, x6, x7, x8, x9] h) := by
  induction ws generalizing s0 x5 with
  | nil => exact .mk ⟨⟨_, rfl⟩, rfl⟩
  | cons w ws ih =>
    have hg' : (isWord s0 && (decide (w ∈ waysL) && growOk (madeW s0 w) ws)) = true := hg
    simp only [Bool.and_eq_true, decide_eq_true_eq] at hg'
    have hs := isWord_len hg'.1
    have e : b_law_grown_1 rollS ljS grownS madeS takenS [x0, x1, x2, some (.str s0), x4, some (.str w), x6, x7, x8, x9] h = .nx [x0, x1, x2, some (.str (madeW s0 w)), x4, some (.str w), x6, x7, x8, x9] h := by
      unfold b_law_grown_1 madeW
      have n1 : cIn (.str w) (.fls [.str [114, 101], .str [110, 101]]) h = some (.bl (decide (w ∈ preL)), h) := cIn_sF (l := preL)
      have i1 := ix_hd (w := s0) (h := h) hs.1 (by omega)
      have hm2 : w.length = 2 := by rcases waysL_cases hg'.2.1 with rfl | rfl | rfl | rfl | rfl <;> rfl
      have z1 : s0.length ≤ 16777213 := by omega
      have z2 : s0.length ≤ 16777214 := by omega
      have z3 : 2 + s0.length ≤ 16777216 := by omega
      have z4 : 3 + s0.length ≤ 16777216 := by omega
      by_cases hp : w ∈ preL
      · rw [if_pos hp]
        have n3 : cIn (.str [hdN s0]) (.str [97, 101, 105, 111, 117]) h = some (.bl (isV (hdN s0)), h) := by rw [cIn_cs]; rfl
        cases hv : isV (hdN s0) <;> simp [-cIn_cs, n1, hp, i1, n3, hv, hm2, z1, z2, z3, z4] <;> (try omega)
      · rw [if_neg hp]
        have j := lj_ok (h := h) (s := s0) (e := w) hs.1 (by omega) (by omega) (by omega)
        simp [n1, hp, j]
    rw [List.map_cons, forT_cons]
    show OkS _ (loopS (b_law_grown_1 rollS ljS grownS madeS takenS [x0, x1, x2, some (.str s0), x4, some (.str w), x6, x7, x8, x9] h) _)
    rw [e]
    exact ih hg'.2.2
theorem taken_ok {stems : List (List Nat)} {word : List Nat} {h : VH} (hl : stems.length ≤ 1000) (hs : stems.all isStem = true) (hw : isWord word = true) : takenS [.fls (stems.map D.str), .str word] h = .ok (.tup ((takenL stems word).map rwD)) h := by
  show (match allT (stems.map D.str) with
    | some stems => if stems.length ≤ 1000 ∧ (stems.all isStem = true ∧ isWord word = true) then Out.ok (D.tup ((takenL stems word).map rwD)) h else .bad
    | none => .bad) = _
  rw [allT_strs]
  exact if_pos ⟨hl, hs, hw⟩
theorem shortL_ok : ∀ n < 3, shortL.getD n [] ∈ shortL ∧ isWord (shortL.getD n []) = true ∧ (shortL.getD n []).length = 3 := by decide
theorem cond3 {stem : List Nat} {ws : List (List Nat)} {h : VH} {x0 x4 x5 x6 x7 x8 x9 : Option D} (hg : growOk stem ws = true) (hl : ws.length ≤ 2) (hz : (grownW stem ws).length ≤ 16777216) :
    sIf (tOr (tV (FL.e2 cNe (eF grownS (aCons (eV 1) (aCons (eV 2) aNil))) (eV 3))) (tAnd (tV (FL.e2 cNe (eV 2) (eFl aNil))) (tV (FL.e2 cNe (eF madeS (aCons (eF grownS (aCons (eV 1) (aCons (eSl (eV 2) pNo (pSo (FL.e2 oSub (eB bLen (aCons (eV 2) aNil)) (eC (.int 1))))) aNil))) (aCons (FL.e2 oIx (eV 2) (FL.e1 oNeg (eC (.int 1)))) aNil))) (eV 3))))) (sRet (eC (.bl false))) sNil
      [x0, some (.str stem), some (.fls (ws.map D.str)), some (.str (grownW stem ws)), x4, x5, x6, x7, x8, x9] h = .nx [x0, some (.str stem), some (.fls (ws.map D.str)), some (.str (grownW stem ws)), x4, x5, x6, x7, x8, x9] h := by
  have g1 := grown_f (h := h) hg
  have c1 := cNe_strs (l := ws) (l' := []) (h := h)
  rw [List.map_nil] at c1
  rcases List.eq_nil_or_concat ws with rfl | ⟨vs, v, rfl⟩
  · simp only [List.map_nil] at *
    simp [g1, c1]
  · rw [List.concat_eq_append] at *
    rw [growOk_snoc] at hg
    simp only [Bool.and_eq_true, decide_eq_true_eq] at hg
    have g2 := grown_f (h := h) hg.1
    have m := made_ok (h := h) hg.2.1 hg.2.2
    rw [← grownW_snoc] at m
    have c0 : (((vs ++ [v]).map D.str).length : Int) - 1 = ((vs.length : Nat) : Int) := by simp
    have c2 : cut ((vs ++ [v]).map D.str) none (some ((vs.length : Nat) : Int)) = vs.map D.str := by
      rw [cut_take]
      simp
    have c3 : atI ((vs ++ [v]).map D.str) (-1) = some (.str v) := by
      unfold atI ixN
      rw [if_neg (by decide), if_pos (by simp; omega)]
      have ei : ((-1 : Int) + ((vs.length : Int) + 1)).toNat = vs.length := by omega
      simp [ei]
    have c4 : ((vs ++ [v] == []) : Bool) = false := by simp
    have c5 : (vs ++ [v] = []) = False := by simp
    simp only [c5, decide_false, Bool.not_false] at c1
    generalize hL : (vs ++ [v]).map D.str = L at *
    have hL2 : L.length = vs.length + 1 := by rw [← hL]; simp
    have hz1 : L.length ≤ 16777216 := by rw [hL2]; simp at hl; omega
    simp [g1, c1, g2, m, c0, c2, c3, oNeg, hL2]
theorem lg_told {short : List Nat} {ws : List (List Nat)} {h : VH} {x0 x1 x3 x4 x5 x8 x9 : Option D} (hs : short ∈ shortL) (hw : isWord short = true) (h3 : short.length = 3) (hm : ∀ w ∈ ws, w ∈ waysL) (hl : ws.length ≤ 2) :
    endF (sSeq (sAs (eF takenS (aCons (eFl (aCons (eC (.str [98, 97, 108])) (aCons (eC (.str [107, 97, 116])) (aCons (eC (.str [111, 110, 97])) aNil)))) (aCons (eF grownS (aCons (eV 6) (aCons (eV 2) aNil))) aNil))) (gN 7))
  (sSeq (sIf (tV (FL.e2 cNin (eTup (aCons (eV 6) (aCons (eB bTup (aCons (eV 2) aNil)) aNil))) (eV 7))) (sRet (eC (.bl false))) sNil)
  (sSeq (sIf (tV (FL.e2 cNe (FL.eLc (eV 7) (gT 2 (gCons (gN 8) (gCons (gN 9) gNil))) (tV (FL.e2 cNe (eF grownS (aCons (eV 8) (aCons (eV 9) aNil))) (eF grownS (aCons (eV 6) (aCons (eV 2) aNil))))) (eV 8) [8, 9]) (eFl aNil))) (sRet (eC (.bl false))) sNil)
  (sSeq (sIf (tV (FL.e2 cNe (eB bList (aCons (eV 7) aNil)) (eB bSort2 (aCons (eV 7) aNil)))) (sRet (eC (.bl false))) sNil)
  (sRet (eC (.bl true))))))
      [x0, x1, some (.fls (ws.map D.str)), x3, x4, x5, some (.str short), none, x8, x9] h) = .ok (.bl true) h := by
  obtain ⟨g, gword⟩ := grow_ok (ws := ws) hw hm (by omega)
  have g1 := grown_f (h := h) g
  have t1 := taken_ok (stems := shortL) (h := h) (by decide) (by decide) gword
  have e0 : eFl (aCons (eC (.str [98, 97, 108])) (aCons (eC (.str [107, 97, 116])) (aCons (eC (.str [111, 110, 97])) aNil))) [x0, x1, some (.fls (ws.map D.str)), x3, x4, x5, some (.str short), none, x8, x9] h = .ok (.fls (shortL.map D.str)) h := rfl
  refine run_nx (δ1 := [x0, x1, some (.fls (ws.map D.str)), x3, x4, x5, some (.str short), some (.tup ((takenL shortL (grownW short ws)).map rwD)), x8, x9]) (h1 := h) (by
    rw [ap_sAs, ap_eF, ap_aCons, e0, bind_ok]
    simp [-List.map_cons, g1, t1]) ?_
  generalize hW : grownW short ws = word at *
  have L1 := isWord_len gword
  have hin : (short, ws) ∈ takenL shortL word := by
    refine (List.mergeSort_perm _ _).mem_iff.mpr (found_at (r := (short, ws)) (k := ws.length) ?_ (show gw (short, ws) = word from hW) 4 (by omega))
    refine rows_has hs (by omega) ws [] (by simpa using hm) ?_
    rw [List.append_nil, hW]
    exact Nat.le_refl _
  have hall : ∀ r ∈ takenL shortL word, goodR r ∧ gw r = word := by
    intro r hr
    have hr := (List.mergeSort_perm _ _).mem_iff.mp hr
    obtain ⟨h1, k, h2, h4⟩ := found_all 4 r hr
    exact ⟨rows_good L1.2 (by decide) k r h4, h1⟩
  have hlen : (takenL shortL word).length ≤ 16777216 := by
    have h1 := found_len shortL word 4 (Nat.le_refl _)
    have h2 := (List.mergeSort_perm (foundK shortL word 4) fun a b => PySem.W.dataLe false rwP a b).length_eq
    have h3 : (takenL shortL word).length = (foundK shortL word 4).length := h2
    have h5 : shortL.length * 625 * 4 ≤ 16777216 := by decide
    omega
  have hpl : ((takenL shortL word).map rwD).all (plainD deep) = true := by
    rw [List.all_map, List.all_eq_true]
    exact fun r _ => rwD_plain r
  have hag := bSort2_again (x := .tup ((takenL shortL word).map rwD)) (h := h) (l := foundK shortL word 4) rwD rwP rfl (fun a _ => rwP_of a _) (fun a _ b _ => rwP_alike a b) (fun l' _ => rwP_sortable l')
  have hag' : bSort2 [.tup ((takenL shortL word).map rwD)] h = some (.fls ((takenL shortL word).map rwD), h) := hag
  have c1 : cNin (rwD (short, ws)) (.tup ((takenL shortL word).map rwD)) h = some (.bl false, h) := cNin_tup (rwD_plain _) hpl (List.mem_map.mpr ⟨_, hin, rfl⟩)
  have c1' : cNin (.tup [.str short, .tup (ws.map D.str)]) (.tup ((takenL shortL word).map rwD)) h = some (.bl false, h) := c1
  have hpl11 : ((takenL shortL word).map rwD).all (plainD 11) = true := by
    rw [List.all_map, List.all_eq_true]
    intro r _
    have e : ((r.2.map D.str).all (plainD 9)) = true := by
      rw [List.all_map, List.all_eq_true]
      exact fun _ _ => rfl
    show ([D.str r.1, D.tup (r.2.map D.str)].all (plainD 10)) = true
    rw [List.all_cons, List.all_cons]
    show (true && (((r.2.map D.str).all (plainD 9)) && true)) = true
    rw [e]
    rfl
  have c3 := cNe_lists (x := .fls ((takenL shortL word).map rwD)) (y := .fls ((takenL shortL word).map rwD)) (h := h) rfl rfl hpl11
  have q := lcT_mapE (g := gT 2 (gCons (gN 8) (gCons (gN 9) gNil))) (t := tV (FL.e2 cNe (eF grownS (aCons (eV 8) (aCons (eV 9) aNil))) (eF grownS (aCons (eV 6) (aCons (eV 2) aNil))))) (e := eV 8) (own := [8, 9]) (δ := [x0, x1, some (.fls (ws.map D.str)), x3, x4, x5, some (.str short), some (.tup ((takenL shortL word).map rwD)), x8, x9]) (h := h) rwD (fun _ => false) rwD (takenL shortL word) [] (by simpa using hlen) fun r hr => by
    obtain ⟨⟨r1, r2⟩, r3⟩ := hall r hr
    have g3 := grown_t (h := h) r1
    rw [show grownW r.1 r.2 = word from r3] at g3
    exact ⟨_, rfl, by simp [FL.wipe, g1, g3], fun z => nomatch z⟩
  have q' : eLc (eV 7) (gT 2 (gCons (gN 8) (gCons (gN 9) gNil))) (tV (FL.e2 cNe (eF grownS (aCons (eV 8) (aCons (eV 9) aNil))) (eF grownS (aCons (eV 6) (aCons (eV 2) aNil))))) (eV 8) [8, 9] [x0, x1, some (.fls (ws.map D.str)), x3, x4, x5, some (.str short), some (.tup ((takenL shortL word).map rwD)), x8, x9] h = .ok (.fls []) h := by
    rw [ap_eLc, ap_eV]
    show (Out.ok (D.tup ((takenL shortL word).map rwD)) h).bind _ = _
    rw [bind_ok, lcX_tup, q]
    simp
  generalize (takenL shortL word).map rwD = T at *
  refine run_nx (δ1 := [x0, x1, some (.fls (ws.map D.str)), x3, x4, x5, some (.str short), some (.tup T), x8, x9]) (h1 := h) (by simp [c1']) ?_
  have ce : cNe (.fls []) (.fls []) h = some (.bl false, h) := rfl
  refine run_nx (δ1 := [x0, x1, some (.fls (ws.map D.str)), x3, x4, x5, some (.str short), some (.tup T), x8, x9]) (h1 := h) (by
    rw [ap_sIf, ap_tV, ap_e2, q', bind_ok]
    simp [ce]) ?_
  refine run_nx (δ1 := [x0, x1, some (.fls (ws.map D.str)), x3, x4, x5, some (.str short), some (.tup T), x8, x9]) (h1 := h) (by simp [hag', c3]) ?_
  simp
theorem lg_run {stem : List Nat} {d : Nat} {s : Dc} {h : VH} (hd : d < h.length) (hw : isWord stem = true) (hl : stem.length ≤ 15) :
    endF (b_law_grown rollS ljS grownS madeS takenS [some (.ref d), some (.str stem), none, none, none, none, none, none, none, none] (h.set d (dO s))) = .ok (.bl true) (h.set d (dO (lgNxt s))) := by
  unfold b_law_grown
  obtain ⟨W1, W2⟩ := waysW_ok s
  have q1 := lg_ways (s := s) (δ := [some (.ref d), some (.str stem), none, none, none, none, none, none, none, none]) hd rfl rfl
  have r0 := rollS_set (s := (waysW s).2) (m := 3) hd (by decide) (by decide)
  rw [rN_eq (by decide)] at r0
  have sn := shortL_ok _ (rN_lt (s := (waysW s).2) (m := 3) (by decide))
  have a3 : atI [D.str [98, 97, 108], D.str [107, 97, 116], D.str [111, 110, 97]] (rN (waysW s).2 3 : Int) = some (.str (shortL.getD (rN (waysW s).2 3) [])) := at_strs (l := shortL) (rN_lt (s := (waysW s).2) (m := 3) (by decide))
  have e3 : ((3 : Nat) : Int) = 3 := rfl
  rw [e3] at sn
  unfold lgNxt
  generalize (waysW s).2 = s1 at *
  generalize (waysW s).1 = ws at *
  refine run_nx (δ1 := [some (.ref d), some (.str stem), some (.fls (ws.map D.str)), some (.str stem), none, none, none, none, none, none]) (h1 := h.set d (dO s1)) (by
    rw [ap_sAs, ap_eTup, ap_aCons, q1]
    simp) ?_
  obtain ⟨g, gword⟩ := grow_ok (ws := ws) hw W1 (by omega)
  have l := lg_loop (ws := ws) (s0 := stem) (h := h.set d (dO s1)) (x0 := some (.ref d)) (x1 := some (.str stem)) (x2 := some (.fls (ws.map D.str))) (x4 := none) (x5 := none) (x6 := none) (x7 := none) (x8 := none) (x9 := none) g
  obtain ⟨δ2, h2, e2, ⟨x5, rfl⟩, rfl⟩ := l.ex
  refine run_nx (δ1 := [some (.ref d), some (.str stem), some (.fls (ws.map D.str)), some (.str (grownW stem ws)), none, x5, none, none, none, none]) (h1 := h.set d (dO s1)) (by
    rw [ap_sFor, ap_eV]
    exact e2) ?_
  refine run_nx (cond3 g W2 (by have := isWord_len gword; omega)) ?_
  refine run_nx (δ1 := [some (.ref d), some (.str stem), some (.fls (ws.map D.str)), some (.str (grownW stem ws)), none, x5, some (.str (shortL.getD (rN s1 3) [])), none, none, none]) (h1 := h.set d (dO (dNext s1 3))) (by simp [-List.getD_eq_getElem?_getD, r0, a3]) ?_
  exact lg_told sn.1 sn.2.1 sn.2.2 W1 W2
theorem lg_eq (xs : List D) (h : VH) : lgS xs h = .bad ∨ runF 2 10 (b_law_grown rollS ljS grownS madeS takenS) xs h = lgS xs h := by
  have run : ∀ x y, runF 2 10 (b_law_grown rollS ljS grownS madeS takenS) [x, y] h = endF (b_law_grown rollS ljS grownS madeS takenS [some x, some y, none, none, none, none, none, none, none, none] h) := fun x y => rfl
  unfold lgS
  split
  · rename_i d stem
    split
    · rename_i hm
      cases ho : h[d]? with
      | none => exact .inl rfl
      | some o =>
        dsimp only
        cases ea : asD o with
        | none => exact .inl rfl
        | some s =>
          right
          have eo := asD_some ea
          subst eo
          have hd := hp_lt ho
          have hset : h.set d (dO s) = h := by
            refine List.ext_getElem? fun i => ?_
            by_cases hi : d = i
            · subst hi
              rw [List.getElem?_set_self hd, ho]
            · rw [List.getElem?_set_ne hi]
          have q := lg_run (s := s) hd hm.1 hm.2
          rw [hset] at q
          rw [run, q]
    · exact .inl rfl
  · exact .inl rfl
theorem lg_set {j : Nat} {stem : List Nat} {h : VH} {s : Dc} (hj : j < h.length) (hw : isWord stem = true) (hl : stem.length ≤ 15) : lgS [.ref j, .str stem] (h.set j (dO s)) = .ok (.bl true) (h.set j (dO (lgNxt s))) := by
  simp only [lgS, hw, hl, and_self, if_true, List.getElem?_set_self hj, asD_dO, List.set_set]
end K04
set_option Elab.async false
set_option linter.all false
set_option maxRecDepth 100000
set_option maxHeartbeats 4000000
namespace K04
open PySem FL
/-! ### the law: one round -/
section
variable {h : VH} {x0 x1 x2 x3 x4 x5 x6 x7 x8 x9 x10 x11 x12 : Option D}
theorem th_turn {s c : List Nat} {k : Int} {m : Bool} {acc : List D} (l1 : 1 ≤ s.length) (l2 : s.length ≤ 1000) (hk : k = 0 ∨ k = 1) (hc : c ∈ casesL) (ha : acc.length ≤ 100) :
    b_law_1 lwS rollS ltS thingS thingsS ljS deedsS deedS lwhoS askS joinS lgS whoS madeS roundsS [x0, x1, x2, some (.ref h.length), some (.str c), some (.str s), some (.int k), some (.bl m), x8, x9, x10, x11, x12] (h ++ [.lst acc]) = .nx [x0, x1, x2, some (.ref h.length), some (.str c), some (.str s), some (.int k), some (.bl m), x8, x9, x10, x11, x12] (h ++ [.lst (acc ++ [thRow s k c m])]) := by
  unfold b_law_1
  have t1 := lt_ok (m := m) (h := h ++ [.lst acc]) l1 l2 hk hc
  have t2 : ∀ h, thingS [.str s, .int k, .str c, .bl m] h = .ok (.str (thingW s k c m)) h := fun h => by
    show (if 1 ≤ s.length ∧ s.length ≤ 1000 then (if (k = 0 ∨ k = 1) ∧ c ∈ casesL then Out.ok (D.str (thingW s k c m)) h else .err 0 none h) else .bad) = _
    rw [if_pos ⟨l1, l2⟩, if_pos ⟨hk, hc⟩]
  have hz : acc.length < 16777216 := by omega
  have a1 : atI (acc ++ [thRow s k c m]) (-1) = some (thRow s k c m) := by
    unfold atI ixN
    rw [if_neg (by decide), if_pos (by simp; omega)]
    have ei : ((-1 : Int) + ((acc.length : Int) + 1)).toNat = acc.length := by omega
    simp [ei]
  refine (seq_nx (δ1 := [x0, x1, x2, some (.ref h.length), some (.str c), some (.str s), some (.int k), some (.bl m), x8, x9, x10, x11, x12]) (h1 := h ++ [.lst (acc ++ [thRow s k c m])]) (by simp [t1, hz, thRow])).trans ?_
  simp [t2, oNeg, a1]
  simp [thRow]
theorem th_all {s : List Nat} {k : Int} (l1 : 1 ≤ s.length) (l2 : s.length ≤ 1000) (hk : k = 0 ∨ k = 1) :
    OkS (fun δ h' => (∃ x4 x7, δ = [x0, some (.fls (casesL.map D.str)), x2, some (.ref h.length), x4, some (.str s), some (.int k), x7, x8, x9, x10, x11, x12]) ∧ h' = h ++ [.lst (thingsL s k)]) (sFor (eV 1) (gN 4) (b_law_2 lwS rollS ltS thingS thingsS ljS deedsS deedS lwhoS askS joinS lgS whoS madeS roundsS) [x0, some (.fls (casesL.map D.str)), x2, some (.ref h.length), x4, some (.str s), some (.int k), x7, x8, x9, x10, x11, x12] (h ++ [.lst []])) := by
  have e0 : sFor (eV 1) (gN 4) (b_law_2 lwS rollS ltS thingS thingsS ljS deedsS deedS lwhoS askS joinS lgS whoS madeS roundsS) [x0, some (.fls (casesL.map D.str)), x2, some (.ref h.length), x4, some (.str s), some (.int k), x7, x8, x9, x10, x11, x12] (h ++ [.lst []]) = forT (gN 4) (b_law_2 lwS rollS ltS thingS thingsS ljS deedsS deedS lwhoS askS joinS lgS whoS madeS roundsS) (casesL.map D.str) [x0, some (.fls (casesL.map D.str)), x2, some (.ref h.length), x4, some (.str s), some (.int k), x7, x8, x9, x10, x11, x12] (h ++ [.lst []]) := rfl
  rw [e0]
  refine forT_ix D.str casesL (fun i δ h' => (∃ x4 x7, δ = [x0, some (.fls (casesL.map D.str)), x2, some (.ref h.length), x4, some (.str s), some (.int k), x7, x8, x9, x10, x11, x12]) ∧ h' = h ++ [.lst ((casesL.take i).flatMap fun c => bothL.map (thRow s k c))]) ⟨⟨x4, x7, rfl⟩, rfl⟩ fun i c δ h' hi q => ?_
  obtain ⟨⟨x4, x7, rfl⟩, rfl⟩ := q
  refine ⟨_, _, rfl, .of ?_⟩
  have hc : c ∈ casesL := List.mem_of_getElem? hi
  have la : ((casesL.take i).flatMap fun c => bothL.map (thRow s k c)).length ≤ 8 := by
    rw [List.length_flatMap, show ((casesL.take i).map fun c => (bothL.map (thRow s k c)).length) = (casesL.take i).map fun _ => 2 from rfl, List.map_const', List.sum_replicate_nat, List.length_take]
    show min i 4 * 2 ≤ 8
    omega
  rw [take_succ_flat (fun c => bothL.map (thRow s k c)) hi]
  generalize (casesL.take i).flatMap (fun c => bothL.map (thRow s k c)) = acc at *
  show OkS _ (b_law_2 lwS rollS ltS thingS thingsS ljS deedsS deedS lwhoS askS joinS lgS whoS madeS roundsS [x0, some (.fls (casesL.map D.str)), x2, some (.ref h.length), some (.str c), some (.str s), some (.int k), x7, x8, x9, x10, x11, x12] (h ++ [.lst acc]))
  unfold b_law_2
  have e1 : eFl (aCons (eC (.bl false)) (aCons (eC (.bl true)) aNil)) [x0, some (.fls (casesL.map D.str)), x2, some (.ref h.length), some (.str c), some (.str s), some (.int k), x7, x8, x9, x10, x11, x12] (h ++ [.lst acc]) = .ok (.fls (bothL.map D.bl)) (h ++ [.lst acc]) := rfl
  rw [ap_sFor, e1, thenS_ok, forX_fls]
  have r := forT_ix (g := gN 7) (b := b_law_1 lwS rollS ltS thingS thingsS ljS deedsS deedS lwhoS askS joinS lgS whoS madeS roundsS) D.bl bothL (fun i δ h' => (∃ x7, δ = [x0, some (.fls (casesL.map D.str)), x2, some (.ref h.length), some (.str c), some (.str s), some (.int k), x7, x8, x9, x10, x11, x12]) ∧ h' = h ++ [.lst (acc ++ (bothL.take i).map (thRow s k c))]) (δ := [x0, some (.fls (casesL.map D.str)), x2, some (.ref h.length), some (.str c), some (.str s), some (.int k), x7, x8, x9, x10, x11, x12]) (h := h ++ [.lst acc]) ⟨⟨x7, rfl⟩, by simp⟩ fun i m δ h' hi q => by
    obtain ⟨⟨x7, rfl⟩, rfl⟩ := q
    have hl : ((bothL.take i).map (thRow s k c)).length ≤ 2 := by rw [List.length_map, List.length_take]; show min i 2 ≤ 2; omega
    refine ⟨_, _, rfl, .nx (th_turn l1 l2 hk hc (by rw [List.length_append]; omega)) ⟨⟨_, rfl⟩, ?_⟩⟩
    rw [List.take_add_one, hi]
    simp
  obtain ⟨δ2, h2, e2, ⟨x7', rfl⟩, rfl⟩ := r.ex
  exact .nx e2 ⟨⟨_, _, rfl⟩, rfl⟩
theorem dd_turn {s t : List Nat} {p : Int} {m : Bool} {acc : List D} (l1 : 1 ≤ s.length) (l2 : s.length ≤ 1000) (ht : t ∈ timesL) (hp : p = 1 ∨ p = 2 ∨ p = 3) (ha : acc.length ≤ 100) :
    b_law_3 lwS rollS ltS thingS thingsS ljS deedsS deedS lwhoS askS joinS lgS whoS madeS roundsS [x0, x1, x2, some (.ref h.length), x4, some (.str s), x6, some (.bl m), some (.str t), some (.str (aheadL.getD (timesL.idxOf t) [])), some (.int p), x11, x12] (h ++ [.lst acc]) = .nx [x0, x1, x2, some (.ref h.length), x4, some (.str s), x6, some (.bl m), some (.str t), some (.str (aheadL.getD (timesL.idxOf t) [])), some (.int p), some (.str (tailD t p m)), x12] (h ++ [.lst (acc ++ [dRow s t p m])]) := by
  unfold b_law_3
  have tl := tailD_len (m := m) ht hp
  have q : (FL.e2 oAdd (eV 9) (FL.e2 oIx (FL.e2 oIx (eFl (aCons (eFl (aCons (eC (.str [117])) (aCons (eC (.str [105, 115])) (aCons (eC (.str [101])) aNil)))) (aCons (eFl (aCons (eC (.str [117, 109, 111])) (aCons (eC (.str [105, 116, 101])) (aCons (eC (.str [101, 110])) aNil)))) aNil))) (eB bInt (aCons (eV 7) aNil))) (FL.e2 oSub (eV 10) (eC (.int 1))))) [x0, x1, x2, some (.ref h.length), x4, some (.str s), x6, some (.bl m), some (.str t), some (.str (aheadL.getD (timesL.idxOf t) [])), some (.int p), x11, x12] (h ++ [.lst acc]) = .ok (.str (tailD t p m)) (h ++ [.lst acc]) := by
    rcases timesL_cases ht with rfl | rfl | rfl <;> rcases hp with rfl | rfl | rfl <;> cases m <;> rfl
  have j := lj_ok (h := h ++ [.lst acc]) (s := s) (e := tailD t p m) l1 l2 tl.1 (by omega)
  have hz : acc.length < 16777216 := by omega
  refine (seq_nx (δ1 := [x0, x1, x2, some (.ref h.length), x4, some (.str s), x6, some (.bl m), some (.str t), some (.str (aheadL.getD (timesL.idxOf t) [])), some (.int p), some (.str (tailD t p m)), x12]) (h1 := h ++ [.lst acc]) (by rw [ap_sAs, q]; rfl)).trans ?_
  simp [j, hz, dRow, deedW]
def tmD (t : List Nat) : D := .tup [.str t, .str (aheadL.getD (timesL.idxOf t) [])]
theorem dd_all {s : List Nat} (l1 : 1 ≤ s.length) (l2 : s.length ≤ 1000) :
    OkS (fun δ h' => (∃ x7 x8 x9 x10 x11, δ = [x0, some (.fls (casesL.map D.str)), x2, some (.ref h.length), x4, some (.str s), x6, x7, x8, x9, x10, x11, x12]) ∧ h' = h ++ [.lst (deedsL s)]) (sFor (eFl (aCons (eTup (aCons (eC (.str [110, 111, 119])) (aCons (eC (.str [])) aNil))) (aCons (eTup (aCons (eC (.str [112, 97, 115, 116])) (aCons (eC (.str [97, 114])) aNil))) (aCons (eTup (aCons (eC (.str [116, 111, 32, 99, 111, 109, 101])) (aCons (eC (.str [101, 118])) aNil))) aNil)))) (gT 2 (gCons (gN 8) (gCons (gN 9) gNil))) (b_law_5 lwS rollS ltS thingS thingsS ljS deedsS deedS lwhoS askS joinS lgS whoS madeS roundsS) [x0, some (.fls (casesL.map D.str)), x2, some (.ref h.length), x4, some (.str s), x6, x7, x8, x9, x10, x11, x12] (h ++ [.lst []])) := by
  have e0 : eFl (aCons (eTup (aCons (eC (.str [110, 111, 119])) (aCons (eC (.str [])) aNil))) (aCons (eTup (aCons (eC (.str [112, 97, 115, 116])) (aCons (eC (.str [97, 114])) aNil))) (aCons (eTup (aCons (eC (.str [116, 111, 32, 99, 111, 109, 101])) (aCons (eC (.str [101, 118])) aNil))) aNil))) [x0, some (.fls (casesL.map D.str)), x2, some (.ref h.length), x4, some (.str s), x6, x7, x8, x9, x10, x11, x12] (h ++ [.lst []]) = .ok (.fls (timesL.map tmD)) (h ++ [.lst []]) := rfl
  rw [ap_sFor, e0, thenS_ok, forX_fls]
  refine forT_ix tmD timesL (fun i δ h' => (∃ x7 x8 x9 x10 x11, δ = [x0, some (.fls (casesL.map D.str)), x2, some (.ref h.length), x4, some (.str s), x6, x7, x8, x9, x10, x11, x12]) ∧ h' = h ++ [.lst ((timesL.take i).flatMap (dRow3 s))]) ⟨⟨x7, x8, x9, x10, x11, rfl⟩, rfl⟩ fun i t δ h' hi q => ?_
  obtain ⟨⟨x7, x8, x9, x10, x11, rfl⟩, rfl⟩ := q
  refine ⟨_, _, rfl, .of ?_⟩
  have ht : t ∈ timesL := List.mem_of_getElem? hi
  have la := deedsL_len s i
  rw [take_succ_flat (dRow3 s) hi]
  generalize (timesL.take i).flatMap (dRow3 s) = acc at *
  show OkS _ (b_law_5 lwS rollS ltS thingS thingsS ljS deedsS deedS lwhoS askS joinS lgS whoS madeS roundsS [x0, some (.fls (casesL.map D.str)), x2, some (.ref h.length), x4, some (.str s), x6, x7, some (.str t), some (.str (aheadL.getD (timesL.idxOf t) [])), x10, x11, x12] (h ++ [.lst acc]))
  unfold b_law_5
  have e1 : eFl (aCons (eC (.int 1)) (aCons (eC (.int 2)) (aCons (eC (.int 3)) aNil))) [x0, some (.fls (casesL.map D.str)), x2, some (.ref h.length), x4, some (.str s), x6, x7, some (.str t), some (.str (aheadL.getD (timesL.idxOf t) [])), x10, x11, x12] (h ++ [.lst acc]) = .ok (.fls (perL.map D.int)) (h ++ [.lst acc]) := rfl
  rw [ap_sFor, e1, thenS_ok, forX_fls]
  have r := forT_ix (g := gN 10) (b := b_law_4 lwS rollS ltS thingS thingsS ljS deedsS deedS lwhoS askS joinS lgS whoS madeS roundsS) D.int perL (fun j δ h' => (∃ x7 x10 x11, δ = [x0, some (.fls (casesL.map D.str)), x2, some (.ref h.length), x4, some (.str s), x6, x7, some (.str t), some (.str (aheadL.getD (timesL.idxOf t) [])), x10, x11, x12]) ∧ h' = h ++ [.lst (acc ++ (perL.take j).flatMap (dRow2 s t))]) (δ := [x0, some (.fls (casesL.map D.str)), x2, some (.ref h.length), x4, some (.str s), x6, x7, some (.str t), some (.str (aheadL.getD (timesL.idxOf t) [])), x10, x11, x12]) (h := h ++ [.lst acc]) ⟨⟨x7, x10, x11, rfl⟩, by simp⟩ fun j p δ h' hj q => by
    obtain ⟨⟨x7, x10, x11, rfl⟩, rfl⟩ := q
    refine ⟨_, _, rfl, .of ?_⟩
    have hp : p ∈ perL := List.mem_of_getElem? hj
    have lb := dRow3_len s t j
    rw [take_succ_flat (dRow2 s t) hj, ← List.append_assoc]
    have lc : (acc ++ (perL.take j).flatMap (dRow2 s t)).length ≤ 24 := by rw [List.length_append]; omega
    generalize acc ++ (perL.take j).flatMap (dRow2 s t) = acc2 at *
    show OkS _ (b_law_4 lwS rollS ltS thingS thingsS ljS deedsS deedS lwhoS askS joinS lgS whoS madeS roundsS [x0, some (.fls (casesL.map D.str)), x2, some (.ref h.length), x4, some (.str s), x6, x7, some (.str t), some (.str (aheadL.getD (timesL.idxOf t) [])), some (.int p), x11, x12] (h ++ [.lst acc2]))
    unfold b_law_4
    have e1 : eFl (aCons (eC (.bl false)) (aCons (eC (.bl true)) aNil)) [x0, some (.fls (casesL.map D.str)), x2, some (.ref h.length), x4, some (.str s), x6, x7, some (.str t), some (.str (aheadL.getD (timesL.idxOf t) [])), some (.int p), x11, x12] (h ++ [.lst acc2]) = .ok (.fls (bothL.map D.bl)) (h ++ [.lst acc2]) := rfl
    rw [ap_sFor, e1, thenS_ok, forX_fls]
    have r := forT_ix (g := gN 7) (b := b_law_3 lwS rollS ltS thingS thingsS ljS deedsS deedS lwhoS askS joinS lgS whoS madeS roundsS) D.bl bothL (fun i δ h' => (∃ x7 x11, δ = [x0, some (.fls (casesL.map D.str)), x2, some (.ref h.length), x4, some (.str s), x6, x7, some (.str t), some (.str (aheadL.getD (timesL.idxOf t) [])), some (.int p), x11, x12]) ∧ h' = h ++ [.lst (acc2 ++ (bothL.take i).map (dRow s t p))]) (δ := [x0, some (.fls (casesL.map D.str)), x2, some (.ref h.length), x4, some (.str s), x6, x7, some (.str t), some (.str (aheadL.getD (timesL.idxOf t) [])), some (.int p), x11, x12]) (h := h ++ [.lst acc2]) ⟨⟨x7, x11, rfl⟩, by simp⟩ fun i m δ h' hi q => by
      obtain ⟨⟨x7, x11, rfl⟩, rfl⟩ := q
      have hl : ((bothL.take i).map (dRow s t p)).length ≤ 2 := by rw [List.length_map, List.length_take]; show min i 2 ≤ 2; omega
      refine ⟨_, _, rfl, .nx (dd_turn l1 l2 ht (perL_cases hp) (by rw [List.length_append]; omega)) ⟨⟨_, _, rfl⟩, ?_⟩⟩
      rw [List.take_add_one, hi]
      simp
    obtain ⟨δ2, h2, e2, ⟨x7', x11', rfl⟩, rfl⟩ := r.ex
    exact .nx e2 ⟨⟨_, _, _, rfl⟩, rfl⟩
  obtain ⟨δ2, h2, e2, ⟨x7', x10', x11', rfl⟩, rfl⟩ := r.ex
  exact .nx e2 ⟨⟨_, _, _, _, _, rfl⟩, rfl⟩
end
end K04
set_option Elab.async false
set_option linter.all false
set_option maxRecDepth 100000
set_option maxHeartbeats 4000000
namespace K04
open PySem FL
section
variable {h : VH} {x0 x1 x2 x3 x4 x5 x6 x7 x8 x9 x10 x11 x12 : Option D}
theorem rows_plain (w : List Nat) (k : Int) : (thingsL w k).all (plainD 11) = true := by
  rw [List.all_eq_true]
  intro d hd
  obtain ⟨c, _, hd⟩ := List.mem_flatMap.mp hd
  obtain ⟨m, _, rfl⟩ := List.mem_map.mp hd
  rfl
theorem rows_plain2 (w : List Nat) : (deedsL w).all (plainD 11) = true := by
  rw [List.all_eq_true]
  intro d hd
  obtain ⟨t, _, hd⟩ := List.mem_flatMap.mp hd
  obtain ⟨p, _, hd⟩ := List.mem_flatMap.mp hd
  obtain ⟨m, _, rfl⟩ := List.mem_map.mp hd
  rfl
theorem deedsL_all (w : List Nat) : (deedsL w).length ≤ 18 := by
  have h := deedsL_len w timesL.length
  rw [List.take_length] at h
  exact h
theorem row_check {w : List Nat} {n : Nat} (l1 : 1 ≤ w.length) (l2 : w.length ≤ 1000) (hn : h[n]? = some (.lst (deedsL w))) :
    FL.eLc (eV 3) (gN 12) (tV (FL.e2 cNe (eF deedS (aCons (eV 5) (aCons (FL.e2 oIx (eV 12) (eC (.int 1))) (aCons (FL.e2 oIx (eV 12) (eC (.int 2))) (aCons (FL.e2 oIx (eV 12) (eC (.int 3))) aNil))))) (FL.e2 oIx (eV 12) (eC (.int 0))))) (eV 12) [12] [x0, x1, x2, some (.ref n), x4, some (.str w), x6, x7, x8, x9, x10, x11, x12] h = .ok (.fls []) h := by
  rw [ap_eLc, ap_eV]
  show (Out.ok (D.ref n) h).bind _ = _
  rw [bind_ok, lcRef_mapE (α := D) id (fun _ => false) id (deedsL w) (by rw [List.map_id]; exact hn) (by have := deedsL_all w; omega) fun d hd => ?_]
  · simp
  · obtain ⟨t, ht, hd⟩ := List.mem_flatMap.mp hd
    obtain ⟨p, hp, hd⟩ := List.mem_flatMap.mp hd
    obtain ⟨m, _, rfl⟩ := List.mem_map.mp hd
    have j : deedS [.str w, .str t, .int p, .bl m] h = .ok (.str (deedW w t p m)) h := by
      show (if 1 ≤ w.length ∧ w.length ≤ 1000 ∧ (p = 1 ∨ p = 2 ∨ p = 3) then (if t ∈ timesL then Out.ok (D.str (deedW w t p m)) h else .err 0 none h) else .bad) = _
      rw [if_pos ⟨l1, l2, perL_cases hp⟩, if_pos ht]
    exact ⟨_, rfl, by simp [FL.wipe, dRow, atI, ixN, j], fun z => nomatch z⟩
def askR : List (List Nat) := [[107, 101, 108], [107, 101, 108, 111, 109], [107, 101, 108, 101, 115], [107, 101, 108, 117, 108]]
theorem ask_row : FL.eLc (eV 1) (gN 4) tYes (eF askS (aCons (eV 4) aNil)) [4] [x0, some (.fls (casesL.map D.str)), x2, x3, x4, x5, x6, x7, x8, x9, x10, x11, x12] h = .ok (.fls (askR.map D.str)) h := by
  rw [lcF_all (l := casesL) D.str (.inl rfl) (by decide) (fun c => D.str (askW c)) fun c hc => by
    have j : askS [.str c] h = .ok (.str (askW c)) h := if_pos hc
    simp [FL.wipe, j]]
  rfl
end
theorem body_ok (δ : DS) (h : VH) (j : Nat) (s : Dc) (hδ : δ.length = 13) (hc : δ[1]? = some (some (.fls (casesL.map D.str)))) (h2 : δ[2]? = some (some (.ref j))) (hj : j < h.length) : OkS (fun δ' h' => (δ'.length = 13 ∧ δ'[1]? = some (some (.fls (casesL.map D.str)))) ∧ ∃ s' g, h' = h.set j (dO s') ++ g) (b_law_6 lwS rollS ltS thingS thingsS ljS deedsS deedS lwhoS askS joinS lgS whoS madeS roundsS δ (h.set j (dO s))) := by
  obtain ⟨x0, x1, x2, x3, x4, x5, x6, x7, x8, x9, x10, x11, x12, rfl⟩ : ∃ x0 x1 x2 x3 x4 x5 x6 x7 x8 x9 x10 x11 x12 : Option D, δ = [x0, x1, x2, x3, x4, x5, x6, x7, x8, x9, x10, x11, x12] := by
    match δ, hδ with
    | [x0, x1, x2, x3, x4, x5, x6, x7, x8, x9, x10, x11, x12], _ => exact ⟨x0, x1, x2, x3, x4, x5, x6, x7, x8, x9, x10, x11, x12, rfl⟩
  have hx1 : x1 = some (.fls (casesL.map D.str)) := Option.some.inj hc
  have hx2 : x2 = some (.ref j) := Option.some.inj h2
  subst hx1
  subst hx2
  clear hc h2 hδ
  unfold b_law_6
  have hw := lw_word (m := 3) s (by decide) (by decide)
  have hw15 : (lwW (3 : Nat) s).1.length ≤ 15 := by
    have hr := rN_lt (s := s) (m := 3) (by decide)
    have := (lwAt_len (dNext s (3 : Nat)) (1 + rN s (3 : Nat))).2.1
    show (lwAt (dNext s (3 : Nat)) (1 + rN s (3 : Nat))).1.length ≤ 15
    omega
  have l1 := lwS_set (m := 3) (s := s) hj (by decide) (by decide)
  have r1 := rollS_set (s := (lwW 3 s).2) (m := 2) hj (by decide) (by decide)
  have hk : dVal (lwW 3 s).2 2 = 0 ∨ dVal (lwW 3 s).2 2 = 1 := by
    have a := dVal_lo (s := (lwW 3 s).2) (m := 2) (by decide)
    have b := dVal_hi (s := (lwW 3 s).2) (m := 2) (by decide)
    omega
  have e3 : ((3 : Nat) : Int) = 3 := rfl
  rw [e3] at hw hw15
  generalize dNext (lwW 3 s).2 2 = s2 at *
  generalize dVal (lwW 3 s).2 2 = k at *
  generalize (lwW 3 s).2 = s1 at *
  generalize (lwW 3 s).1 = w at *
  have wl := isWord_len hw
  have w1 : 1 ≤ w.length := wl.1
  have w2 : w.length ≤ 1000 := by omega
  have hlen : (h.set j (dO s2)).length = h.length := List.length_set
  refine .seq (δ1 := [x0, some (.fls (casesL.map D.str)), some (.ref j), x3, x4, some (.str w), some (.int k), x7, x8, x9, x10, x11, x12]) (h1 := (h.set j (dO s2))) (by simp [l1, r1]) ?_
  refine .seq (δ1 := [x0, some (.fls (casesL.map D.str)), some (.ref j), some (.ref h.length), x4, some (.str w), some (.int k), x7, x8, x9, x10, x11, x12]) (h1 := (h.set j (dO s2)) ++ [.lst []]) (by simp) ?_
  have qa := th_all (h := (h.set j (dO s2))) (x0 := x0) (x2 := some (.ref j)) (x4 := x4) (x7 := x7) (x8 := x8) (x9 := x9) (x10 := x10) (x11 := x11) (x12 := x12) w1 w2 hk
  rw [hlen] at qa
  obtain ⟨δ', h', ea, ⟨x4, x7, rfl⟩, rfl⟩ := qa.ex
  refine .seq ea ?_
  clear ea
  have hAlen : ((h.set j (dO s2)) ++ [O.lst (thingsL w k)]).length = h.length + 1 := by simp
  have hA : (((h.set j (dO s2)) ++ [O.lst (thingsL w k)]))[h.length]? = some (.lst (thingsL w k)) := by
    rw [← hlen]
    exact List.getElem?_concat_length
  have t1 : thingsS [.str w, .int k] ((h.set j (dO s2)) ++ [O.lst (thingsL w k)]) = .ok (.tup (thingsL w k)) ((h.set j (dO s2)) ++ [O.lst (thingsL w k)]) := if_pos ⟨w1, w2, hk⟩
  have c1 := cNe_lists (x := .fls (thingsL w k)) (y := .ref h.length) (h := ((h.set j (dO s2)) ++ [O.lst (thingsL w k)])) rfl (by simp [lsOf, hA]) (rows_plain w k)
  refine .seq (δ1 := [x0, some (.fls (casesL.map D.str)), some (.ref j), some (.ref h.length), x4, some (.str w), some (.int k), x7, x8, x9, x10, x11, x12]) (h1 := ((h.set j (dO s2)) ++ [O.lst (thingsL w k)])) (by
    generalize ((h.set j (dO s2)) ++ [O.lst (thingsL w k)]) = HA at *
    simp [t1, c1]) ?_
  refine .seq (δ1 := [x0, some (.fls (casesL.map D.str)), some (.ref j), some (.ref (h.length + 1)), x4, some (.str w), some (.int k), x7, x8, x9, x10, x11, x12]) (h1 := ((h.set j (dO s2)) ++ [O.lst (thingsL w k)]) ++ [.lst []]) (by
    rw [← hAlen]
    rfl) ?_
  have qb := dd_all (h := ((h.set j (dO s2)) ++ [O.lst (thingsL w k)])) (x0 := x0) (x2 := some (.ref j)) (x4 := x4) (x6 := some (.int k)) (x7 := x7) (x8 := x8) (x9 := x9) (x10 := x10) (x11 := x11) (x12 := x12) w1 w2
  rw [hAlen] at qb
  obtain ⟨δ', h', eb, ⟨x7, x8, x9, x10, x11, rfl⟩, rfl⟩ := qb.ex
  refine .seq eb ?_
  clear eb
  have hB : ((((h.set j (dO s2)) ++ [O.lst (thingsL w k)]) ++ [O.lst (deedsL w)]))[h.length + 1]? = some (.lst (deedsL w)) := by
    rw [← hAlen]
    exact List.getElem?_concat_length
  have d1 : deedsS [.str w] (((h.set j (dO s2)) ++ [O.lst (thingsL w k)]) ++ [O.lst (deedsL w)]) = .ok (.tup (deedsL w)) (((h.set j (dO s2)) ++ [O.lst (thingsL w k)]) ++ [O.lst (deedsL w)]) := if_pos ⟨w1, w2⟩
  have c2 := cNe_lists (x := .fls (deedsL w)) (y := .ref (h.length + 1)) (h := (((h.set j (dO s2)) ++ [O.lst (thingsL w k)]) ++ [O.lst (deedsL w)])) rfl (by simp [lsOf, hB]) (rows_plain2 w)
  have rc := row_check (h := (((h.set j (dO s2)) ++ [O.lst (thingsL w k)]) ++ [O.lst (deedsL w)])) (x0 := x0) (x1 := some (.fls (casesL.map D.str))) (x2 := some (.ref j)) (x4 := x4) (x6 := some (.int k)) (x7 := x7) (x8 := x8) (x9 := x9) (x10 := x10) (x11 := x11) (x12 := x12) w1 w2 hB
  have ar := ask_row (h := (((h.set j (dO s2)) ++ [O.lst (thingsL w k)]) ++ [O.lst (deedsL w)])) (x0 := x0) (x2 := some (.ref j)) (x3 := some (.ref (h.length + 1))) (x4 := x4) (x5 := some (.str w)) (x6 := some (.int k)) (x7 := x7) (x8 := x8) (x9 := x9) (x10 := x10) (x11 := x11) (x12 := x12)
  have wh : lwhoS [.fls (casesL.map D.str)] (((h.set j (dO s2)) ++ [O.lst (thingsL w k)]) ++ [O.lst (deedsL w)]) = .ok (.bl true) (((h.set j (dO s2)) ++ [O.lst (thingsL w k)]) ++ [O.lst (deedsL w)]) := by
    show (match allT (casesL.map D.str) with
      | some l => if l = casesL then Out.ok (D.bl true) (((h.set j (dO s2)) ++ [O.lst (thingsL w k)]) ++ [O.lst (deedsL w)]) else .bad
      | none => .bad) = _
    rw [allT_strs]
    rfl
  have c3 := cNe_strs (l := askR) (l' := askR) (h := (((h.set j (dO s2)) ++ [O.lst (thingsL w k)]) ++ [O.lst (deedsL w)]))
  have c3' : cNe (.fls (askR.map D.str)) (.fls [.str [107, 101, 108], .str [107, 101, 108, 111, 109], .str [107, 101, 108, 101, 115], .str [107, 101, 108, 117, 108]]) (((h.set j (dO s2)) ++ [O.lst (thingsL w k)]) ++ [O.lst (deedsL w)]) = some (.bl (!decide (askR = askR)), (((h.set j (dO s2)) ++ [O.lst (thingsL w k)]) ++ [O.lst (deedsL w)])) := c3
  have jn : joinS [.str w, .str []] (((h.set j (dO s2)) ++ [O.lst (thingsL w k)]) ++ [O.lst (deedsL w)]) = .ok (.str w) (((h.set j (dO s2)) ++ [O.lst (thingsL w k)]) ++ [O.lst (deedsL w)]) := join_ok w1 w2 (by decide)
  have lg : lgS [.ref j, .str w] (((h.set j (dO s2)) ++ [O.lst (thingsL w k)]) ++ [O.lst (deedsL w)]) = .ok (.bl true) (h.set j (dO (lgNxt s2)) ++ [O.lst (thingsL w k)] ++ [O.lst (deedsL w)]) := by
    have q := lg_set (j := j) (stem := w) (h := h ++ [O.lst (thingsL w k)] ++ [O.lst (deedsL w)]) (s := s2) (by simp; omega) hw hw15
    rw [set_app (by simp; omega), set_app hj, set_app (by simp; omega), set_app hj] at q
    exact q
  refine .seq (δ1 := [x0, some (.fls (casesL.map D.str)), some (.ref j), some (.ref (h.length + 1)), x4, some (.str w), some (.int k), x7, x8, x9, x10, x11, x12]) (h1 := (((h.set j (dO s2)) ++ [O.lst (thingsL w k)]) ++ [O.lst (deedsL w)])) (by
    clear rc ar c3 c3'
    generalize (((h.set j (dO s2)) ++ [O.lst (thingsL w k)]) ++ [O.lst (deedsL w)]) = HB at *
    simp [d1, c2]) ?_
  refine .seq (δ1 := [x0, some (.fls (casesL.map D.str)), some (.ref j), some (.ref (h.length + 1)), x4, some (.str w), some (.int k), x7, x8, x9, x10, x11, x12]) (h1 := (((h.set j (dO s2)) ++ [O.lst (thingsL w k)]) ++ [O.lst (deedsL w)])) (by
    have ce : cNe (.fls []) (.fls []) (((h.set j (dO s2)) ++ [O.lst (thingsL w k)]) ++ [O.lst (deedsL w)]) = some (.bl false, (((h.set j (dO s2)) ++ [O.lst (thingsL w k)]) ++ [O.lst (deedsL w)])) := rfl
    rw [ap_sIf, ap_tV, ap_e2, rc, bind_ok]
    generalize (((h.set j (dO s2)) ++ [O.lst (thingsL w k)]) ++ [O.lst (deedsL w)]) = HB at *
    simp [ce]) ?_
  refine .seq (δ1 := [x0, some (.fls (casesL.map D.str)), some (.ref j), some (.ref (h.length + 1)), x4, some (.str w), some (.int k), x7, x8, x9, x10, x11, x12]) (h1 := (((h.set j (dO s2)) ++ [O.lst (thingsL w k)]) ++ [O.lst (deedsL w)])) (by
    clear rc ar c3 c3' lg
    generalize (((h.set j (dO s2)) ++ [O.lst (thingsL w k)]) ++ [O.lst (deedsL w)]) = HB at *
    simp [-List.map_cons, wh]) ?_
  refine .seq (δ1 := [x0, some (.fls (casesL.map D.str)), some (.ref j), some (.ref (h.length + 1)), x4, some (.str w), some (.int k), x7, x8, x9, x10, x11, x12]) (h1 := (((h.set j (dO s2)) ++ [O.lst (thingsL w k)]) ++ [O.lst (deedsL w)])) (by
    rw [ap_sIf, ap_tOr, ap_tV, ap_e2, ar, bind_ok]
    clear rc ar lg
    generalize (((h.set j (dO s2)) ++ [O.lst (thingsL w k)]) ++ [O.lst (deedsL w)]) = HB at *
    simp [c3', jn]) ?_
  refine .seq (δ1 := [x0, some (.fls (casesL.map D.str)), some (.ref j), some (.ref (h.length + 1)), x4, some (.str w), some (.int k), x7, x8, x9, x10, x11, x12]) (h1 := (h.set j (dO (lgNxt s2)) ++ [O.lst (thingsL w k)] ++ [O.lst (deedsL w)])) (by
    clear rc ar c3 c3'
    generalize (((h.set j (dO s2)) ++ [O.lst (thingsL w k)]) ++ [O.lst (deedsL w)]) = HB at *
    simp [lg]) ?_
  have fin : ∃ s' g, (h.set j (dO (lgNxt s2)) ++ [O.lst (thingsL w k)] ++ [O.lst (deedsL w)]) = h.set j (dO s') ++ g := ⟨_, _, List.append_assoc _ _ _⟩
  generalize (h.set j (dO (lgNxt s2)) ++ [O.lst (thingsL w k)] ++ [O.lst (deedsL w)]) = HC at *
  have t0 : tellH sub 0 HC tells = .ok (.str [119, 111, 114, 100]) HC := rfl
  have b1 : thingS [.str w, .int 2, .str [100, 111, 101, 114], .bl false] HC = .err 0 none HC := by
    show (if 1 ≤ w.length ∧ w.length ≤ 1000 then (if ((2 : Int) = 0 ∨ (2 : Int) = 1) ∧ [100, 111, 101, 114] ∈ casesL then Out.ok (D.str (thingW w 2 [100, 111, 101, 114] false)) HC else .err 0 none HC) else .bad) = _
    rw [if_pos ⟨w1, w2⟩, if_neg (by decide)]
  have b2 : deedS [.str w, .str [101, 118, 101, 114], .int 1, .bl false] HC = .err 0 none HC := by
    show (if 1 ≤ w.length ∧ w.length ≤ 1000 ∧ ((1 : Int) = 1 ∨ (1 : Int) = 2 ∨ (1 : Int) = 3) then (if [101, 118, 101, 114] ∈ timesL then Out.ok (D.str (deedW w [101, 118, 101, 114] 1 false)) HC else .err 0 none HC) else .bad) = _
    rw [if_pos ⟨w1, w2, .inl rfl⟩, if_neg (by decide)]
  have b3 : whoS [.str [115, 117], .str [100, 111, 101, 114], .bl false] HC = .err 0 none HC := rfl
  have b4 : madeS [.str w, .str [117, 109]] HC = .err 0 none HC := by
    show (if isWord w = true ∧ [117, 109].length ≤ 1000 then (if [117, 109] ∈ waysL then Out.ok (D.str (madeW w [117, 109])) HC else .err 0 none HC) else .bad) = _
    rw [if_pos ⟨hw, by decide⟩, if_neg (by decide)]
  refine .seq (δ1 := [x0, some (.fls (casesL.map D.str)), some (.ref j), some (.ref (h.length + 1)), x4, some (.str w), some (.int k), x7, x8, x9, x10, x11, x12]) (h1 := HC) (by simp [b1, t0]) ?_
  refine .seq (δ1 := [x0, some (.fls (casesL.map D.str)), some (.ref j), some (.ref (h.length + 1)), x4, some (.str w), some (.int k), x7, x8, x9, x10, x11, x12]) (h1 := HC) (by simp [b2, t0]) ?_
  refine .seq (δ1 := [x0, some (.fls (casesL.map D.str)), some (.ref j), some (.ref (h.length + 1)), x4, some (.str w), some (.int k), x7, x8, x9, x10, x11, x12]) (h1 := HC) (by simp [b3, t0]) ?_
  exact .nx (δ := [x0, some (.fls (casesL.map D.str)), some (.ref j), some (.ref (h.length + 1)), x4, some (.str w), some (.int k), x7, x8, x9, x10, x11, x12]) (h := HC) (by simp [b4, t0]) ⟨⟨rfl, rfl⟩, fin⟩
end K04
set_option Elab.async false
set_option linter.all false
set_option maxRecDepth 100000
set_option maxHeartbeats 4000000
noncomputable section
namespace K04
open PySem FL
open PySem.Spec PyProof.Rows L2
/-! ### what the top has written -/
structure AllF (K : PySem.W.Frag) (w : World) (mg : Str → Option Value) (g : Gc) (cs : List (Addr × Addr)) : Prop where
  f_is_word : KeyD K mg g cs "is_word" s_is_word ["thing"] (PySem.Str.ofString "is_word.<locals>.<genexpr>")
  f_is_stem : ∃ f fd, L2.Fun K "is_stem" "is_stem" s_is_stem f fd ∧ mg "is_stem" = some (.ref f) ∧ Binds K fd ["thing"] []
  f_joined : ∃ f fd, L2.Fun K "joined" "joined" s_joined f fd ∧ mg "joined" = some (.ref f) ∧ Binds K fd ["stem", "ending"] []
  f_thing_form : ∃ f fd, L2.Fun K "thing_form" "thing_form" s_thing_form f fd ∧ mg "thing_form" = some (.ref f) ∧ Binds K fd ["stem", "kind", "case", "many"] []
  f_deed_form : ∃ f fd, L2.Fun K "deed_form" "deed_form" s_deed_form f fd ∧ mg "deed_form" = some (.ref f) ∧ Binds K fd ["stem", "time", "person", "many"] []
  f_who_form : ∃ f fd, L2.Fun K "who_form" "who_form" s_who_form f fd ∧ mg "who_form" = some (.ref f) ∧ Binds K fd ["who", "case", "many"] []
  f_forms_of_thing : ∃ f fd, L2.Fun K "forms_of_thing" "forms_of_thing" s_forms_of_thing f fd ∧ mg "forms_of_thing" = some (.ref f) ∧ Binds K fd ["stem", "kind"] []
  f_forms_of_deed : ∃ f fd, L2.Fun K "forms_of_deed" "forms_of_deed" s_forms_of_deed f fd ∧ mg "forms_of_deed" = some (.ref f) ∧ Binds K fd ["stem"] []
  f_asked_form : ∃ f fd, L2.Fun K "asked_form" "asked_form" s_asked_form f fd ∧ mg "asked_form" = some (.ref f) ∧ Binds K fd ["case"] []
  f_made_of : ∃ f fd, L2.Fun K "made_of" "made_of" s_made_of f fd ∧ mg "made_of" = some (.ref f) ∧ Binds K fd ["stem", "way"] []
  f_grown : ∃ f fd, L2.Fun K "grown" "grown" s_grown f fd ∧ mg "grown" = some (.ref f) ∧ Binds K fd ["stem", "ways"] []
  f_taken_apart : KeyD K mg g cs "taken_apart" s_taken_apart ["stems", "word"] (PySem.Str.ofString "taken_apart.<locals>.<genexpr>")
  f_law_dice : ∃ f fd, L2.Fun K "_law_dice" "_law_dice" s_law_dice f fd ∧ mg "_law_dice" = some (.ref f) ∧ Binds K fd ["cell"] []
  f_law_roll : ∃ f fd, L2.Fun K "_law_roll" "_law_roll" s_law_roll f fd ∧ mg "_law_roll" = some (.ref f) ∧ Binds K fd ["dice", "many"] []
  f_law_rounds : ∃ f fd, L2.Fun K "_law_rounds" "_law_rounds" s_law_rounds f fd ∧ mg "_law_rounds" = some (.ref f) ∧ Binds K fd ["script", "most"] []
  f_law_word : ∃ f fd, L2.Fun K "_law_word" "_law_word" s_law_word f fd ∧ mg "_law_word" = some (.ref f) ∧ Binds K fd ["dice", "most"] []
  f_law_joined : ∃ f fd, L2.Fun K "_law_joined" "_law_joined" s_law_joined f fd ∧ mg "_law_joined" = some (.ref f) ∧ Binds K fd ["stem", "ending"] []
  f_law_thing : ∃ f fd, L2.Fun K "_law_thing" "_law_thing" s_law_thing f fd ∧ mg "_law_thing" = some (.ref f) ∧ Binds K fd ["stem", "kind", "case", "many"] []
  f_law_grown : ∃ f fd, L2.Fun K "_law_grown" "_law_grown" s_law_grown f fd ∧ mg "_law_grown" = some (.ref f) ∧ Binds K fd ["dice", "stem"] []
  f_law_who : ∃ f fd, L2.Fun K "_law_who" "_law_who" s_law_who f fd ∧ mg "_law_who" = some (.ref f) ∧ Binds K fd ["cases"] []
  T_law_told : Teller K mg g "_law_told" "what" s_law_told ["what"] tells
  n_isinstance : mg "isinstance" = none
  n_str : mg "str" = none
  n_len : mg "len" = none
  n_all : mg "all" = none
  n_any : mg "any" = none
  n_tuple : mg "tuple" = none
  n_range : mg "range" = none
  n_sorted : mg "sorted" = none
  n_abs : mg "abs" = none
  n_int : mg "int" = none
  n_list : mg "list" = none
  C_VOWELS : Cst K mg "VOWELS" c_VOWELS
  C_OTHERS : Cst K mg "OTHERS" c_OTHERS
  C_CASES : Cst K mg "CASES" c_CASES
  C_TIMES : Cst K mg "TIMES" c_TIMES
  C_PERSONS : Cst K mg "PERSONS" c_PERSONS
  C_WHO : Cst K mg "WHO" c_WHO
  C_SMALL : Cst K mg "SMALL" c_SMALL
  D_ENDINGS : WD K w mg "ENDINGS" c_ENDINGS
  D_AHEAD : WD K w mg "AHEAD" c_AHEAD
  e_BadWord : Er K mg g 0 "BadWord"
  e_BadBook : Er K mg g 1 "BadBook"
  e_NoWay : Er K mg g 2 "NoWay"
  e_TooLarge : Er K mg g 3 "TooLarge"
  hsub : Subs K g sub
def F_law : List FL.D → VH → Out FL.D := runF 1 13 (b_law lwS rollS ltS thingS thingsS ljS deedsS deedS lwhoS askS joinS lgS whoS madeS roundsS)
theorem law_run0 {x : FL.D} {h : VH} {ns : List Int} (hx : lsOf x h = some (ns.map FL.D.int)) (hl : ns.length ≤ 63) : ∃ h', F_law [x] h = .ok (.bl true) h' := by
  obtain ⟨δ', h', e⟩ := rounds_for (N := 13) (d := 2) (m := 4) (body := b_law_6 lwS rollS ltS thingS thingsS ljS deedsS deedS lwhoS askS joinS lgS whoS madeS roundsS) (fun δ => δ[1]? = some (some (FL.D.fls (casesL.map FL.D.str)))) (by decide) (fun δ x e => by rw [List.getElem?_set_ne (by decide)]; exact e) (fun δ h j s a b c d => body_ok δ h j s a b c d) (x := x) (h := h) (δ := [some x, some (.fls (casesL.map FL.D.str)), none, none, none, none, none, none, none, none, none, none, none]) hx hl rfl rfl rfl
  refine ⟨h', ?_⟩
  have run : F_law [x] h = endF (b_law lwS rollS ltS thingS thingsS ljS deedsS deedS lwhoS askS joinS lgS whoS madeS roundsS [some x, none, none, none, none, none, none, none, none, none, none, none, none] h) := rfl
  rw [run]
  unfold b_law
  refine run_nx (δ1 := [some x, some (.fls (casesL.map FL.D.str)), none, none, none, none, none, none, none, none, none, none, none]) (h1 := h) rfl ?_
  refine run_nx e ?_
  simp
theorem law_true : ∀ ns : List Int, ns.length ≤ 63 → (∃ h', F_law [.fls (ns.map FL.D.int)] [] = .ok (.bl true) h') ∧ ∃ h', F_law [.ref 0] [.lst (ns.map FL.D.int)] = .ok (.bl true) h' :=
  fun ns hl => law_both (F := F_law) (fun x h ns hx hl => law_run0 hx hl) ns hl
def tnames : List Str := ["law", "is_word", "taken_apart"]
theorem all_mk {l : PySem.W.OpenLaw} {w : World} {K : PySem.W.Frag} {h : Heap} {mg : Str → Option Value} {fa : Addr} (X : K.In h) (G : h.Ns mainGlobals mg) (hfa : mg "law" = some (.ref fa)) (own : AllTab K mg tnames h)
    {cc0 Pt0 f0 f1 f2 f3 f4 f5 f6 f7 f8 f9 f10 cc11 Pt11 f11 f12 f13 f14 f15 f16 f17 f18 f19 f20 v_CASES v_TIMES v_PERSONS v_WHO v_SMALL v_ENDINGS_0 v_ENDINGS_1 v_ENDINGS v_AHEAD C0 C1 C2 C3 fl cl Pt : Addr} {ob0 ob11 ocb : Obj} {vs0 vs11 i_CASES i_TIMES i_PERSONS i_WHO i_SMALL i_ENDINGS_0 i_ENDINGS_1 vsl : Array Value} {od0 an0 od1 an1 od2 an2 od3 an3 od4 an4 od5 an5 od6 an6 od7 an7 od8 an8 od9 an9 od10 an10 od11 an11 od12 an12 od13 an13 od14 an14 od15 an15 od16 an16 od17 an17 od18 an18 od19 an19 od20 an20 odl anl : Option Addr} {sl0 sl1 sl2 sl3 sl4 sl5 sl6 sl7 sl8 sl9 sl10 sl11 sl12 sl13 sl14 sl15 sl16 sl17 sl18 sl19 sl20 s_CASES s_TIMES s_PERSONS s_WHO s_SMALL s_ENDINGS_0 s_ENDINGS_1 sll : Array (Option Value)} {oc0 kV0 dc0 pm0 ct0 oc1 kV1 dc1 pm1 ct1 cd1 oc2 kV2 dc2 pm2 ct2 cd2 oc3 kV3 dc3 pm3 ct3 cd3 oc4 kV4 dc4 pm4 ct4 cd4 oc5 kV5 dc5 pm5 ct5 cd5 oc6 kV6 dc6 pm6 ct6 cd6 oc7 kV7 dc7 pm7 ct7 cd7 oc8 kV8 dc8 pm8 ct8 cd8 oc9 kV9 dc9 pm9 ct9 cd9 oc10 kV10 dc10 pm10 ct10 cd10 oc11 kV11 dc11 pm11 ct11 oc12 kV12 dc12 pm12 ct12 cd12 oc13 kV13 dc13 pm13 ct13 cd13 oc14 kV14 dc14 pm14 ct14 cd14 oc15 kV15 dc15 pm15 ct15 cd15 oc16 kV16 dc16 pm16 ct16 cd16 oc17 kV17 dc17 pm17 ct17 cd17 oc18 kV18 dc18 pm18 ct18 cd18 oc19 kV19 dc19 pm19 ct19 cd19 oc20 kV20 dc20 pm20 ct20 cd20 ocl kVl dcl pml ctl : Value} {t_VOWELS t_OTHERS t_CASES_0 t_CASES_1 t_CASES_2 t_CASES_3 t_TIMES_0 t_TIMES_1 t_TIMES_2 t_PERSONS_0 t_PERSONS_1 t_PERSONS_2 t_PERSONS_3 t_PERSONS_4 t_PERSONS_5 t_WHO_0 t_WHO_1 t_WHO_2 t_WHO_3 t_SMALL_0 t_SMALL_1 t_SMALL_2 t_ENDINGS_0_0 t_ENDINGS_0_1 t_ENDINGS_0_2 t_ENDINGS_0_3 k_ENDINGS_0 t_ENDINGS_1_0 t_ENDINGS_1_1 t_ENDINGS_1_2 t_ENDINGS_1_3 k_ENDINGS_1 t_AHEAD_0 k_AHEAD_0 t_AHEAD_1 k_AHEAD_1 t_AHEAD_2 k_AHEAD_2 : Tok} {n_CASES n_TIMES n_PERSONS n_WHO n_SMALL n_ENDINGS_0 n_ENDINGS_1 n_ENDINGS n_AHEAD : Nat} {i_ENDINGS i_AHEAD : Array DictEntry}
    (a0 : PySem.W.nsIn K mainGlobals "is_word" = some (some (.ref f0)))
    (l0 : K.lookup f0 = some ⟨oc0, od0, .func (PySem.W.fnOf "is_word" "is_word" (defArgs s_is_word) (defBody s_is_word) (defScope s_is_word) .none kV0 dc0 pm0 an0 (.ref cc0) ct0), sl0⟩)
    (c0 : PySem.W.codeIn K (.ref cc0) "is_word" = true)
    (k0 : PySem.W.keepIn K (.ref f0) = true)
    (lc0 : K.lookup cc0 = some ob0)
    (do0 : ob0.data = .fields vs0)
    (v0 : vs0[11]? = some (.ref Pt0))
    (h0 : PySem.W.codeHdIn K cc0 Pt0 = true)
    (p0 : K.lookup Pt0 = none)
    (a1 : PySem.W.nsIn K mainGlobals "is_stem" = some (some (.ref f1)))
    (l1 : K.lookup f1 = some ⟨oc1, od1, .func (PySem.W.fnOf "is_stem" "is_stem" (defArgs s_is_stem) (defBody s_is_stem) (defScope s_is_stem) .none kV1 dc1 pm1 an1 cd1 ct1), sl1⟩)
    (c1 : PySem.W.codeIn K cd1 "is_stem" = true)
    (k1 : PySem.W.keepIn K (.ref f1) = true)
    (a2 : PySem.W.nsIn K mainGlobals "joined" = some (some (.ref f2)))
    (l2 : K.lookup f2 = some ⟨oc2, od2, .func (PySem.W.fnOf "joined" "joined" (defArgs s_joined) (defBody s_joined) (defScope s_joined) .none kV2 dc2 pm2 an2 cd2 ct2), sl2⟩)
    (c2 : PySem.W.codeIn K cd2 "joined" = true)
    (k2 : PySem.W.keepIn K (.ref f2) = true)
    (a3 : PySem.W.nsIn K mainGlobals "thing_form" = some (some (.ref f3)))
    (l3 : K.lookup f3 = some ⟨oc3, od3, .func (PySem.W.fnOf "thing_form" "thing_form" (defArgs s_thing_form) (defBody s_thing_form) (defScope s_thing_form) .none kV3 dc3 pm3 an3 cd3 ct3), sl3⟩)
    (c3 : PySem.W.codeIn K cd3 "thing_form" = true)
    (k3 : PySem.W.keepIn K (.ref f3) = true)
    (a4 : PySem.W.nsIn K mainGlobals "deed_form" = some (some (.ref f4)))
    (l4 : K.lookup f4 = some ⟨oc4, od4, .func (PySem.W.fnOf "deed_form" "deed_form" (defArgs s_deed_form) (defBody s_deed_form) (defScope s_deed_form) .none kV4 dc4 pm4 an4 cd4 ct4), sl4⟩)
    (c4 : PySem.W.codeIn K cd4 "deed_form" = true)
    (k4 : PySem.W.keepIn K (.ref f4) = true)
    (a5 : PySem.W.nsIn K mainGlobals "who_form" = some (some (.ref f5)))
    (l5 : K.lookup f5 = some ⟨oc5, od5, .func (PySem.W.fnOf "who_form" "who_form" (defArgs s_who_form) (defBody s_who_form) (defScope s_who_form) .none kV5 dc5 pm5 an5 cd5 ct5), sl5⟩)
    (c5 : PySem.W.codeIn K cd5 "who_form" = true)
    (k5 : PySem.W.keepIn K (.ref f5) = true)
    (a6 : PySem.W.nsIn K mainGlobals "forms_of_thing" = some (some (.ref f6)))
    (l6 : K.lookup f6 = some ⟨oc6, od6, .func (PySem.W.fnOf "forms_of_thing" "forms_of_thing" (defArgs s_forms_of_thing) (defBody s_forms_of_thing) (defScope s_forms_of_thing) .none kV6 dc6 pm6 an6 cd6 ct6), sl6⟩)
    (c6 : PySem.W.codeIn K cd6 "forms_of_thing" = true)
    (k6 : PySem.W.keepIn K (.ref f6) = true)
    (a7 : PySem.W.nsIn K mainGlobals "forms_of_deed" = some (some (.ref f7)))
    (l7 : K.lookup f7 = some ⟨oc7, od7, .func (PySem.W.fnOf "forms_of_deed" "forms_of_deed" (defArgs s_forms_of_deed) (defBody s_forms_of_deed) (defScope s_forms_of_deed) .none kV7 dc7 pm7 an7 cd7 ct7), sl7⟩)
    (c7 : PySem.W.codeIn K cd7 "forms_of_deed" = true)
    (k7 : PySem.W.keepIn K (.ref f7) = true)
    (a8 : PySem.W.nsIn K mainGlobals "asked_form" = some (some (.ref f8)))
    (l8 : K.lookup f8 = some ⟨oc8, od8, .func (PySem.W.fnOf "asked_form" "asked_form" (defArgs s_asked_form) (defBody s_asked_form) (defScope s_asked_form) .none kV8 dc8 pm8 an8 cd8 ct8), sl8⟩)
    (c8 : PySem.W.codeIn K cd8 "asked_form" = true)
    (k8 : PySem.W.keepIn K (.ref f8) = true)
    (a9 : PySem.W.nsIn K mainGlobals "made_of" = some (some (.ref f9)))
    (l9 : K.lookup f9 = some ⟨oc9, od9, .func (PySem.W.fnOf "made_of" "made_of" (defArgs s_made_of) (defBody s_made_of) (defScope s_made_of) .none kV9 dc9 pm9 an9 cd9 ct9), sl9⟩)
    (c9 : PySem.W.codeIn K cd9 "made_of" = true)
    (k9 : PySem.W.keepIn K (.ref f9) = true)
    (a10 : PySem.W.nsIn K mainGlobals "grown" = some (some (.ref f10)))
    (l10 : K.lookup f10 = some ⟨oc10, od10, .func (PySem.W.fnOf "grown" "grown" (defArgs s_grown) (defBody s_grown) (defScope s_grown) .none kV10 dc10 pm10 an10 cd10 ct10), sl10⟩)
    (c10 : PySem.W.codeIn K cd10 "grown" = true)
    (k10 : PySem.W.keepIn K (.ref f10) = true)
    (a11 : PySem.W.nsIn K mainGlobals "taken_apart" = some (some (.ref f11)))
    (l11 : K.lookup f11 = some ⟨oc11, od11, .func (PySem.W.fnOf "taken_apart" "taken_apart" (defArgs s_taken_apart) (defBody s_taken_apart) (defScope s_taken_apart) .none kV11 dc11 pm11 an11 (.ref cc11) ct11), sl11⟩)
    (c11 : PySem.W.codeIn K (.ref cc11) "taken_apart" = true)
    (k11 : PySem.W.keepIn K (.ref f11) = true)
    (lc11 : K.lookup cc11 = some ob11)
    (do11 : ob11.data = .fields vs11)
    (v11 : vs11[11]? = some (.ref Pt11))
    (h11 : PySem.W.codeHdIn K cc11 Pt11 = true)
    (p11 : K.lookup Pt11 = none)
    (a12 : PySem.W.nsIn K mainGlobals "_law_dice" = some (some (.ref f12)))
    (l12 : K.lookup f12 = some ⟨oc12, od12, .func (PySem.W.fnOf "_law_dice" "_law_dice" (defArgs s_law_dice) (defBody s_law_dice) (defScope s_law_dice) .none kV12 dc12 pm12 an12 cd12 ct12), sl12⟩)
    (c12 : PySem.W.codeIn K cd12 "_law_dice" = true)
    (k12 : PySem.W.keepIn K (.ref f12) = true)
    (a13 : PySem.W.nsIn K mainGlobals "_law_roll" = some (some (.ref f13)))
    (l13 : K.lookup f13 = some ⟨oc13, od13, .func (PySem.W.fnOf "_law_roll" "_law_roll" (defArgs s_law_roll) (defBody s_law_roll) (defScope s_law_roll) .none kV13 dc13 pm13 an13 cd13 ct13), sl13⟩)
    (c13 : PySem.W.codeIn K cd13 "_law_roll" = true)
    (k13 : PySem.W.keepIn K (.ref f13) = true)
    (a14 : PySem.W.nsIn K mainGlobals "_law_rounds" = some (some (.ref f14)))
    (l14 : K.lookup f14 = some ⟨oc14, od14, .func (PySem.W.fnOf "_law_rounds" "_law_rounds" (defArgs s_law_rounds) (defBody s_law_rounds) (defScope s_law_rounds) .none kV14 dc14 pm14 an14 cd14 ct14), sl14⟩)
    (c14 : PySem.W.codeIn K cd14 "_law_rounds" = true)
    (k14 : PySem.W.keepIn K (.ref f14) = true)
    (a15 : PySem.W.nsIn K mainGlobals "_law_word" = some (some (.ref f15)))
    (l15 : K.lookup f15 = some ⟨oc15, od15, .func (PySem.W.fnOf "_law_word" "_law_word" (defArgs s_law_word) (defBody s_law_word) (defScope s_law_word) .none kV15 dc15 pm15 an15 cd15 ct15), sl15⟩)
    (c15 : PySem.W.codeIn K cd15 "_law_word" = true)
    (k15 : PySem.W.keepIn K (.ref f15) = true)
    (a16 : PySem.W.nsIn K mainGlobals "_law_joined" = some (some (.ref f16)))
    (l16 : K.lookup f16 = some ⟨oc16, od16, .func (PySem.W.fnOf "_law_joined" "_law_joined" (defArgs s_law_joined) (defBody s_law_joined) (defScope s_law_joined) .none kV16 dc16 pm16 an16 cd16 ct16), sl16⟩)
    (c16 : PySem.W.codeIn K cd16 "_law_joined" = true)
    (k16 : PySem.W.keepIn K (.ref f16) = true)
    (a17 : PySem.W.nsIn K mainGlobals "_law_thing" = some (some (.ref f17)))
    (l17 : K.lookup f17 = some ⟨oc17, od17, .func (PySem.W.fnOf "_law_thing" "_law_thing" (defArgs s_law_thing) (defBody s_law_thing) (defScope s_law_thing) .none kV17 dc17 pm17 an17 cd17 ct17), sl17⟩)
    (c17 : PySem.W.codeIn K cd17 "_law_thing" = true)
    (k17 : PySem.W.keepIn K (.ref f17) = true)
    (a18 : PySem.W.nsIn K mainGlobals "_law_grown" = some (some (.ref f18)))
    (l18 : K.lookup f18 = some ⟨oc18, od18, .func (PySem.W.fnOf "_law_grown" "_law_grown" (defArgs s_law_grown) (defBody s_law_grown) (defScope s_law_grown) .none kV18 dc18 pm18 an18 cd18 ct18), sl18⟩)
    (c18 : PySem.W.codeIn K cd18 "_law_grown" = true)
    (k18 : PySem.W.keepIn K (.ref f18) = true)
    (a19 : PySem.W.nsIn K mainGlobals "_law_who" = some (some (.ref f19)))
    (l19 : K.lookup f19 = some ⟨oc19, od19, .func (PySem.W.fnOf "_law_who" "_law_who" (defArgs s_law_who) (defBody s_law_who) (defScope s_law_who) .none kV19 dc19 pm19 an19 cd19 ct19), sl19⟩)
    (c19 : PySem.W.codeIn K cd19 "_law_who" = true)
    (k19 : PySem.W.keepIn K (.ref f19) = true)
    (a20 : PySem.W.nsIn K mainGlobals "_law_told" = some (some (.ref f20)))
    (l20 : K.lookup f20 = some ⟨oc20, od20, .func (PySem.W.fnOf "_law_told" "_law_told" (defArgs s_law_told) (defBody s_law_told) (defScope s_law_told) .none kV20 dc20 pm20 an20 cd20 ct20), sl20⟩)
    (c20 : PySem.W.codeIn K cd20 "_law_told" = true)
    (k20 : PySem.W.keepIn K (.ref f20) = true)
    (z_isinstance : PySem.W.nsIn K mainGlobals "isinstance" = some none)
    (z_str : PySem.W.nsIn K mainGlobals "str" = some none)
    (z_len : PySem.W.nsIn K mainGlobals "len" = some none)
    (z_all : PySem.W.nsIn K mainGlobals "all" = some none)
    (z_any : PySem.W.nsIn K mainGlobals "any" = some none)
    (z_tuple : PySem.W.nsIn K mainGlobals "tuple" = some none)
    (z_range : PySem.W.nsIn K mainGlobals "range" = some none)
    (z_sorted : PySem.W.nsIn K mainGlobals "sorted" = some none)
    (z_abs : PySem.W.nsIn K mainGlobals "abs" = some none)
    (z_int : PySem.W.nsIn K mainGlobals "int" = some none)
    (z_list : PySem.W.nsIn K mainGlobals "list" = some none)
    (g_VOWELS : PySem.W.nsIn K mainGlobals "VOWELS" = some (some (.str "aeiou" t_VOWELS)))
    (g_OTHERS : PySem.W.nsIn K mainGlobals "OTHERS" = some (some (.str "bdfgklmnprstvz" t_OTHERS)))
    (g_CASES : PySem.W.nsIn K mainGlobals "CASES" = some (some (.ref v_CASES)))
    (l_CASES : K.lookup v_CASES = some ⟨.type "tuple", none, .seq i_CASES n_CASES, s_CASES⟩)
    (j_CASES : i_CASES.toList = [.str "doer" t_CASES_0, .str "done" t_CASES_1, .str "owner" t_CASES_2, .str "place" t_CASES_3])
    (g_TIMES : PySem.W.nsIn K mainGlobals "TIMES" = some (some (.ref v_TIMES)))
    (l_TIMES : K.lookup v_TIMES = some ⟨.type "tuple", none, .seq i_TIMES n_TIMES, s_TIMES⟩)
    (j_TIMES : i_TIMES.toList = [.str "now" t_TIMES_0, .str "past" t_TIMES_1, .str "to come" t_TIMES_2])
    (g_PERSONS : PySem.W.nsIn K mainGlobals "PERSONS" = some (some (.ref v_PERSONS)))
    (l_PERSONS : K.lookup v_PERSONS = some ⟨.type "tuple", none, .seq i_PERSONS n_PERSONS, s_PERSONS⟩)
    (j_PERSONS : i_PERSONS.toList = [.str "u" t_PERSONS_0, .str "is" t_PERSONS_1, .str "e" t_PERSONS_2, .str "umo" t_PERSONS_3, .str "ite" t_PERSONS_4, .str "en" t_PERSONS_5])
    (g_WHO : PySem.W.nsIn K mainGlobals "WHO" = some (some (.ref v_WHO)))
    (l_WHO : K.lookup v_WHO = some ⟨.type "tuple", none, .seq i_WHO n_WHO, s_WHO⟩)
    (j_WHO : i_WHO.toList = [.str "mi" t_WHO_0, .str "ti" t_WHO_1, .str "lo" t_WHO_2, .str "la" t_WHO_3])
    (g_SMALL : PySem.W.nsIn K mainGlobals "SMALL" = some (some (.ref v_SMALL)))
    (l_SMALL : K.lookup v_SMALL = some ⟨.type "tuple", none, .seq i_SMALL n_SMALL, s_SMALL⟩)
    (j_SMALL : i_SMALL.toList = [.str "ne" t_SMALL_0, .str "ku" t_SMALL_1, .str "kel" t_SMALL_2])
    (g_ENDINGS : PySem.W.nsIn K mainGlobals "ENDINGS" = some (some (.ref v_ENDINGS)))
    (l_ENDINGS : K.lookup v_ENDINGS = some ⟨.type "dict", none, .dict i_ENDINGS n_ENDINGS, #[]⟩)
    (j_ENDINGS : i_ENDINGS.toList = [⟨hashInt 0, .int 0 k_ENDINGS_0, .ref v_ENDINGS_0⟩, ⟨hashInt 1, .int 1 k_ENDINGS_1, .ref v_ENDINGS_1⟩])
    (l_ENDINGS_1 : K.lookup v_ENDINGS_1 = some ⟨.type "tuple", none, .seq i_ENDINGS_1 n_ENDINGS_1, s_ENDINGS_1⟩)
    (j_ENDINGS_1 : i_ENDINGS_1.toList = [.str "a" t_ENDINGS_1_0, .str "am" t_ENDINGS_1_1, .str "is" t_ENDINGS_1_2, .str "ul" t_ENDINGS_1_3])
    (l_ENDINGS_0 : K.lookup v_ENDINGS_0 = some ⟨.type "tuple", none, .seq i_ENDINGS_0 n_ENDINGS_0, s_ENDINGS_0⟩)
    (j_ENDINGS_0 : i_ENDINGS_0.toList = [.str "o" t_ENDINGS_0_0, .str "om" t_ENDINGS_0_1, .str "es" t_ENDINGS_0_2, .str "ul" t_ENDINGS_0_3])
    (o_ENDINGS : (v_ENDINGS == sysModules) = false)
    (g_AHEAD : PySem.W.nsIn K mainGlobals "AHEAD" = some (some (.ref v_AHEAD)))
    (l_AHEAD : K.lookup v_AHEAD = some ⟨.type "dict", none, .dict i_AHEAD n_AHEAD, #[]⟩)
    (j_AHEAD : i_AHEAD.toList = [⟨PyData.keyHash w.params "now", .str "now" k_AHEAD_0, .str "" t_AHEAD_0⟩, ⟨PyData.keyHash w.params "past", .str "past" k_AHEAD_1, .str "ar" t_AHEAD_1⟩, ⟨PyData.keyHash w.params "to come", .str "to come" k_AHEAD_2, .str "ev" t_AHEAD_2⟩])
    (o_AHEAD : (v_AHEAD == sysModules) = false)
    (A0 : PySem.W.nsIn K mainGlobals "BadWord" = some (some (.ref C0)))
    (K0 : PySem.W.keepIn K (.ref C0) = true)
    (Q0 : PySem.W.excIn K C0 [.type "ValueError", .type "Exception", .type "BaseException", .type "object"] "ValueError.__new__" = true)
    (B0 : PySem.W.subIn K (.ref C0) (.type "BaseException") = some true)
    (Y0 : PySem.W.typeIn K (.ref C0) = some (.type "type"))
    (I0 : PySem.W.isClsIn K C0 = true)
    (A1 : PySem.W.nsIn K mainGlobals "BadBook" = some (some (.ref C1)))
    (K1 : PySem.W.keepIn K (.ref C1) = true)
    (Q1 : PySem.W.excIn K C1 [.type "ValueError", .type "Exception", .type "BaseException", .type "object"] "ValueError.__new__" = true)
    (B1 : PySem.W.subIn K (.ref C1) (.type "BaseException") = some true)
    (Y1 : PySem.W.typeIn K (.ref C1) = some (.type "type"))
    (I1 : PySem.W.isClsIn K C1 = true)
    (A2 : PySem.W.nsIn K mainGlobals "NoWay" = some (some (.ref C2)))
    (K2 : PySem.W.keepIn K (.ref C2) = true)
    (Q2 : PySem.W.excIn K C2 [.type "ValueError", .type "Exception", .type "BaseException", .type "object"] "ValueError.__new__" = true)
    (B2 : PySem.W.subIn K (.ref C2) (.type "BaseException") = some true)
    (Y2 : PySem.W.typeIn K (.ref C2) = some (.type "type"))
    (I2 : PySem.W.isClsIn K C2 = true)
    (A3 : PySem.W.nsIn K mainGlobals "TooLarge" = some (some (.ref C3)))
    (K3 : PySem.W.keepIn K (.ref C3) = true)
    (Q3 : PySem.W.excIn K C3 [.type "ValueError", .type "Exception", .type "BaseException", .type "object"] "ValueError.__new__" = true)
    (B3 : PySem.W.subIn K (.ref C3) (.type "BaseException") = some true)
    (Y3 : PySem.W.typeIn K (.ref C3) = some (.type "type"))
    (I3 : PySem.W.isClsIn K C3 = true)
    (S0_0 : PySem.W.subIn K (.ref C0) (.ref C0) = some true)
    (S0_1 : PySem.W.subIn K (.ref C0) (.ref C1) = some false)
    (S0_2 : PySem.W.subIn K (.ref C0) (.ref C2) = some false)
    (S0_3 : PySem.W.subIn K (.ref C0) (.ref C3) = some false)
    (S1_0 : PySem.W.subIn K (.ref C1) (.ref C0) = some false)
    (S1_1 : PySem.W.subIn K (.ref C1) (.ref C1) = some true)
    (S1_2 : PySem.W.subIn K (.ref C1) (.ref C2) = some false)
    (S1_3 : PySem.W.subIn K (.ref C1) (.ref C3) = some false)
    (S2_0 : PySem.W.subIn K (.ref C2) (.ref C0) = some false)
    (S2_1 : PySem.W.subIn K (.ref C2) (.ref C1) = some false)
    (S2_2 : PySem.W.subIn K (.ref C2) (.ref C2) = some true)
    (S2_3 : PySem.W.subIn K (.ref C2) (.ref C3) = some false)
    (S3_0 : PySem.W.subIn K (.ref C3) (.ref C0) = some false)
    (S3_1 : PySem.W.subIn K (.ref C3) (.ref C1) = some false)
    (S3_2 : PySem.W.subIn K (.ref C3) (.ref C2) = some false)
    (S3_3 : PySem.W.subIn K (.ref C3) (.ref C3) = some true)
    (al : PySem.W.nsIn K mainGlobals "law" = some (some (.ref fl)))
    (ll : K.lookup fl = some ⟨ocl, odl, .func (PySem.W.fnOf "law" "law" (defArgs s_law) (defBody s_law) (defScope s_law) .none kVl dcl pml anl (.ref cl) ctl), sll⟩)
    (lcd : PySem.W.codeIn K (.ref cl) "law" = true)
    (lc : K.lookup cl = some ocb)
    (dcb : ocb.data = .fields vsl)
    (vlaw : vsl[11]? = some (.ref Pt))
    (chd : PySem.W.codeHdIn K cl Pt = true)
    (nP : K.lookup Pt = none)
    (Nl_0 : Pt ≠ Pt0)
    (Nl_11 : Pt ≠ Pt11)
    (N0_l : Pt0 ≠ Pt)
    (N0_11 : Pt0 ≠ Pt11)
    (N11_l : Pt11 ≠ Pt)
    (N11_0 : Pt11 ≠ Pt0)
    (law_fn : ∀ (g : Gc) (cs : List (Addr × Addr)), AllF K w mg g cs → (Pt, PySem.Str.ofString "law.<locals>.<lambda>") ∈ g.T → (∀ p ∈ g.T, p.1 = Pt → p.2 = PySem.Str.ofString "law.<locals>.<lambda>") → (cl, Pt) ∈ cs → K.lookup fl = some ⟨ocl, odl, .func (PySem.W.fnOf "law" "law" (defArgs s_law) (defBody s_law) (defScope s_law) .none kVl dcl pml anl (.ref cl) ctl), sll⟩ → PySem.W.codeIn K (.ref cl) "law" = true → ∀ base : Heap, K.In base → base.Ns mainGlobals mg → (∀ p ∈ cs, LamX.TabB base mg p.1 p.2) → FnOk l.prog w K mg base (L2.CX l.prog w) 29 fl (PySem.W.fnOf "law" "law" (defArgs s_law) (defBody s_law) (defScope s_law) .none kVl dcl pml anl (.ref cl) ctl) ["script"] (spF K g F_law)) :
    LamX.LawAtS l w K (L2.CX l.prog w) 29 63 "script" mg fa h := by
  have e := hfa.symm.trans (PySem.W.mg_of X G al)
  cases e
  let g0 : Gc := ⟨[(Pt, PySem.Str.ofString "law.<locals>.<lambda>"), (Pt0, PySem.Str.ofString "is_word.<locals>.<genexpr>"), (Pt11, PySem.Str.ofString "taken_apart.<locals>.<genexpr>")], [C0, C1, C2, C3]⟩
  let cs0 : List (Addr × Addr) := [(cl, Pt), (cc0, Pt0), (cc11, Pt11)]
  have e_BadWord : Er K mg g0 0 "BadWord" := er_mk (C := C0) rfl (PySem.W.mg_of X G A0) K0 Q0 B0 Y0
  have e_BadBook : Er K mg g0 1 "BadBook" := er_mk (C := C1) rfl (PySem.W.mg_of X G A1) K1 Q1 B1 Y1
  have e_NoWay : Er K mg g0 2 "NoWay" := er_mk (C := C2) rfl (PySem.W.mg_of X G A2) K2 Q2 B2 Y2
  have e_TooLarge : Er K mg g0 3 "TooLarge" := er_mk (C := C3) rfl (PySem.W.mg_of X G A3) K3 Q3 B3 Y3
  have hsub : Subs K g0 sub := subs_mk (fun C hC => by
    simp only [g0, List.mem_cons, List.not_mem_nil, or_false] at hC
    rcases hC with rfl | rfl | rfl | rfl
    · exact ⟨B0, I0, Y0⟩
    · exact ⟨B1, I1, Y1⟩
    · exact ⟨B2, I2, Y2⟩
    · exact ⟨B3, I3, Y3⟩) (fun i j C D h1 h2 => by
    rcases i with _ | _ | _ | _ | i
    · rcases j with _ | _ | _ | _ | j
      · cases h1; cases h2; exact S0_0
      · cases h1; cases h2; exact S0_1
      · cases h1; cases h2; exact S0_2
      · cases h1; cases h2; exact S0_3
      · cases h2
    · rcases j with _ | _ | _ | _ | j
      · cases h1; cases h2; exact S1_0
      · cases h1; cases h2; exact S1_1
      · cases h1; cases h2; exact S1_2
      · cases h1; cases h2; exact S1_3
      · cases h2
    · rcases j with _ | _ | _ | _ | j
      · cases h1; cases h2; exact S2_0
      · cases h1; cases h2; exact S2_1
      · cases h1; cases h2; exact S2_2
      · cases h1; cases h2; exact S2_3
      · cases h2
    · rcases j with _ | _ | _ | _ | j
      · cases h1; cases h2; exact S3_0
      · cases h1; cases h2; exact S3_1
      · cases h1; cases h2; exact S3_2
      · cases h1; cases h2; exact S3_3
      · cases h2
    · cases h1)
  have F : AllF K w mg g0 cs0 := {
    f_is_word := kd_mk (PySem.W.mg_of X G a0) l0 c0 k0 (fun _ _ _ _ _ _ us hl => match us, hl with | [_], _ => rfl) (List.mem_cons_of_mem _ List.mem_cons_self) (List.mem_cons_of_mem _ List.mem_cons_self) (by
      intro p hp e
      simp only [g0, List.mem_cons, List.not_mem_nil, or_false] at hp
      rcases hp with rfl | rfl | rfl
      · exact absurd e Nl_0
      · rfl
      · exact absurd e N11_0),
    f_is_stem := (f_mk (PySem.W.mg_of X G a1) l1 c1 k1 fun _ _ _ _ _ _ us hl => match us, hl with | [_], _ => rfl),
    f_joined := (f_mk (PySem.W.mg_of X G a2) l2 c2 k2 fun _ _ _ _ _ _ us hl => match us, hl with | [_, _], _ => rfl),
    f_thing_form := (f_mk (PySem.W.mg_of X G a3) l3 c3 k3 fun _ _ _ _ _ _ us hl => match us, hl with | [_, _, _, _], _ => rfl),
    f_deed_form := (f_mk (PySem.W.mg_of X G a4) l4 c4 k4 fun _ _ _ _ _ _ us hl => match us, hl with | [_, _, _, _], _ => rfl),
    f_who_form := (f_mk (PySem.W.mg_of X G a5) l5 c5 k5 fun _ _ _ _ _ _ us hl => match us, hl with | [_, _, _], _ => rfl),
    f_forms_of_thing := (f_mk (PySem.W.mg_of X G a6) l6 c6 k6 fun _ _ _ _ _ _ us hl => match us, hl with | [_, _], _ => rfl),
    f_forms_of_deed := (f_mk (PySem.W.mg_of X G a7) l7 c7 k7 fun _ _ _ _ _ _ us hl => match us, hl with | [_], _ => rfl),
    f_asked_form := (f_mk (PySem.W.mg_of X G a8) l8 c8 k8 fun _ _ _ _ _ _ us hl => match us, hl with | [_], _ => rfl),
    f_made_of := (f_mk (PySem.W.mg_of X G a9) l9 c9 k9 fun _ _ _ _ _ _ us hl => match us, hl with | [_, _], _ => rfl),
    f_grown := (f_mk (PySem.W.mg_of X G a10) l10 c10 k10 fun _ _ _ _ _ _ us hl => match us, hl with | [_, _], _ => rfl),
    f_taken_apart := kd_mk (PySem.W.mg_of X G a11) l11 c11 k11 (fun _ _ _ _ _ _ us hl => match us, hl with | [_, _], _ => rfl) (List.mem_cons_of_mem _ (List.mem_cons_of_mem _ List.mem_cons_self)) (List.mem_cons_of_mem _ (List.mem_cons_of_mem _ List.mem_cons_self)) (by
      intro p hp e
      simp only [g0, List.mem_cons, List.not_mem_nil, or_false] at hp
      rcases hp with rfl | rfl | rfl
      · exact absurd e Nl_11
      · exact absurd e N0_11
      · rfl),
    f_law_dice := (f_mk (PySem.W.mg_of X G a12) l12 c12 k12 fun _ _ _ _ _ _ us hl => match us, hl with | [_], _ => rfl),
    f_law_roll := (f_mk (PySem.W.mg_of X G a13) l13 c13 k13 fun _ _ _ _ _ _ us hl => match us, hl with | [_, _], _ => rfl),
    f_law_rounds := (f_mk (PySem.W.mg_of X G a14) l14 c14 k14 fun _ _ _ _ _ _ us hl => match us, hl with | [_, _], _ => rfl),
    f_law_word := (f_mk (PySem.W.mg_of X G a15) l15 c15 k15 fun _ _ _ _ _ _ us hl => match us, hl with | [_, _], _ => rfl),
    f_law_joined := (f_mk (PySem.W.mg_of X G a16) l16 c16 k16 fun _ _ _ _ _ _ us hl => match us, hl with | [_, _], _ => rfl),
    f_law_thing := (f_mk (PySem.W.mg_of X G a17) l17 c17 k17 fun _ _ _ _ _ _ us hl => match us, hl with | [_, _, _, _], _ => rfl),
    f_law_grown := (f_mk (PySem.W.mg_of X G a18) l18 c18 k18 fun _ _ _ _ _ _ us hl => match us, hl with | [_, _], _ => rfl),
    f_law_who := (f_mk (PySem.W.mg_of X G a19) l19 c19 k19 fun _ _ _ _ _ _ us hl => match us, hl with | [_], _ => rfl),
    T_law_told := ⟨(f_mk (PySem.W.mg_of X G a20) l20 c20 k20 fun _ _ _ _ _ _ us hl => match us, hl with | [_], _ => rfl), ⟨rfl, rfl, rfl, by decide +kernel, rfl, by decide +kernel, by decide +kernel⟩, ⟨_, _, _, _, _, _, rfl, (.cons e_BadWord.at0 rfl (by decide) (by decide +kernel) (by decide +kernel) (.cons e_BadBook.at0 rfl (by decide) (by decide +kernel) (by decide +kernel) (.cons e_NoWay.at0 rfl (by decide) (by decide +kernel) (by decide +kernel) (.cons e_TooLarge.at0 rfl (by decide) (by decide +kernel) (by decide +kernel) TellHds.nil))))⟩, rfl, .inl rfl, by decide, by decide, by decide⟩,
    n_isinstance := PySem.W.mg_none_of X G z_isinstance,
    n_str := PySem.W.mg_none_of X G z_str,
    n_len := PySem.W.mg_none_of X G z_len,
    n_all := PySem.W.mg_none_of X G z_all,
    n_any := PySem.W.mg_none_of X G z_any,
    n_tuple := PySem.W.mg_none_of X G z_tuple,
    n_range := PySem.W.mg_none_of X G z_range,
    n_sorted := PySem.W.mg_none_of X G z_sorted,
    n_abs := PySem.W.mg_none_of X G z_abs,
    n_int := PySem.W.mg_none_of X G z_int,
    n_list := PySem.W.mg_none_of X G z_list,
    C_VOWELS := cst_of (PySem.W.mg_of X G g_VOWELS) (KV0.str (by decide +kernel) (by decide +kernel)).ex,
    C_OTHERS := cst_of (PySem.W.mg_of X G g_OTHERS) (KV0.str (by decide +kernel) (by decide +kernel)).ex,
    C_CASES := cst_of (PySem.W.mg_of X G g_CASES) (kv_tup l_CASES (by rw [j_CASES]; exact (.cons (KV0.str (by decide +kernel) (by decide +kernel)).ex (.cons (KV0.str (by decide +kernel) (by decide +kernel)).ex (.cons (KV0.str (by decide +kernel) (by decide +kernel)).ex (.cons (KV0.str (by decide +kernel) (by decide +kernel)).ex KVs.nil))))) (by rw [← Array.length_toList, j_CASES]; exact Nat.le_of_ble_eq_true rfl)),
    C_TIMES := cst_of (PySem.W.mg_of X G g_TIMES) (kv_tup l_TIMES (by rw [j_TIMES]; exact (.cons (KV0.str (by decide +kernel) (by decide +kernel)).ex (.cons (KV0.str (by decide +kernel) (by decide +kernel)).ex (.cons (KV0.str (by decide +kernel) (by decide +kernel)).ex KVs.nil)))) (by rw [← Array.length_toList, j_TIMES]; exact Nat.le_of_ble_eq_true rfl)),
    C_PERSONS := cst_of (PySem.W.mg_of X G g_PERSONS) (kv_tup l_PERSONS (by rw [j_PERSONS]; exact (.cons (KV0.str (by decide +kernel) (by decide +kernel)).ex (.cons (KV0.str (by decide +kernel) (by decide +kernel)).ex (.cons (KV0.str (by decide +kernel) (by decide +kernel)).ex (.cons (KV0.str (by decide +kernel) (by decide +kernel)).ex (.cons (KV0.str (by decide +kernel) (by decide +kernel)).ex (.cons (KV0.str (by decide +kernel) (by decide +kernel)).ex KVs.nil))))))) (by rw [← Array.length_toList, j_PERSONS]; exact Nat.le_of_ble_eq_true rfl)),
    C_WHO := cst_of (PySem.W.mg_of X G g_WHO) (kv_tup l_WHO (by rw [j_WHO]; exact (.cons (KV0.str (by decide +kernel) (by decide +kernel)).ex (.cons (KV0.str (by decide +kernel) (by decide +kernel)).ex (.cons (KV0.str (by decide +kernel) (by decide +kernel)).ex (.cons (KV0.str (by decide +kernel) (by decide +kernel)).ex KVs.nil))))) (by rw [← Array.length_toList, j_WHO]; exact Nat.le_of_ble_eq_true rfl)),
    C_SMALL := cst_of (PySem.W.mg_of X G g_SMALL) (kv_tup l_SMALL (by rw [j_SMALL]; exact (.cons (KV0.str (by decide +kernel) (by decide +kernel)).ex (.cons (KV0.str (by decide +kernel) (by decide +kernel)).ex (.cons (KV0.str (by decide +kernel) (by decide +kernel)).ex KVs.nil)))) (by rw [← Array.length_toList, j_SMALL]; exact Nat.le_of_ble_eq_true rfl)),
    D_ENDINGS := wd_of (PySem.W.mg_of X G g_ENDINGS) l_ENDINGS o_ENDINGS (by rw [j_ENDINGS]; exact (we_int (kv_tup l_ENDINGS_0 (by rw [j_ENDINGS_0]; exact (.cons (KV0.str (by decide +kernel) (by decide +kernel)).ex (.cons (KV0.str (by decide +kernel) (by decide +kernel)).ex (.cons (KV0.str (by decide +kernel) (by decide +kernel)).ex (.cons (KV0.str (by decide +kernel) (by decide +kernel)).ex KVs.nil))))) (by rw [← Array.length_toList, j_ENDINGS_0]; exact Nat.le_of_ble_eq_true rfl)) (we_int (kv_tup l_ENDINGS_1 (by rw [j_ENDINGS_1]; exact (.cons (KV0.str (by decide +kernel) (by decide +kernel)).ex (.cons (KV0.str (by decide +kernel) (by decide +kernel)).ex (.cons (KV0.str (by decide +kernel) (by decide +kernel)).ex (.cons (KV0.str (by decide +kernel) (by decide +kernel)).ex KVs.nil))))) (by rw [← Array.length_toList, j_ENDINGS_1]; exact Nat.le_of_ble_eq_true rfl)) WEs.nil))),
    D_AHEAD := wd_of (PySem.W.mg_of X G g_AHEAD) l_AHEAD o_AHEAD (by rw [j_AHEAD]; exact (we_str (by decide +kernel) (KV0.str (by decide +kernel) (by decide +kernel)).ex (we_str (by decide +kernel) (KV0.str (by decide +kernel) (by decide +kernel)).ex (we_str (by decide +kernel) (KV0.str (by decide +kernel) (by decide +kernel)).ex WEs.nil)))),
    e_BadWord := e_BadWord,
    e_BadBook := e_BadBook,
    e_NoWay := e_NoWay,
    e_TooLarge := e_TooLarge,
    hsub := hsub }
  obtain ⟨ecll, dxll, dtll, slcl⟩ := ocb
  simp only at dcb
  subst dcb
  obtain ⟨ecl0, dxl0, dtl0, slc0⟩ := ob0
  simp only at do0
  subst do0
  obtain ⟨ecl11, dxl11, dtl11, slc11⟩ := ob11
  simp only at do11
  subst do11
  have hcs : ∀ p ∈ cs0, ∃ x, CodeT K mg tnames x p.1 p.2 := by
    intro p hp
    simp only [cs0, List.mem_cons, List.not_mem_nil, or_false] at hp
    rcases hp with rfl | rfl | rfl
    · exact ⟨"law", ⟨_, _, _, _, _, _, _, List.mem_cons_self, PySem.W.mg_of X G al, ll, rfl, rfl, lc, vlaw, chd, nP⟩⟩
    · exact ⟨"is_word", ⟨_, _, _, _, _, _, _, (List.mem_cons_of_mem _ List.mem_cons_self), PySem.W.mg_of X G a0, l0, rfl, rfl, lc0, v0, h0, p0⟩⟩
    · exact ⟨"taken_apart", ⟨_, _, _, _, _, _, _, (List.mem_cons_of_mem _ (List.mem_cons_of_mem _ List.mem_cons_self)), PySem.W.mg_of X G a11, l11, rfl, rfl, lc11, v11, h11, p11⟩⟩
  exact lawAt_all (g := g0) (cs := cs0) (F := F_law) X own hcs (fun p hp => by
    simp only [g0, List.mem_cons, List.not_mem_nil, or_false] at hp
    rcases hp with rfl | rfl | rfl
    · exact List.mem_map.mpr ⟨(cl, Pt), List.mem_cons_self, rfl⟩
    · exact List.mem_map.mpr ⟨(cc0, Pt0), (List.mem_cons_of_mem _ List.mem_cons_self), rfl⟩
    · exact List.mem_map.mpr ⟨(cc11, Pt11), (List.mem_cons_of_mem _ (List.mem_cons_of_mem _ List.mem_cons_self)), rfl⟩) (fun s u => .of_eq rfl) (law_fn g0 cs0 F List.mem_cons_self (by
      intro p hp e
      simp only [g0, List.mem_cons, List.not_mem_nil, or_false] at hp
      rcases hp with rfl | rfl | rfl
      · rfl
      · exact absurd e N0_l
      · exact absurd e N11_l) List.mem_cons_self ll lcd) law_true
theorem law_fn {P : Program} {w : World} {K : PySem.W.Frag} {mg : Str → Option Value} {fl cl Pt : Addr} {ocl kVl dcl pml ctl : Value} {odl anl : Option Addr} {sll : Array (Option Value)} (g : Gc) (cs : List (Addr × Addr)) (A : AllF K w mg g cs) (gT : (Pt, PySem.Str.ofString "law.<locals>.<lambda>") ∈ g.T) (gu : ∀ p ∈ g.T, p.1 = Pt → p.2 = PySem.Str.ofString "law.<locals>.<lambda>") (hcl : (cl, Pt) ∈ cs) (lk : K.lookup fl = some ⟨ocl, odl, .func (PySem.W.fnOf "law" "law" (defArgs s_law) (defBody s_law) (defScope s_law) .none kVl dcl pml anl (.ref cl) ctl), sll⟩) (hcd : PySem.W.codeIn K (.ref cl) "law" = true) (base : Heap) (hK : K.In base) (hN : base.Ns mainGlobals mg) (hTB : ∀ p ∈ cs, LamX.TabB base mg p.1 p.2) :
    FnOk P w K mg base (L2.CX P w) 29 fl (PySem.W.fnOf "law" "law" (defArgs s_law) (defBody s_law) (defScope s_law) .none kVl dcl pml anl (.ref cl) ctl) ["script"] (spF K g F_law) := by
  have d_is_word : Df P w K mg base g 4 "is_word" (wordS) := (x_is_word A.n_isinstance A.n_str A.n_len A.C_VOWELS A.C_OTHERS A.n_all A.n_any A.f_is_word hTB).eqv (word_eq)
  obtain ⟨f_is_stem, fd_is_stem, Fn_is_stem, hm_is_stem, hb_is_stem⟩ := A.f_is_stem
  have d_is_stem : Df P w K mg base g 5 "is_stem" (stemS) := (x_is_stem A.n_len A.C_SMALL A.C_WHO (d_is_word.mono (j := 4) (by decide)) Fn_is_stem hm_is_stem hb_is_stem).eqv (stem_eq)
  obtain ⟨f_joined, fd_joined, Fn_joined, hm_joined, hb_joined⟩ := A.f_joined
  have d_joined : Df P w K mg base g 6 "joined" (joinS) := (x_joined A.C_VOWELS Fn_joined hm_joined hb_joined).eqv (join_eq)
  obtain ⟨f_thing_form, fd_thing_form, Fn_thing_form, hm_thing_form, hb_thing_form⟩ := A.f_thing_form
  have d_thing_form : Df P w K mg base g 7 "thing_form" (thingS) := (x_thing_form A.D_ENDINGS A.C_CASES A.e_BadWord (d_joined.mono (j := 6) (by decide)) Fn_thing_form hm_thing_form hb_thing_form).eqv (thing_eq)
  obtain ⟨f_deed_form, fd_deed_form, Fn_deed_form, hm_deed_form, hb_deed_form⟩ := A.f_deed_form
  have d_deed_form : Df P w K mg base g 8 "deed_form" (deedS) := (x_deed_form A.C_TIMES A.e_BadWord A.D_AHEAD A.C_PERSONS (d_joined.mono (j := 7) (by decide)) Fn_deed_form hm_deed_form hb_deed_form).eqv (deed_eq)
  obtain ⟨f_who_form, fd_who_form, Fn_who_form, hm_who_form, hb_who_form⟩ := A.f_who_form
  have d_who_form : Df P w K mg base g 9 "who_form" (whoS) := (x_who_form A.C_WHO A.C_CASES A.e_BadWord Fn_who_form hm_who_form hb_who_form).eqv (who_eq)
  obtain ⟨f_forms_of_thing, fd_forms_of_thing, Fn_forms_of_thing, hm_forms_of_thing, hb_forms_of_thing⟩ := A.f_forms_of_thing
  have d_forms_of_thing : Df P w K mg base g 10 "forms_of_thing" (thingsS) := (x_forms_of_thing A.n_tuple A.C_CASES (d_thing_form.mono (j := 9) (by decide)) Fn_forms_of_thing hm_forms_of_thing hb_forms_of_thing).eqv (things_eq)
  obtain ⟨f_forms_of_deed, fd_forms_of_deed, Fn_forms_of_deed, hm_forms_of_deed, hb_forms_of_deed⟩ := A.f_forms_of_deed
  have d_forms_of_deed : Df P w K mg base g 11 "forms_of_deed" (deedsS) := (x_forms_of_deed A.C_TIMES A.n_tuple (d_deed_form.mono (j := 10) (by decide)) Fn_forms_of_deed hm_forms_of_deed hb_forms_of_deed).cln ((fun xs h w _ => deeds_cl xs h w))
  obtain ⟨f_asked_form, fd_asked_form, Fn_asked_form, hm_asked_form, hb_asked_form⟩ := A.f_asked_form
  have d_asked_form : Df P w K mg base g 12 "asked_form" (askS) := (x_asked_form A.C_CASES A.e_BadWord Fn_asked_form hm_asked_form hb_asked_form).eqv (ask_eq)
  obtain ⟨f_made_of, fd_made_of, Fn_made_of, hm_made_of, hb_made_of⟩ := A.f_made_of
  have d_made_of : Df P w K mg base g 13 "made_of" (madeS) := (x_made_of A.e_BadWord A.C_VOWELS (d_is_word.mono (j := 12) (by decide)) (d_joined.mono (j := 12) (by decide)) Fn_made_of hm_made_of hb_made_of).eqv (made_eq)
  obtain ⟨f_grown, fd_grown, Fn_grown, hm_grown, hb_grown⟩ := A.f_grown
  have d_grown : Df P w K mg base g 14 "grown" (grownS) := (x_grown (d_made_of.mono (j := 13) (by decide)) Fn_grown hm_grown hb_grown).eqv (grown_eq)
  have d_taken_apart : Df P w K mg base g 18 "taken_apart" (takenS) := (x_taken_apart A.n_all A.e_BadWord A.n_len A.n_range A.n_tuple A.n_sorted (d_is_word.mono (j := 14) (by decide)) (d_is_stem.mono (j := 14) (by decide)) (d_grown.mono (j := 14) (by decide)) A.f_taken_apart hTB).cln ((fun xs h w _ => taken_cl xs h w))
  obtain ⟨f_law_dice, fd_law_dice, Fn_law_dice, hm_law_dice, hb_law_dice⟩ := A.f_law_dice
  have d_law_dice : Df P w K mg base g 19 "_law_dice" (diceS) := (x_law_dice A.n_abs A.n_int Fn_law_dice hm_law_dice hb_law_dice).eqv (dice_eq)
  obtain ⟨f_law_roll, fd_law_roll, Fn_law_roll, hm_law_roll, hb_law_roll⟩ := A.f_law_roll
  have d_law_roll : Df P w K mg base g 20 "_law_roll" (rollS) := (x_law_roll A.n_int Fn_law_roll hm_law_roll hb_law_roll).eqv (roll_eq)
  obtain ⟨f_law_rounds, fd_law_rounds, Fn_law_rounds, hm_law_rounds, hb_law_rounds⟩ := A.f_law_rounds
  have d_law_rounds : Df P w K mg base g 21 "_law_rounds" (roundsS) := (x_law_rounds (d_law_dice.mono (j := 20) (by decide)) Fn_law_rounds hm_law_rounds hb_law_rounds).eqv (rounds_eq)
  obtain ⟨f_law_word, fd_law_word, Fn_law_word, hm_law_word, hb_law_word⟩ := A.f_law_word
  have d_law_word : Df P w K mg base g 22 "_law_word" (lwS) := (x_law_word A.n_range (d_law_roll.mono (j := 21) (by decide)) Fn_law_word hm_law_word hb_law_word).eqv (lw_eq)
  obtain ⟨f_law_joined, fd_law_joined, Fn_law_joined, hm_law_joined, hb_law_joined⟩ := A.f_law_joined
  have d_law_joined : Df P w K mg base g 23 "_law_joined" (ljS) := (x_law_joined A.n_len Fn_law_joined hm_law_joined hb_law_joined).eqv (lj_eq)
  obtain ⟨f_law_thing, fd_law_thing, Fn_law_thing, hm_law_thing, hb_law_thing⟩ := A.f_law_thing
  have d_law_thing : Df P w K mg base g 24 "_law_thing" (ltS) := (x_law_thing A.n_int (d_law_joined.mono (j := 23) (by decide)) Fn_law_thing hm_law_thing hb_law_thing).eqv (lt_eq)
  obtain ⟨f_law_grown, fd_law_grown, Fn_law_grown, hm_law_grown, hb_law_grown⟩ := A.f_law_grown
  have d_law_grown : Df P w K mg base g 25 "_law_grown" (lgS) := (x_law_grown A.n_range A.n_len A.n_tuple A.n_list A.n_sorted (d_law_roll.mono (j := 24) (by decide)) (d_law_joined.mono (j := 24) (by decide)) (d_grown.mono (j := 24) (by decide)) (d_made_of.mono (j := 24) (by decide)) (d_taken_apart.mono (j := 24) (by decide)) Fn_law_grown hm_law_grown hb_law_grown).eqv (lg_eq)
  obtain ⟨f_law_who, fd_law_who, Fn_law_who, hm_law_who, hb_law_who⟩ := A.f_law_who
  have d_law_who : Df P w K mg base g 26 "_law_who" (lwhoS) := (x_law_who A.n_range (d_who_form.mono (j := 25) (by decide)) Fn_law_who hm_law_who hb_law_who).eqv (lwho_eq)
  exact x_law A.n_list A.n_int A.T_law_told A.hsub (d_law_word.mono (j := 26) (by decide)) (d_law_roll.mono (j := 26) (by decide)) (d_law_thing.mono (j := 26) (by decide)) (d_thing_form.mono (j := 26) (by decide)) (d_forms_of_thing.mono (j := 26) (by decide)) (d_law_joined.mono (j := 26) (by decide)) (d_forms_of_deed.mono (j := 26) (by decide)) (d_deed_form.mono (j := 26) (by decide)) (d_law_who.mono (j := 26) (by decide)) (d_asked_form.mono (j := 26) (by decide)) (d_joined.mono (j := 26) (by decide)) (d_law_grown.mono (j := 26) (by decide)) (d_who_form.mono (j := 26) (by decide)) (d_made_of.mono (j := 26) (by decide)) (d_law_rounds.mono (j := 26) (by decide)) lk hcd (hTB _ hcl) gT gu
end K04
end
open PySem PySem.W PyProof.Rows
set_option maxRecDepth 100000 in
set_option maxHeartbeats 0 in
theorem PySem.Challenge.cw_tonguehall_k04_forms_of_words_holds : PySem.Challenge.rw_tonguehall_k04_forms_of_words.Holds := by
  w_on; o_law; k_head; (case hw => w_witness2)
  k_fill
  refine FL.walk_all (names := K04.tnames) (l := PySem.Challenge.rw_tonguehall_k04_forms_of_words) (n := 63) (k := 29) (x := "script") (CX := fun w => L2.CX PySem.Challenge.rw_tonguehall_k04_forms_of_words.prog w) rfl (by decide) rfl ⟨rfl, by decide, by decide⟩ (by decide +kernel) (fun w h Y => by first | exact PySem.W.kIn_of Y | exact PySem.W.km_in_of Y) ?F (fun w H s e s' h => FL.cx_end w H s e s' h)
  case F =>
    intro w mg fa h Y KX G hmg own
    refine' K04.all_mk KX G hmg own ?a0 ?l0 ?c0 ?k0 ?lc0 ?do0 ?v0 ?h0 ?p0 ?a1 ?l1 ?c1 ?k1 ?a2 ?l2 ?c2 ?k2 ?a3 ?l3 ?c3 ?k3 ?a4 ?l4 ?c4 ?k4 ?a5 ?l5 ?c5 ?k5 ?a6 ?l6 ?c6 ?k6 ?a7 ?l7 ?c7 ?k7 ?a8 ?l8 ?c8 ?k8 ?a9 ?l9 ?c9 ?k9 ?a10 ?l10 ?c10 ?k10 ?a11 ?l11 ?c11 ?k11 ?lc11 ?do11 ?v11 ?h11 ?p11 ?a12 ?l12 ?c12 ?k12 ?a13 ?l13 ?c13 ?k13 ?a14 ?l14 ?c14 ?k14 ?a15 ?l15 ?c15 ?k15 ?a16 ?l16 ?c16 ?k16 ?a17 ?l17 ?c17 ?k17 ?a18 ?l18 ?c18 ?k18 ?a19 ?l19 ?c19 ?k19 ?a20 ?l20 ?c20 ?k20 ?z_isinstance ?z_str ?z_len ?z_all ?z_any ?z_tuple ?z_range ?z_sorted ?z_abs ?z_int ?z_list ?g_VOWELS ?g_OTHERS ?g_CASES ?l_CASES ?j_CASES ?g_TIMES ?l_TIMES ?j_TIMES ?g_PERSONS ?l_PERSONS ?j_PERSONS ?g_WHO ?l_WHO ?j_WHO ?g_SMALL ?l_SMALL ?j_SMALL ?g_ENDINGS ?l_ENDINGS ?j_ENDINGS ?l_ENDINGS_1 ?j_ENDINGS_1 ?l_ENDINGS_0 ?j_ENDINGS_0 ?o_ENDINGS ?g_AHEAD ?l_AHEAD ?j_AHEAD ?o_AHEAD ?A0 ?K0 ?Q0 ?B0 ?Y0 ?I0 ?A1 ?K1 ?Q1 ?B1 ?Y1 ?I1 ?A2 ?K2 ?Q2 ?B2 ?Y2 ?I2 ?A3 ?K3 ?Q3 ?B3 ?Y3 ?I3 ?S0_0 ?S0_1 ?S0_2 ?S0_3 ?S1_0 ?S1_1 ?S1_2 ?S1_3 ?S2_0 ?S2_1 ?S2_2 ?S2_3 ?S3_0 ?S3_1 ?S3_2 ?S3_3 ?al ?ll ?lcd ?lc ?dcb ?vlaw ?chd ?nP ?Nl_0 ?Nl_11 ?N0_l ?N0_11 ?N11_l ?N11_0 K04.law_fn
    (case a0 => k_is)
    (case l0 => k_is)
    (case c0 => k_is)
    (case k0 => k_is)
    (case lc0 => k_is)
    (case do0 => first | rfl | k_is)
    (case v0 => first | rfl | k_is)
    (case h0 => first | kernel_rfl | k_is)
    (case p0 => first | kernel_rfl | k_is)
    (case a1 => k_is)
    (case l1 => k_is)
    (case c1 => k_is)
    (case k1 => k_is)
    (case a2 => k_is)
    (case l2 => k_is)
    (case c2 => k_is)
    (case k2 => k_is)
    (case a3 => k_is)
    (case l3 => k_is)
    (case c3 => k_is)
    (case k3 => k_is)
    (case a4 => k_is)
    (case l4 => k_is)
    (case c4 => k_is)
    (case k4 => k_is)
    (case a5 => k_is)
    (case l5 => k_is)
    (case c5 => k_is)
    (case k5 => k_is)
    (case a6 => k_is)
    (case l6 => k_is)
    (case c6 => k_is)
    (case k6 => k_is)
    (case a7 => k_is)
    (case l7 => k_is)
    (case c7 => k_is)
    (case k7 => k_is)
    (case a8 => k_is)
    (case l8 => k_is)
    (case c8 => k_is)
    (case k8 => k_is)
    (case a9 => k_is)
    (case l9 => k_is)
    (case c9 => k_is)
    (case k9 => k_is)
    (case a10 => k_is)
    (case l10 => k_is)
    (case c10 => k_is)
    (case k10 => k_is)
    (case a11 => k_is)
    (case l11 => k_is)
    (case c11 => k_is)
    (case k11 => k_is)
    (case lc11 => k_is)
    (case do11 => first | rfl | k_is)
    (case v11 => first | rfl | k_is)
    (case h11 => first | kernel_rfl | k_is)
    (case p11 => first | kernel_rfl | k_is)
    (case a12 => k_is)
    (case l12 => k_is)
    (case c12 => k_is)
    (case k12 => k_is)
    (case a13 => k_is)
    (case l13 => k_is)
    (case c13 => k_is)
    (case k13 => k_is)
    (case a14 => k_is)
    (case l14 => k_is)
    (case c14 => k_is)
    (case k14 => k_is)
    (case a15 => k_is)
    (case l15 => k_is)
    (case c15 => k_is)
    (case k15 => k_is)
    (case a16 => k_is)
    (case l16 => k_is)
    (case c16 => k_is)
    (case k16 => k_is)
    (case a17 => k_is)
    (case l17 => k_is)
    (case c17 => k_is)
    (case k17 => k_is)
    (case a18 => k_is)
    (case l18 => k_is)
    (case c18 => k_is)
    (case k18 => k_is)
    (case a19 => k_is)
    (case l19 => k_is)
    (case c19 => k_is)
    (case k19 => k_is)
    (case a20 => k_is)
    (case l20 => k_is)
    (case c20 => k_is)
    (case k20 => k_is)
    (case z_isinstance => k_is)
    (case z_str => k_is)
    (case z_len => k_is)
    (case z_all => k_is)
    (case z_any => k_is)
    (case z_tuple => k_is)
    (case z_range => k_is)
    (case z_sorted => k_is)
    (case z_abs => k_is)
    (case z_int => k_is)
    (case z_list => k_is)
    (case g_VOWELS => k_is)
    (case g_OTHERS => k_is)
    (case g_CASES => k_is)
    (case l_CASES => k_is)
    (case j_CASES => first | rfl | k_is)
    (case g_TIMES => k_is)
    (case l_TIMES => k_is)
    (case j_TIMES => first | rfl | k_is)
    (case g_PERSONS => k_is)
    (case l_PERSONS => k_is)
    (case j_PERSONS => first | rfl | k_is)
    (case g_WHO => k_is)
    (case l_WHO => k_is)
    (case j_WHO => first | rfl | k_is)
    (case g_SMALL => k_is)
    (case l_SMALL => k_is)
    (case j_SMALL => first | rfl | k_is)
    (case g_ENDINGS => k_is)
    (case l_ENDINGS => k_is)
    (case j_ENDINGS => first | rfl | k_is)
    (case l_ENDINGS_1 => k_is)
    (case j_ENDINGS_1 => first | rfl | k_is)
    (case l_ENDINGS_0 => k_is)
    (case j_ENDINGS_0 => first | rfl | k_is)
    (case o_ENDINGS => first | kernel_rfl | k_is)
    (case g_AHEAD => k_is)
    (case l_AHEAD => k_is)
    (case j_AHEAD => first | rfl | k_is)
    (case o_AHEAD => first | kernel_rfl | k_is)
    (case A0 => k_is)
    (case K0 => k_is)
    (case Q0 => first | k_exc | k_is | kernel_rfl)
    (case B0 => k_is)
    (case Y0 => k_is)
    (case I0 => k_is)
    (case A1 => k_is)
    (case K1 => k_is)
    (case Q1 => first | k_exc | k_is | kernel_rfl)
    (case B1 => k_is)
    (case Y1 => k_is)
    (case I1 => k_is)
    (case A2 => k_is)
    (case K2 => k_is)
    (case Q2 => first | k_exc | k_is | kernel_rfl)
    (case B2 => k_is)
    (case Y2 => k_is)
    (case I2 => k_is)
    (case A3 => k_is)
    (case K3 => k_is)
    (case Q3 => first | k_exc | k_is | kernel_rfl)
    (case B3 => k_is)
    (case Y3 => k_is)
    (case I3 => k_is)
    (case S0_0 => first | rfl | k_is)
    (case S0_1 => first | rfl | k_is)
    (case S0_2 => first | rfl | k_is)
    (case S0_3 => first | rfl | k_is)
    (case S1_0 => first | rfl | k_is)
    (case S1_1 => first | rfl | k_is)
    (case S1_2 => first | rfl | k_is)
    (case S1_3 => first | rfl | k_is)
    (case S2_0 => first | rfl | k_is)
    (case S2_1 => first | rfl | k_is)
    (case S2_2 => first | rfl | k_is)
    (case S2_3 => first | rfl | k_is)
    (case S3_0 => first | rfl | k_is)
    (case S3_1 => first | rfl | k_is)
    (case S3_2 => first | rfl | k_is)
    (case S3_3 => first | rfl | k_is)
    (case al => k_is)
    (case ll => k_is)
    (case lcd => k_is)
    (case lc => k_is)
    (case dcb => first | rfl | k_is)
    (case vlaw => first | rfl | k_is)
    (case chd => first | kernel_rfl | k_is)
    (case nP => first | kernel_rfl | k_is)
    (case Nl_0 => decide)
    (case Nl_11 => decide)
    (case N0_l => decide)
    (case N0_11 => decide)
    (case N11_l => decide)
    (case N11_0 => decide)
