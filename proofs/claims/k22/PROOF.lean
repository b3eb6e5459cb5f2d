import PyProof.Rows.All
import Wide.All
import OpenK.AllK
import Wide.FinOn
import PyProof.EqAt
import PyProof.EqKinds
import PyProof.TupleCall
import HandS.ForMost
import HandS.ForExc
import KE.SortData
import HandS.TryMany
import HandS.TupAny
import HandS.Lambda
import HandS.EndOwn
import KE.KDictKeyed
import HandS.Deep
import HandS.More
import HandS.Conv
import HandS.SetKeys
import HandS.Strs
import HandS.WordsExc
import HandS.IsInst
import HandS.Style
import KE.SortUse
import PyProof.GenComp
import KE.DataMinKey
import KE.SortKeyHeap
import HandS.ReplaceLit
import PyProof.Rows.StrStrike
import HandS.GenList
import PyProof.Draws
import PyProof.EnumMake
import PyProof.CollectStr
import PyProof.TupleOfSeq
import PyProof.StrOps2
import PyProof.StrLawsFirst
import HandS.Replace
import PyProof.Transfer
import HandS.SetTxt0
import HandS.SetBool
import HandS.Set
import KE.KDictPairs
import HandS.BoundDict
import KE.DataCmp
import HandS.TupSets
import HandS.Rev
import HandS.Zip
import KE.KDictCopyH
import HandS.Nested
import KE.GoesRaise
import HandS.DictComp
import HandS.Text
import KE.KSuper
import KE.KExcSuper
import HandS.ExcInit
import HandS.ExcSuper
import HandS.ExcIs
import PySem.Challenge.RW_tonguehall_k22_refusals_apart
set_option Elab.async false
set_option linter.all false
set_option maxRecDepth 100000
set_option maxHeartbeats 2000000
namespace FL
open PySem
structure LamD where
  ix : Nat
  qual : Str
  params : Arguments
  body : Expr
  scope : Scope
  cl : Option (List (Str × Addr))
  fr : List Str
inductive D where
  | non | bl (b : Bool) | int (i : Int) | str (s : List Nat) | tup (xs : List D) | fls (xs : List D) | fdc (ks : List D) (vs : List D) | ref (n : Nat) | ty (n : String) | adr (a : Addr) | clo (L : LamD) (vs : List D)
inductive O where
  | lst (xs : List D) | dct (kvs : List (D × D)) | ins (c : Nat) (fs : List (Str × D)) | fdk (kvs : List (D × D)) | nkd (ks : List D)
abbrev VH := List O
abbrev DS := List (Option D)
inductive Out (α : Type) where
  | ok (a : α) (h : VH) | err (c : Nat) (p : Option D) (h : VH) | bad
inductive OutS where
  | nx (d : DS) (h : VH) | ret (x : D) (h : VH) | brk (d : DS) (h : VH) | ct (d : DS) (h : VH) | err (c : Nat) (p : Option D) (d : DS) (h : VH) | bad
def Out.bind {α β : Type} (o : Out α) (f : α → VH → Out β) : Out β := match o with
  | .ok a h => f a h
  | .err c p h => .err c p h
  | .bad => .bad
def Out.of {α : Type} : Option (α × VH) → Out α
  | some (d, h) => .ok d h
  | none => .bad
def allS {α : Type} : List (Option α) → Option (List α)
  | [] => some []
  | none :: _ => none
  | some a :: r => match allS r with
    | some l => some (a :: l)
    | none => none
def toP : Nat → VH → D → Option PyData
  | 0, _, _ => none
  | _ + 1, _, .non => some .none
  | _ + 1, _, .bl b => some (.bool b)
  | _ + 1, _, .int i => some (.int i)
  | _ + 1, _, .str s => some (.str ⟨s.toArray⟩)
  | n + 1, h, .tup xs => match allS (xs.map (toP n h)) with
    | some l => some (.tuple l)
    | none => none
  | n + 1, h, .fls xs => match allS (xs.map (toP n h)) with
    | some l => some (.list l)
    | none => none
  | n + 1, h, .ref k => match h[k]? with
    | some (.lst xs) => match allS (xs.map (toP n h)) with
      | some l => some (.list l)
      | none => none
    | _ => none
  | _ + 1, _, .fdc _ _ => none
  | _ + 1, _, .ty _ => none
  | _ + 1, _, .adr _ => none
  | _ + 1, _, .clo _ _ => none
def deep : Nat := 12
def lsOf (x : D) (h : VH) : Option (List D) := match x with
  | .fls xs => some xs
  | .ref k => match h[k]? with
    | some (.lst xs) => some xs
    | _ => none
  | _ => none
abbrev Op1 := D → VH → Option (D × VH)
abbrev Op2 := D → D → VH → Option (D × VH)
def oAdd : Op2
  | .int i, .int j, h => some (.int (i + j), h)
  | .str a, .str b, h => if a.length + b.length ≤ 16777216 then some (.str (a ++ b), h) else none
  | .tup a, .tup b, h => if a.length + b.length ≤ 16777216 then some (.tup (a ++ b), h) else none
  | x, y, h => match lsOf x h, lsOf y h with
    | some a, some b => if a.length + b.length ≤ 16777216 then some (.fls (a ++ b), h) else none
    | _, _ => none
def oSub : Op2
  | .int i, .int j, h => some (.int (i - j), h)
  | _, _, _ => none
def oMul : Op2
  | .int i, .int j, h => if (-18446744073709551616 < i ∧ i < 18446744073709551616) ∨ (-18446744073709551616 < j ∧ j < 18446744073709551616) then some (.int (i * j), h) else none
  | x, .int k, h => match lsOf x h with
    | some a => if -9223372036854775808 ≤ k ∧ k < 9223372036854775808 ∧ a.length * k.toNat ≤ 16777216 then some (.fls (List.replicate k.toNat a).flatten, h) else none
    | none => none
  | _, _, _ => none
def oFdv : Op2
  | .int i, .int j, h => if 0 < j ∧ j < 1073741824 then some (.int (i / j), h) else none
  | _, _, _ => none
def oMod : Op2
  | .int i, .int j, h => if 0 < j then some (.int (i % j), h) else none
  | _, _, _ => none
def oPow : Op2
  | .int i, .int j, h => if 0 ≤ j ∧ j ≤ 1000000 ∧ i.natAbs < 18446744073709551616 then some (.int (i ^ j.toNat), h) else none
  | _, _, _ => none
def eqD (x y : D) (h : VH) : Option Bool := match toP deep h x, toP deep h y with
  | some a, some b => some (PyData.eqv a b)
  | _, _ => none
def cEq : Op2
  | .int i, .int j, h => some (.bl (decide (i = j)), h)
  | .str a, .str b, h => some (.bl (decide (a = b)), h)
  | .bl a, .bl b, h => some (.bl (decide (a = b)), h)
  | x, y, h => match eqD x y h with
    | some b => some (.bl b, h)
    | none => none
def cNe : Op2
  | .int i, .int j, h => some (.bl (!decide (i = j)), h)
  | .str a, .str b, h => some (.bl (!decide (a = b)), h)
  | .bl a, .bl b, h => some (.bl (!decide (a = b)), h)
  | x, y, h => match eqD x y h with
    | some b => some (.bl (!b), h)
    | none => none
def cLt : Op2
  | .int i, .int j, h => some (.bl (decide (i < j)), h)
  | .str a, .str b, h => some (.bl (decide (a < b)), h)
  | _, _, _ => none
def cLe : Op2
  | .int i, .int j, h => some (.bl (decide (i ≤ j)), h)
  | .str a, .str b, h => some (.bl (!decide (b < a)), h)
  | _, _, _ => none
def cGt : Op2
  | .int i, .int j, h => some (.bl (decide (j < i)), h)
  | .str a, .str b, h => some (.bl (decide (b < a)), h)
  | _, _, _ => none
def cGe : Op2
  | .int i, .int j, h => some (.bl (decide (j ≤ i)), h)
  | .str a, .str b, h => some (.bl (!decide (a < b)), h)
  | _, _, _ => none
def keyEq : D → D → Bool
  | .int i, .int j => decide (i = j)
  | .str a, .str b => decide (a = b)
  | _, _ => false
def isKey : D → Bool
  | .int _ => true
  | .str _ => true
  | _ => false
def dGet : List (D × D) → D → Option D
  | [], _ => none
  | (k, v) :: r, x => if keyEq k x = true then some v else dGet r x
def dPut : List (D × D) → D → D → List (D × D)
  | [], x, v => [(x, v)]
  | (k, w) :: r, x, v => if keyEq k x = true then (k, v) :: r else (k, w) :: dPut r x v
def inD (x y : D) (h : VH) : Option Bool := match x, y with
  | .str [c], .str z => some (decide (c ∈ z))
  | x, .tup ys => match toP deep h x, allS (ys.map (toP deep h)) with
    | some a, some l => some (l.any fun z => PyData.eqv z a)
    | _, _ => none
  | x, .fls ys => match toP deep h x, allS (ys.map (toP deep h)) with
    | some a, some l => some (l.any fun z => PyData.eqv z a)
    | _, _ => none
  | x, .fdc ks _ => if isKey x = true then some (ks.any fun k => keyEq k x) else none
  | x, .ref k => match h[k]? with
    | some (.lst ys) => match toP deep h x, allS (ys.map (toP deep h)) with
      | some a, some l => some (l.any fun z => PyData.eqv z a)
      | _, _ => none
    | some (.dct kvs) => if isKey x = true then some (dGet kvs x).isSome else none
    | _ => none
  | _, _ => none
def cIn : Op2 := fun x y h => match inD x y h with
  | some b => some (.bl b, h)
  | none => none
def cNin : Op2 := fun x y h => match inD x y h with
  | some b => some (.bl (!b), h)
  | none => none
def isNon : D → Bool
  | .non => true
  | _ => false
def cIs : Op2
  | x, .non, h => some (.bl (isNon x), h)
  | _, _, _ => none
def cIsn : Op2
  | x, .non, h => some (.bl (!isNon x), h)
  | _, _, _ => none
def fGet : List D → List D → D → Option D
  | k :: ks, v :: vs, x => if keyEq k x = true then some v else fGet ks vs x
  | _, _, _ => none
def seqOf (x : D) (h : VH) : Option (List D) := match x with
  | .tup xs => some xs
  | .fls xs => some xs
  | .ref k => match h[k]? with
    | some (.lst xs) => some xs
    | _ => none
  | _ => none
def tru (x : D) (h : VH) : Option Bool := match x with
  | .non => some false
  | .bl b => some b
  | .int i => some (i != 0)
  | .str s => if s.length ≤ 16777216 then some (!s.isEmpty) else none
  | .tup xs => some (!xs.isEmpty)
  | .fls xs => some (!xs.isEmpty)
  | .ref k => match h[k]? with
    | some (.lst xs) => some (!xs.isEmpty)
    | some (.dct xs) => some (!xs.isEmpty)
    | _ => none
  | _ => none
def ixN (n : Nat) (i : Int) : Option Nat := if 0 ≤ i then (if i < n then some i.toNat else none) else if -(n : Int) ≤ i then some (i + n).toNat else none
def atI {α : Type} (xs : List α) (i : Int) : Option α := match ixN xs.length i with
  | some j => xs[j]?
  | none => none
def sIx (n d : Nat) : Option Int → Nat
  | none => d
  | some v => if v < 0 then (v + (n : Int)).toNat else min v.toNat n
def cut {α : Type} (xs : List α) (lo hi : Option Int) : List α := (xs.drop (sIx xs.length 0 lo)).take (sIx xs.length xs.length hi - sIx xs.length 0 lo)
def oIxR : Option O → D → Option D
  | some (.lst xs), .int i => atI xs i
  | some (.dct kvs), .int i => dGet kvs (.int i)
  | some (.dct kvs), .str i => dGet kvs (.str i)
  | _, _ => none
def oIx : Op2
  | .str s, .int i, h => if s.length ≤ 16777216 then (match atI s i with
    | some c => some (.str [c], h)
    | none => none) else none
  | .tup xs, .int i, h => match atI xs i with
    | some d => some (d, h)
    | none => none
  | .fls xs, .int i, h => match atI xs i with
    | some d => some (d, h)
    | none => none
  | .fdc ks vs, i, h => if isKey i = true then (match fGet ks vs i with
    | some d => some (d, h)
    | none => none) else none
  | .ref k, i, h => match oIxR h[k]? i with
    | some d => some (d, h)
    | none => none
  | _, _, _ => none
def oSl (x : D) (lo hi : Option Int) (h : VH) : Option (D × VH) := match x with
  | .str s => if s.length ≤ 16777216 then some (.str (cut s lo hi), h) else none
  | .tup xs => some (.tup (cut xs lo hi), h)
  | x => match lsOf x h with
    | some xs => some (.fls (cut xs lo hi), h)
    | none => none
def bLen : List D → VH → Option (D × VH)
  | [.str s], h => if s.length ≤ 16777216 then some (.int s.length, h) else none
  | [.tup xs], h => some (.int xs.length, h)
  | [.fls xs], h => some (.int xs.length, h)
  | [.fdc ks _], h => some (.int ks.length, h)
  | [.ref k], h => match h[k]? with
    | some (.lst xs) => some (.int xs.length, h)
    | some (.dct xs) => some (.int xs.length, h)
    | _ => none
  | _, _ => none
def bAbs : List D → VH → Option (D × VH)
  | [.int i], h => some (.int (if i < 0 then -i else i), h)
  | _, _ => none
def bMax2 : List D → VH → Option (D × VH)
  | [.int i, .int j], h => some (.int (if j > i then j else i), h)
  | _, _ => none
def bMin2 : List D → VH → Option (D × VH)
  | [.int i, .int j], h => some (.int (if j < i then j else i), h)
  | _, _ => none
def bInt : List D → VH → Option (D × VH)
  | [.int i], h => some (.int i, h)
  | [.bl b], h => some (.int (if b = true then 1 else 0), h)
  | _, _ => none
def bList : List D → VH → Option (D × VH)
  | [x], h => match seqOf x h with
    | some xs => some (.fls xs, h)
    | none => none
  | _, _ => none
def bTup : List D → VH → Option (D × VH)
  | [x], h => match seqOf x h with
    | some xs => some (.tup xs, h)
    | none => none
  | _, _ => none
def allI : List D → Option (List Int)
  | [] => some []
  | .int i :: r => match allI r with
    | some l => some (i :: l)
    | none => none
  | _ :: _ => none
def allT : List D → Option (List (List Nat))
  | [] => some []
  | .str i :: r => match allT r with
    | some l => some (i :: l)
    | none => none
  | _ :: _ => none
def alikes (l : List PyData) : Bool := l.all fun a => l.all fun b => PySem.W.alike a b
def isTupC : PyData → Bool
  | .tuple (_ :: _) => true
  | _ => false
def isFlat : PyData → Bool
  | .none => false
  | .tuple _ => false
  | _ => true
def sortable (l : List PyData) : Bool := l.all isTupC || l.all isFlat
def sortD (ps : List (D × PyData)) : List D := (ps.mergeSort (PySem.W.dataLe false (·.2))).map (·.1)
def joinL (S : List Nat) : List (List Nat) → List Nat
  | [] => []
  | [a] => a
  | a :: b :: r => a ++ (S ++ joinL S (b :: r))
def splitC (c : Nat) : List Nat → List (List Nat)
  | [] => [[]]
  | x :: r => if x = c then [] :: splitC c r else match splitC c r with
    | a :: l => (x :: a) :: l
    | [] => [[x]]
def mSplit : D → List D → VH → Option (D × VH)
  | .str s, [.str [c]], h => if c < 256 ∧ s.length + 2 ≤ 16777216 then some (.fls ((splitC c s).map D.str), h) else none
  | _, _, _ => none
def mJoin : D → List D → VH → Option (D × VH)
  | .str s, [x], h => match seqOf x h with
    | some xs => match allT xs with
      | some l => if (l.map (·.length)).sum + l.length * s.length ≤ 16777216 then some (.str (joinL s l), h) else none
      | none => none
    | none => none
  | _, _, _ => none
def mAppend : D → List D → VH → Option (D × VH)
  | .ref k, [y], h => match h[k]? with
    | some (.lst xs) => if xs.length < 16777216 then some (.non, h.set k (.lst (xs ++ [y]))) else none
    | _ => none
  | _, _, _ => none
def mExtend : D → List D → VH → Option (D × VH)
  | .ref k, [y], h => match h[k]?, lsOf y h with
    | some (.lst xs), some ys => if xs.length + ys.length ≤ 16777216 then some (.non, h.set k (.lst (xs ++ ys))) else none
    | _, _ => none
  | _, _, _ => none
def findE (l : List PyData) (a : PyData) : Option Nat := l.findIdx? fun z => PyData.eqv z a
def findD (xs : List D) (y : D) (h : VH) : Option Nat := match toP deep h y, allS (xs.map (toP deep h)) with
  | some a, some l => findE l a
  | _, _ => none
def mIndexT : D → List D → VH → Option (D × VH)
  | .tup xs, [y], h => match findD xs y h with
    | some j => some (.int j, h)
    | none => none
  | _, _, _ => none
abbrev FE := DS → VH → Out D
abbrev FA := DS → VH → Out (List D)
abbrev FT := DS → VH → Out Bool
abbrev FSt := DS → VH → OutS
abbrev FG := D → DS → VH → Option (DS × VH)
def eC (d : D) : FE := fun _ h => .ok d h
def eV (i : Nat) : FE := fun δ h => match δ[i]? with
  | some (some d) => .ok d h
  | _ => .bad
def e1 (o : Op1) (a : FE) : FE := fun δ h => (a δ h).bind fun x h => Out.of (o x h)
def e2 (o : Op2) (a b : FE) : FE := fun δ h => (a δ h).bind fun x h => (b δ h).bind fun y h => Out.of (o x y h)
def eIf (t : FT) (a b : FE) : FE := fun δ h => (t δ h).bind fun c h => if c = true then a δ h else b δ h
def aNil : FA := fun _ h => .ok [] h
def aCons (a : FE) (r : FA) : FA := fun δ h => (a δ h).bind fun x h => (r δ h).bind fun xs h => .ok (x :: xs) h
def eTup (r : FA) : FE := fun δ h => (r δ h).bind fun xs h => if xs.length ≤ 16777216 then .ok (.tup xs) h else .bad
def eFl (r : FA) : FE := fun δ h => (r δ h).bind fun xs h => if xs.length ≤ 16777216 then .ok (.fls xs) h else .bad
def eLst (r : FA) : FE := fun δ h => (r δ h).bind fun xs h => if xs.length ≤ 16777216 then .ok (.ref h.length) (h ++ [.lst xs]) else .bad
def eB (o : List D → VH → Option (D × VH)) (r : FA) : FE := fun δ h => (r δ h).bind fun xs h => Out.of (o xs h)
def eF (F : List D → VH → Out D) (r : FA) : FE := fun δ h => (r δ h).bind F
def eM (ty : D → VH → Bool) (o : D → List D → VH → Option (D × VH)) (a : FE) (r : FA) : FE := fun δ h => (a δ h).bind fun x h => if ty x h = true then (r δ h).bind fun xs h => Out.of (o x xs h) else .bad
def isL (x : D) (h : VH) : Bool := match x with
  | .ref k => match h[k]? with
    | some (.lst _) => true
    | _ => false
  | _ => false
def isLs (x : D) (h : VH) : Bool := (lsOf x h).isSome
def isT (x : D) (_ : VH) : Bool := match x with
  | .tup _ => true
  | _ => false
def isS (x : D) (_ : VH) : Bool := match x with
  | .str _ => true
  | _ => false
abbrev FO := DS → VH → Out (Option Int)
def pNo : FO := fun _ h => .ok none h
def pSo (a : FE) : FO := fun δ h => (a δ h).bind fun x h => match x with
  | .int i => .ok (some i) h
  | _ => .bad
def eSl (a : FE) (lo hi : FO) : FE := fun δ h => (a δ h).bind fun x h => (lo δ h).bind fun l h => (hi δ h).bind fun u h => Out.of (oSl x l u h)
def eCh (o p : Op2) (a b c : FE) : FE := fun δ h => (a δ h).bind fun x h => (b δ h).bind fun y h => match o x y h with
  | some (.bl true, h) => (c δ h).bind fun z h => Out.of (p y z h)
  | some (.bl false, h) => .ok (.bl false) h
  | _ => .bad
def tV (a : FE) : FT := fun δ h => (a δ h).bind fun x h => match x with
  | .bl b => .ok b h
  | _ => .bad
def tTr (a : FE) : FT := fun δ h => (a δ h).bind fun x h => match tru x h with
  | some b => .ok b h
  | none => .bad
def tAnd (a b : FT) : FT := fun δ h => (a δ h).bind fun c h => if c = true then b δ h else .ok false h
def tOr (a b : FT) : FT := fun δ h => (a δ h).bind fun c h => if c = true then .ok true h else b δ h
def tNot (a : FT) : FT := fun δ h => (a δ h).bind fun c h => .ok (!c) h
def tYes : FT := fun _ h => .ok true h
def thenS {α : Type} (δ : DS) (o : Out α) (k : α → VH → OutS) : OutS := match o with
  | .ok x h => k x h
  | .err c p h => .err c p δ h
  | .bad => .bad
def nextS (o : OutS) (k : DS → VH → OutS) : OutS := match o with
  | .nx δ h => k δ h
  | .brk δ h => .brk δ h
  | .ct δ h => .ct δ h
  | .ret x h => .ret x h
  | .err c p δ h => .err c p δ h
  | .bad => .bad
def loopS (o : OutS) (k : DS → VH → OutS) : OutS := match o with
  | .nx δ h => k δ h
  | .ct δ h => k δ h
  | .brk δ h => .nx δ h
  | .ret x h => .ret x h
  | .err c p δ h => .err c p δ h
  | .bad => .bad
def tgS (o : Option (DS × VH)) (k : DS → VH → OutS) : OutS := match o with
  | some (δ, h) => k δ h
  | none => .bad
def sNil : FSt := fun δ h => .nx δ h
def sSeq (a b : FSt) : FSt := fun δ h => nextS (a δ h) b
def sEx (a : FE) : FSt := fun δ h => thenS δ (a δ h) fun _ h => .nx δ h
def sRet (a : FE) : FSt := fun δ h => thenS δ (a δ h) fun x h => .ret x h
def sRetN : FSt := fun _ h => .ret .non h
def sAs (a : FE) (g : FG) : FSt := fun δ h => thenS δ (a δ h) fun x h => tgS (g x δ h) fun δ h => .nx δ h
def sIf (t : FT) (a b : FSt) : FSt := fun δ h => thenS δ (t δ h) fun c h => if c = true then a δ h else b δ h
def sCt : FSt := fun δ h => .ct δ h
def sBr : FSt := fun δ h => .brk δ h
def sRaise (c : Nat) : FSt := fun δ h => .err c none δ h
def gN (i : Nat) : FG := fun x δ h => some (δ.set i (some x), h)
abbrev FGs := List D → DS → VH → Option (DS × VH)
def gNil : FGs := fun xs δ h => match xs with
  | [] => some (δ, h)
  | _ => none
def gCons (g : FG) (r : FGs) : FGs := fun xs δ h => match xs with
  | x :: xs => match g x δ h with
    | some (δ, h) => r xs δ h
    | none => none
  | [] => none
def gT (n : Nat) (r : FGs) : FG := fun x δ h => match seqOf x h with
  | some xs => if xs.length = n then r xs δ h else none
  | none => none
def sPar (i j : Nat) (r : FA) : FSt := fun δ h => thenS δ (r δ h) fun xs h => match xs with
  | [x, y] => .nx ((δ.set i (some x)).set j (some y)) h
  | _ => .bad
def sAug (i : Nat) (o : Op2) (a : FE) : FSt := fun δ h => match δ[i]? with
  | some (some x) => thenS δ (a δ h) fun y h => match o x y h with
    | some (z, h) => .nx (δ.set i (some z)) h
    | none => .bad
  | _ => .bad
def setL : D → D → D → VH → Option VH
  | .ref k, .int i, v, h => match h[k]? with
    | some (.lst xs) => match ixN xs.length i with
      | some j => some (h.set k (.lst (xs.set j v)))
      | none => none
    | _ => none
  | _, _, _, _ => none
def setD : D → D → D → VH → Option VH
  | .ref k, i, v, h => match h[k]? with
    | some (.dct kvs) => if isKey i = true ∧ kvs.length < 16777216 then some (h.set k (.dct (dPut kvs i v))) else none
    | _ => none
  | _, _, _, _ => none
def sSub (f : D → D → D → VH → Option VH) (a o i : FE) : FSt := fun δ h => thenS δ (a δ h) fun x h => thenS δ (o δ h) fun y h => thenS δ (i δ h) fun z h => match f y z x h with
  | some h => .nx δ h
  | none => .bad
def forT (g : FG) (b : FSt) : List D → DS → VH → OutS
  | [], δ, h => .nx δ h
  | x :: xs, δ, h => tgS (g x δ h) fun δ h => loopS (b δ h) (forT g b xs)
def forL (k : Nat) (g : FG) (b : FSt) : Nat → Nat → DS → VH → OutS
  | 0, _, _, _ => .bad
  | f + 1, i, δ, h => match h[k]? with
    | some (.lst xs) => match xs[i]? with
      | none => .nx δ h
      | some x => tgS (g x δ h) fun δ h => loopS (b δ h) (forL k g b f (i + 1))
    | _ => .bad
def forX (g : FG) (b : FSt) (x : D) (δ : DS) (h : VH) : OutS := match x with
  | .tup xs => forT g b xs δ h
  | .fls xs => forT g b xs δ h
  | .fdc ks _ => forT g b ks δ h
  | .str s => forT g b (s.map fun c => .str [c]) δ h
  | .ref k => match h[k]? with
    | some (.lst xs) => forL k g b (xs.length + 1) 0 δ h
    | _ => .bad
  | _ => .bad
def sFor (a : FE) (g : FG) (b : FSt) : FSt := fun δ h => thenS δ (a δ h) fun x h => forX g b x δ h
def rng (lo hi : Int) : List D := (List.range (hi - lo).toNat).map fun (k : Nat) => D.int (lo + k)
def okR (i j : Int) : Bool := decide (-4611686018427387904 ≤ i ∧ i < 4611686018427387904 ∧ -4611686018427387904 ≤ j ∧ j < 4611686018427387904)
def rEnds : List D → Option (Int × Int)
  | [.int j] => if okR 0 j = true then some (0, j) else none
  | [.int i, .int j] => if okR i j = true then some (i, j) else none
  | _ => none
def sForR (r : FA) (g : FG) (b : FSt) : FSt := fun δ h => thenS δ (r δ h) fun xs h => match rEnds xs with
  | some (i, j) => forT g b (rng i j) δ h
  | none => .bad
def wipe (δ : DS) : List Nat → DS
  | [] => δ
  | v :: vs => (wipe δ vs).set v none
def lcT (g : FG) (t : FT) (e : FE) (own : List Nat) (δ : DS) : List D → VH → List D → Out (List D)
  | [], h, acc => .ok acc h
  | x :: xs, h, acc => match g x (wipe δ own) h with
    | none => .bad
    | some (δ1, h) => match t δ1 h with
      | .ok false h => lcT g t e own δ xs h acc
      | .ok true h => match e δ1 h with
        | .ok y h => if acc.length < 16777216 then lcT g t e own δ xs h (acc ++ [y]) else .bad
        | _ => .bad
      | _ => .bad
def lcL (j : Nat) (g : FG) (t : FT) (e : FE) (own : List Nat) (δ : DS) : Nat → Nat → VH → List D → Out (List D)
  | 0, _, _, _ => .bad
  | f + 1, i, h, acc => match h[j]? with
    | some (.lst xs) => match xs[i]? with
      | none => .ok acc h
      | some x => match g x (wipe δ own) h with
        | none => .bad
        | some (δ1, h) => match t δ1 h with
          | .ok false h => lcL j g t e own δ f (i + 1) h acc
          | .ok true h => match e δ1 h with
            | .ok y h => if acc.length < 16777216 then lcL j g t e own δ f (i + 1) h (acc ++ [y]) else .bad
            | _ => .bad
          | _ => .bad
    | _ => .bad
def lcEnd (o : Out (List D)) : Out D := match o with
  | .ok xs h => .ok (.fls xs) h
  | _ => .bad
def lcX (g : FG) (t : FT) (e : FE) (own : List Nat) (δ : DS) (x : D) (h : VH) : Out D := match x with
  | .tup xs => lcEnd (lcT g t e own δ xs h [])
  | .fls xs => lcEnd (lcT g t e own δ xs h [])
  | .fdc ks _ => lcEnd (lcT g t e own δ ks h [])
  | .str s => lcEnd (lcT g t e own δ (s.map fun c => .str [c]) h [])
  | .ref j => match h[j]? with
    | some (.lst xs) => lcEnd (lcL j g t e own δ (xs.length + 1) 0 h [])
    | _ => .bad
  | _ => .bad
def eLc (a : FE) (g : FG) (t : FT) (e : FE) (own : List Nat) : FE := fun δ h => (a δ h).bind fun x h => lcX g t e own δ x h
def eLcR (r : FA) (g : FG) (t : FT) (e : FE) (own : List Nat) : FE := fun δ h => (r δ h).bind fun xs h => match rEnds xs with
  | some (i, j) => lcEnd (lcT g t e own δ (rng i j) h [])
  | none => .bad
def endF : OutS → Out D
  | .ret x h => .ok x h
  | .nx _ h => .ok .non h
  | .err c p _ h => .err c p h
  | _ => .bad
def runF (np n : Nat) (b : FSt) : List D → VH → Out D := fun ds h => if ds.length = np then endF (b (ds.map some ++ List.replicate (n - ds.length) none) h) else .bad
end FL
set_option Elab.async false
set_option linter.all false
set_option maxRecDepth 100000
set_option maxHeartbeats 2000000
namespace FL
open PySem PySem.Spec PyProof.Rows L2
structure Gc where
  T : List (Addr × Str)
  cs : List Addr
  /-- the classes of instances -/
  ks : List Addr := []
  /-- the hash of a nested key -/
  hw : NestedKey → Int := fun _ => 0
def okS (l : List Nat) : Bool := l.all (· < 1114112)
theorem okS.append {a b : List Nat} (h : okS a = true) (h' : okS b = true) : okS (a ++ b) = true := by
  unfold okS at *
  rw [List.all_append, h, h'] <;> rfl
theorem okS.sub {a b : List Nat} (h : okS a = true) (hs : ∀ c ∈ b, c ∈ a) : okS b = true := by
  unfold okS at *
  rw [List.all_eq_true] at *
  exact fun c hc => h c (hs c hc)
def Frz (K : PySem.W.Frag) (H : Hp) (a : Addr) (vs : List V) : Prop :=
  (∃ o, H a = some (.frz o (.lst vs))) ∨ ∃ (o : Obj) (its : Array Value) (n : Nat), K.lookup a = some o ∧ o.cls = .type "list" ∧ o.dict = none ∧ o.data = .seq its n ∧ its.size ≤ sizeLine ∧ Vals vs its.toList
theorem Frz.seq {K : PySem.W.Frag} {H : Hp} {a : Addr} {vs : List V} (h : Frz K H a vs) : SqL K H a vs := by
  rcases h with ⟨o, h⟩ | h
  · exact .inl (.inr ⟨o, h⟩)
  · exact .inr h
def Plt (K : PySem.W.Frag) (H : Hp) (a : Addr) (vs : List V) : Prop :=
  (∃ o, H a = some (.frz o (.tup vs)) ∧ o.dict = none) ∨ ∃ (o : Obj) (its : Array Value) (n : Nat), K.lookup a = some o ∧ o.cls = .type "tuple" ∧ o.dict = none ∧ o.data = .seq its n ∧ its.size ≤ sizeLine ∧ Vals vs its.toList
theorem Plt.sq {K : PySem.W.Frag} {H : Hp} {a : Addr} {vs : List V} (h : Plt K H a vs) : SqT K H a vs := by
  rcases h with ⟨o, h, _⟩ | ⟨o, its, n, h1, h2, h3, h4, h5, h6⟩
  · exact .inl (.inr ⟨o, h⟩)
  · exact .inr ⟨o, its, n, h1, h2, h4, h5, h6⟩
theorem Plt.of {K : PySem.W.Frag} {H : Hp} {a : Addr} {vs : List V} {o : Obj} (h : H a = some (.frz o (.tup vs))) (ho : o.dict = none) : Plt K H a vs := .inl ⟨o, h, ho⟩
structure Imm (H H' : Hp) : Prop where
  tup : ∀ a xs, H a = some (.tup xs) → H' a = some (.tup xs)
  frz : ∀ a o u, H a = some (.frz o u) → H' a = some (.frz o u)
  code : ∀ a q, H a = some (LamX.CodeO a q) → H' a = some (LamX.CodeO a q)
theorem Imm.refl (H : Hp) : Imm H H := ⟨fun _ _ h => h, fun _ _ _ h => h, fun _ _ h => h⟩
theorem Imm.trans {H H1 H2 : Hp} (a : Imm H H1) (b : Imm H1 H2) : Imm H H2 := ⟨fun c xs h => b.tup c xs (a.tup c xs h), fun c o u h => b.frz c o u (a.frz c o u h), fun c q h => b.code c q (a.code c q h)⟩
theorem Imm.plt {K : PySem.W.Frag} {H H' : Hp} {a : Addr} {xs : List V} (i : Imm H H') (h : Plt K H a xs) : Plt K H' a xs := by
  rcases h with ⟨o, h, ho⟩ | h
  · exact .inl ⟨o, i.frz _ _ _ h, ho⟩
  · exact .inr h
theorem Imm.fz {K : PySem.W.Frag} {H H' : Hp} {a : Addr} {xs : List V} (i : Imm H H') (h : Frz K H a xs) : Frz K H' a xs := by
  rcases h with ⟨o, h⟩ | h
  · exact .inl ⟨o, i.frz _ _ _ h⟩
  · exact .inr h
theorem Imm.new {H : Hp} {p : Addr} {o : HO} (hp : H p = none) : Imm H (upd H p o) :=
  ⟨fun a xs h => by rw [upd_ne (ne_of_none h hp)]; exact h, fun a ob u h => by rw [upd_ne (ne_of_none h hp)]; exact h, fun a q h => by rw [upd_ne (ne_of_none h hp)]; exact h⟩
def LamO (a : Addr) (L : LamD) (cl : List (Str × Addr)) (c' : Addr) : HO := .ext fun h => ∃ pm ctv, h.get? a = some (PySem.W.kla_obj "<lambda>" L.qual L.params L.body L.scope cl pm c' ctv)
def CellO (c : Addr) (v : V) : HO := .ext fun h => ∃ u, RelV v u ∧ h.IsCell c (some u)
def CapOk (H : Hp) (cl : List (Str × Addr)) (L : LamD) (vs : List V) : Prop := match L.cl with
  | some l => cl = l ∧ vs = []
  | none => (∀ x y c, cl.lookup x = some c → cl.lookup y = some c → x = y) ∧ (∀ x c, cl.lookup x = some c → x ∈ L.fr) ∧ vs.length = L.fr.length ∧
    ∀ (j : Nat) (y : Str), L.fr[j]? = some y → ∃ c v o, cl.lookup y = some c ∧ H c = some (.frz o (CellO c v)) ∧ vs[j]? = some v
theorem CapOk.imm {H H' : Hp} {cl : List (Str × Addr)} {L : LamD} {vs : List V} (i : Imm H H') (h : CapOk H cl L vs) : CapOk H' cl L vs := by
  unfold CapOk at *
  split at h
  · exact h
  · exact ⟨h.1, h.2.1, h.2.2.1, fun j y e => let ⟨c, v, o, a, b, d⟩ := h.2.2.2 j y e; ⟨c, v, o, a, i.frz _ _ _ b, d⟩⟩
def kD : Key → D
  | .inl i => .int i
  | .inr x => .str x.cps.toList
def okK : Key → Bool
  | .inl _ => true
  | .inr x => okS x.cps.toList
mutual
/-- the value d of the layer is the value v of the abstract heap H; objects stand where m tells, n of them -/
inductive RD (K : PySem.W.Frag) (m : Nat → Addr) (n : Nat) (H : Hp) : D → V → Prop
  | non : RD K m n H .non .non
  | bl (b : Bool) : RD K m n H (.bl b) (.bl b)
  | int (i : Int) : RD K m n H (.int i) (.int i)
  | str {l : List Nat} : okS l = true → RD K m n H (.str l) (.str ⟨l.toArray⟩)
  | tup {a : Addr} {xs : List D} {vs : List V} : Plt K H a vs → RDs K m n H xs vs → RD K m n H (.tup xs) (.ref a)
  | fls {a : Addr} {xs : List D} {vs : List V} : Frz K H a vs → RDs K m n H xs vs → RD K m n H (.fls xs) (.ref a)
  | fdc {a : Addr} {ks ds : List D} {o : Obj} {kvs : List (Key × V)} : H a = some (.frz o (.dK kvs)) → ks = kvs.map (fun p => kD p.1) → (∀ p ∈ kvs, okK p.1 = true) → RDs K m n H ds (kvs.map (·.2)) → RD K m n H (.fdc ks ds) (.ref a)
  | ref {k : Nat} : k < n → RD K m n H (.ref k) (.ref (m k))
  | ty (s : String) : RD K m n H (.ty s) (.ty s)
  | adr (a : Addr) : RD K m n H (.adr a) (.ref a)
  | clo {L : LamD} {ds : List D} {a c' : Addr} {cl : List (Str × Addr)} {o : Obj} {vs : List V} : H a = some (.frz o (LamO a L cl c')) → H c' = some (LamX.CodeO c' L.qual) → CapOk H cl L vs → RDs K m n H ds vs → RD K m n H (.clo L ds) (.ref a)
inductive RDs (K : PySem.W.Frag) (m : Nat → Addr) (n : Nat) (H : Hp) : List D → List V → Prop
  | nil : RDs K m n H [] []
  | cons {x : D} {v : V} {xs : List D} {vs : List V} : RD K m n H x v → RDs K m n H xs vs → RDs K m n H (x :: xs) (v :: vs)
end
section
variable {K : PySem.W.Frag} {m m' : Nat → Addr} {n n' : Nat} {H H' : Hp}
mutual
theorem RD.mono (hn : n ≤ n') (hm : ∀ k, k < n → m' k = m k) (hi : Imm H H') : ∀ (d : D) (v : V), RD K m n H d v → RD K m' n' H' d v
  | .non, _, h => by cases h; exact .non
  | .bl _, _, h => by cases h; exact .bl _
  | .int _, _, h => by cases h; exact .int _
  | .str _, _, h => by cases h with | str hl => exact .str hl
  | .tup xs, _, h => by
    cases h with
    | tup h1 h2 => exact .tup (hi.plt h1) (RDs.mono hn hm hi xs _ h2)
  | .fls xs, _, h => by
    cases h with
    | fls h1 h2 => exact .fls (hi.fz h1) (RDs.mono hn hm hi xs _ h2)
  | .fdc ks ds, _, h => by
    cases h with
    | fdc h1 h2 h3 h4 => exact .fdc (hi.frz _ _ _ h1) h2 h3 (RDs.mono hn hm hi ds _ h4)
  | .ref k, _, h => by
    cases h with
    | ref hk =>
      rw [← hm k hk]
      exact .ref (Nat.lt_of_lt_of_le hk hn)
  | .ty _, _, h => by cases h; exact .ty _
  | .adr _, _, h => by cases h; exact .adr _
  | .clo L ds, _, h => by
    cases h with
    | clo h1 h2 h3 h4 => exact .clo (hi.frz _ _ _ h1) (hi.code _ _ h2) (h3.imm hi) (RDs.mono hn hm hi ds _ h4)
theorem RDs.mono (hn : n ≤ n') (hm : ∀ k, k < n → m' k = m k) (hi : Imm H H') : ∀ (d : List D) (v : List V), RDs K m n H d v → RDs K m' n' H' d v
  | [], _, h => by cases h; exact .nil
  | x :: xs, _, h => by
    cases h with
    | cons h1 h2 => exact .cons (RD.mono hn hm hi x _ h1) (RDs.mono hn hm hi xs _ h2)
end
theorem RDs.length : ∀ {xs : List D} {vs : List V}, RDs K m n H xs vs → xs.length = vs.length
  | [], _, h => by cases h; rfl
  | x :: xs, _, h => by
    cases h with
    | cons h1 h2 => rw [List.length_cons, List.length_cons, RDs.length h2]
theorem RDs.get : ∀ {xs : List D} {vs : List V} {i : Nat} {x : D}, RDs K m n H xs vs → xs[i]? = some x → ∃ v, vs[i]? = some v ∧ RD K m n H x v
  | [], _, _, _, _, e => by simp at e
  | x :: xs, _, 0, y, h, e => by
    cases h with
    | cons h1 h2 =>
      simp at e
      subst e
      exact ⟨_, rfl, h1⟩
  | x :: xs, _, i + 1, y, h, e => by
    cases h with
    | cons h1 h2 =>
      obtain ⟨v, e1, r⟩ := RDs.get (i := i) h2 (by simpa using e)
      exact ⟨v, by simpa using e1, r⟩
theorem RDs.append : ∀ {xs ys : List D} {vs ws : List V}, RDs K m n H xs vs → RDs K m n H ys ws → RDs K m n H (xs ++ ys) (vs ++ ws)
  | [], _, _, _, h, h' => by cases h; exact h'
  | x :: xs, _, _, _, h, h' => by
    cases h with
    | cons h1 h2 => exact .cons h1 (RDs.append h2 h')
theorem RDs.take : ∀ {xs : List D} {vs : List V} (k : Nat), RDs K m n H xs vs → RDs K m n H (xs.take k) (vs.take k)
  | _, _, 0, _ => by simp only [List.take_zero]; exact .nil
  | [], _, k + 1, h => by cases h; exact .nil
  | x :: xs, _, k + 1, h => by
    cases h with
    | cons h1 h2 => exact .cons h1 (RDs.take k h2)
theorem RDs.drop : ∀ {xs : List D} {vs : List V} (k : Nat), RDs K m n H xs vs → RDs K m n H (xs.drop k) (vs.drop k)
  | _, _, 0, h => h
  | [], _, k + 1, h => by cases h; exact .nil
  | x :: xs, _, k + 1, h => by
    cases h with
    | cons h1 h2 => exact RDs.drop k h2
theorem RDs.set : ∀ {xs : List D} {vs : List V} (k : Nat) {y : D} {w : V}, RDs K m n H xs vs → RD K m n H y w → RDs K m n H (xs.set k y) (vs.set k w)
  | [], _, _, _, _, h, _ => by cases h; exact .nil
  | x :: xs, _, 0, _, _, h, r => by
    cases h with
    | cons h1 h2 => exact .cons r h2
  | x :: xs, _, k + 1, _, _, h, r => by
    cases h with
    | cons h1 h2 => exact .cons h1 (RDs.set k h2 r)
theorem RDs.reverse : ∀ {xs : List D} {vs : List V}, RDs K m n H xs vs → RDs K m n H xs.reverse vs.reverse
  | [], _, h => by cases h; exact .nil
  | x :: xs, _, h => by
    cases h with
    | cons h1 h2 =>
      rw [List.reverse_cons, List.reverse_cons]
      exact (RDs.reverse h2).append (.cons h1 .nil)
theorem RDs.map {f : D → D} {g : V → V} (hf : ∀ d v, RD K m n H d v → RD K m n H (f d) (g v)) : ∀ {xs : List D} {vs : List V}, RDs K m n H xs vs → RDs K m n H (xs.map f) (vs.map g)
  | [], _, h => by cases h; exact .nil
  | x :: xs, _, h => by
    cases h with
    | cons h1 h2 => exact .cons (hf _ _ h1) (RDs.map hf h2)
theorem RDs.ints : ∀ (l : List Int), RDs K m n H (l.map D.int) (l.map V.int)
  | [] => .nil
  | x :: l => .cons (.int x) (RDs.ints l)
theorem RDs.strs : ∀ (l : List (List Nat)), (∀ x ∈ l, okS x = true) → RDs K m n H (l.map D.str) (l.map fun c => V.str ⟨c.toArray⟩)
  | [], _ => .nil
  | x :: l, h => .cons (.str (h x List.mem_cons_self)) (RDs.strs l fun y hy => h y (List.mem_cons_of_mem _ hy))
end
inductive RKs (K : PySem.W.Frag) (m : Nat → Addr) (n : Nat) (H : Hp) : List (D × D) → List (Key × V) → Prop
  | nil : RKs K m n H [] []
  | cons {k : Key} {x : D} {v : V} {xs : List (D × D)} {vs : List (Key × V)} : okK k = true → RD K m n H x v → RKs K m n H xs vs → RKs K m n H ((kD k, x) :: xs) ((k, v) :: vs)
inductive RFs (K : PySem.W.Frag) (m : Nat → Addr) (n : Nat) (H : Hp) : List (Str × D) → List (Str × V) → Prop
  | nil : RFs K m n H [] []
  | cons {f : Str} {x : D} {v : V} {xs : List (Str × D)} {vs : List (Str × V)} : RD K m n H x v → RFs K m n H xs vs → RFs K m n H ((f, x) :: xs) ((f, v) :: vs)
mutual
def nkOf : D → Option NestedKey
  | .non => some NestedKey.none
  | .bl b => some (NestedKey.num (if b = true then 1 else 0))
  | .str s => some (NestedKey.text ⟨s.toArray⟩)
  | .tup xs => match nksOf xs with
    | some l => some (NestedKey.tup l)
    | none => none
  | _ => none
def nksOf : List D → Option (List NestedKey)
  | [] => some []
  | x :: xs => match nkOf x, nksOf xs with
    | some k, some l => some (k :: l)
    | _, _ => none
end
def RawD (a : Addr) (es : Array DictEntry) (ep : Nat) : HO := .ext fun h => ∃ o, h.get? a = some o ∧ o.ExactDict ∧ o.data = .dict es ep
structure NkIs (K : PySem.W.Frag) (g : Gc) (m : Nat → Addr) (n : Nat) (H : Hp) (a : Addr) (ks : List D) (es : Array DictEntry) (ep : Nat) (xs : List (NestedKey × Addr × Value)) : Prop where
  at_ : H a = some (RawD a es ep)
  sy : (a == sysModules) = false
  es_ : es.toList = xs.map fun x => ⟨g.hw x.1, .ref x.2.1, x.2.2⟩
  nk : nksOf ks = some (xs.map (·.1))
  nd : (xs.map (·.1)).Nodup
  tr : ∀ x ∈ xs, x.2.2 = .bool true
  dp : ∀ x ∈ xs, x.1.depth ≤ 8
  rd : RDs K m n H ks (xs.map fun x => V.ref x.2.1)
def RO (K : PySem.W.Frag) (g : Gc) (m : Nat → Addr) (n : Nat) (H : Hp) (a : Addr) : O → Prop
  | .lst xs => ∃ vs, H a = some (.lst vs) ∧ RDs K m n H xs vs
  | .dct kvs => ∃ vs, H a = some (.dK vs) ∧ RKs K m n H kvs vs
  | .ins c fs => ∃ C dx vs, g.ks[c]? = some C ∧ H a = some (.ins C dx vs) ∧ RFs K m n H fs vs
  | .fdk kvs => ∃ o vs, H a = some (.frz o (.dK vs)) ∧ RKs K m n H kvs vs
  | .nkd ks => ∃ es ep xs, NkIs K g m n H a ks es ep xs
structure Sim (K : PySem.W.Frag) (g : Gc) (m : Nat → Addr) (h : VH) (H : Hp) : Prop where
  inj : ∀ i j, i < h.length → j < h.length → m i = m j → i = j
  obj : ∀ i o, h[i]? = some o → RO K g m h.length H (m i) o
  tab : LamX.Tabs g.T H
section
variable {K : PySem.W.Frag} {g : Gc} {m m' : Nat → Addr} {n n' : Nat} {H H' : Hp} {h : VH}
theorem RKs.mono (hn : n ≤ n') (hm : ∀ k, k < n → m' k = m k) (hi : Imm H H') : ∀ {d : List (D × D)} {v : List (Key × V)}, RKs K m n H d v → RKs K m' n' H' d v
  | _, _, .nil => .nil
  | _, _, .cons h0 h1 h2 => .cons h0 (RD.mono hn hm hi _ _ h1) (RKs.mono hn hm hi h2)
theorem RFs.mono (hn : n ≤ n') (hm : ∀ k, k < n → m' k = m k) (hi : Imm H H') : ∀ {d : List (Str × D)} {v : List (Str × V)}, RFs K m n H d v → RFs K m' n' H' d v
  | _, _, .nil => .nil
  | _, _, .cons h1 h2 => .cons (RD.mono hn hm hi _ _ h1) (RFs.mono hn hm hi h2)
theorem RO.mono (hn : n ≤ n') (hm : ∀ k, k < n → m' k = m k) (hi : Imm H H') {a : Addr} (ha : H' a = H a) : ∀ {o : O}, RO K g m n H a o → RO K g m' n' H' a o
  | .lst xs, ⟨vs, h1, h2⟩ => ⟨vs, ha.trans h1, RDs.mono hn hm hi _ _ h2⟩
  | .dct xs, ⟨vs, h1, h2⟩ => ⟨vs, ha.trans h1, h2.mono hn hm hi⟩
  | .ins c xs, ⟨C, dx, vs, h0, h1, h2⟩ => ⟨C, dx, vs, h0, ha.trans h1, h2.mono hn hm hi⟩
  | .fdk xs, ⟨o, vs, h1, h2⟩ => ⟨o, vs, ha.trans h1, h2.mono hn hm hi⟩
  | .nkd ks, ⟨es, ep, xs, x⟩ => ⟨es, ep, xs, ha.trans x.at_, x.sy, x.es_, x.nk, x.nd, x.tr, x.dp, RDs.mono hn hm hi _ _ x.rd⟩
def Std (u : HO) : Prop := L2.Mut (some u) ∨ ∃ o v, u = .frz o v
theorem RO.some {a : Addr} : ∀ {o : O}, RO K g m n H a o → ∃ u, H a = some u ∧ Std u
  | .lst xs, ⟨vs, h1, _⟩ => ⟨_, h1, .inl trivial⟩
  | .dct xs, ⟨vs, h1, _⟩ => ⟨_, h1, .inl trivial⟩
  | .ins c xs, ⟨C, dx, vs, _, h1, _⟩ => ⟨_, h1, .inl trivial⟩
  | .fdk xs, ⟨o, vs, h1, _⟩ => ⟨_, h1, .inr ⟨_, _, rfl⟩⟩
  | .nkd ks, ⟨es, ep, xs, x⟩ => ⟨_, x.at_, .inl trivial⟩
theorem Sim.there (s : Sim K g m h H) {i : Nat} (hi : i < h.length) : ∃ u, H (m i) = some u ∧ Std u := (s.obj i h[i] (by simp [hi])).some
def FrO : HO → Prop
  | .lst _ => True
  | .dK _ => True
  | .set _ _ => True
  | .ext _ => True
  | _ => False
def Fre : Option HO → Prop
  | none => True
  | some (.tbl _) => True
  | _ => False
theorem Fre.no {o : HO} (h : Fre (some o)) (f : FrO o) : False := by
  cases o <;> first | exact h | exact f
theorem Fre.noM {o : HO} (h : Fre (some o)) (f : Std o) : False := by
  rcases f with f | ⟨_, _, rfl⟩
  · cases o <;> first | exact h | exact f
  · exact h
theorem Fre.non {o : Option HO} (h : o = none) : Fre o := by rw [h]; trivial
structure Ext (m : Nat → Addr) (n : Nat) (H : Hp) (m' : Nat → Addr) (n' : Nat) (H' : Hp) : Prop where
  le : n ≤ n'
  eq : ∀ k, k < n → m' k = m k
  im : Imm H H'
  /-- a list or dict that the virtual heap does not hold stays -/
  fr : ∀ a o, (∀ k, k < n → m k ≠ a) → H a = some o → FrO o → H' a = some o
  /-- new objects were not there -/
  nw : ∀ k, n ≤ k → k < n' → Fre (H (m' k))
  al : ∀ a, Fre (H' a) → Fre (H a)
theorem Ext.refl : Ext m n H m n H := ⟨Nat.le_refl _, fun _ _ => rfl, Imm.refl _, fun _ _ _ h _ => h, fun k h1 h2 => by omega, fun _ h => h⟩
theorem Ext.trans {m1 m2 : Nat → Addr} {n1 n2 : Nat} {H1 H2 : Hp} (a : Ext m n H m1 n1 H1) (b : Ext m1 n1 H1 m2 n2 H2) : Ext m n H m2 n2 H2 :=
  ⟨Nat.le_trans a.le b.le, fun k hk => (b.eq k (Nat.lt_of_lt_of_le hk a.le)).trans (a.eq k hk), a.im.trans b.im, fun x o hx h hf => b.fr x o (fun k hk e => by
    by_cases hn : k < n
    · exact hx k hn ((a.eq k hn).symm.trans e)
    · have := a.nw k (by omega) hk
      rw [e, h] at this
      exact Fre.no this hf) (a.fr x o hx h hf) hf, fun k h1 h2 => by
    by_cases hn : k < n1
    · rw [b.eq k hn]
      exact a.nw k h1 hn
    · exact a.al _ (b.nw k (by omega) h2), fun x h => a.al x (b.al x h)⟩
theorem Ext.rd (e : Ext m n H m' n' H') {d : D} {v : V} (r : RD K m n H d v) : RD K m' n' H' d v := RD.mono e.le e.eq e.im _ _ r
theorem Ext.rds (e : Ext m n H m' n' H') {d : List D} {v : List V} (r : RDs K m n H d v) : RDs K m' n' H' d v := RDs.mono e.le e.eq e.im _ _ r
def RS (K : PySem.W.Frag) (m : Nat → Addr) (n : Nat) (H : Hp) (δ : DS) (σ : L2.St) : Prop := δ.length = σ.length ∧ ∀ (i : Nat) (d : D), δ[i]? = some (some d) → ∃ v, σ[i]? = some (some v) ∧ RD K m n H d v
theorem Ext.rs (e : Ext m n H m' n' H') {δ : DS} {σ : L2.St} (r : RS K m n H δ σ) : RS K m' n' H' δ σ :=
  ⟨r.1, fun i d hd => let ⟨v, h1, h2⟩ := r.2 i d hd; ⟨v, h1, e.rd h2⟩⟩
theorem RS.set {δ : DS} {σ : L2.St} (r : RS K m n H δ σ) (i : Nat) {d : D} {v : V} (q : RD K m n H d v) : RS K m n H (δ.set i (some d)) (σ.set i (some v)) := by
  refine ⟨by rw [List.length_set, List.length_set]; exact r.1, fun j e hj => ?_⟩
  by_cases hij : i = j
  · subst hij
    by_cases hl : i < δ.length
    · rw [List.getElem?_set_self hl] at hj
      cases hj
      exact ⟨v, by rw [List.getElem?_set_self (by rw [← r.1]; exact hl)], q⟩
    · rw [List.getElem?_eq_none (by rw [List.length_set]; omega)] at hj
      cases hj
  · rw [List.getElem?_set_ne hij] at hj
    obtain ⟨w, h1, h2⟩ := r.2 j e hj
    exact ⟨w, by rw [List.getElem?_set_ne hij]; exact h1, h2⟩
theorem RS.less {δ δ' : DS} {σ : L2.St} (r : RS K m n H δ σ) (hl : δ'.length = δ.length) (h : ∀ (i : Nat) (d : D), δ'[i]? = some (some d) → δ[i]? = some (some d)) : RS K m n H δ' σ :=
  ⟨hl.trans r.1, fun i d hd => r.2 i d (h i d hd)⟩
theorem RS.start {N : List Str} {ds : List D} {vs : List V} (r : RDs K m n H ds vs) : RS K m n H (ds.map some ++ List.replicate (N.length - ds.length) none) (L2.start N vs) := by
  have hl := r.length
  refine ⟨by unfold L2.start; simp only [List.length_append, List.length_map, List.length_replicate]; omega, fun i d hd => ?_⟩
  unfold L2.start
  by_cases hi : i < ds.length
  · rw [List.getElem?_append_left (by simpa using hi), List.getElem?_map] at hd
    cases e : ds[i]? with
    | none => rw [e] at hd; cases hd
    | some x =>
      rw [e] at hd
      cases hd
      obtain ⟨v, h1, h2⟩ := r.get e
      refine ⟨v, ?_, h2⟩
      rw [List.getElem?_append_left (by rw [List.length_map, ← hl]; exact hi), List.getElem?_map, h1]
      rfl
  · rw [List.getElem?_append_right (by simpa using hi), List.getElem?_replicate] at hd
    split at hd <;> cases hd
theorem LamX_code_lst {c : Addr} {q : Str} (xs : List V) : LamX.CodeO c q ≠ HO.lst xs := fun z => by unfold LamX.CodeO at z; cases z
theorem tabs_upd {T : List (Addr × Str)} {x : Addr} {o : HO} (t : LamX.Tabs T H) (h1 : ∀ ps, H x ≠ some (.tbl ps)) (h2 : ∀ q, H x ≠ some (LamX.CodeO x q)) : LamX.Tabs T (upd H x o) := by
  intro p hp
  obtain ⟨ps, e1, e2, e3⟩ := t p hp
  refine ⟨ps, by rw [upd_ne (fun z => h1 ps (by rw [← z]; exact e1))]; exact e1, e2, fun pos cv hc => ?_⟩
  obtain ⟨c, e4, e5⟩ := e3 pos cv hc
  exact ⟨c, e4, by rw [upd_ne (fun z => h2 p.2 (by rw [← z]; exact e5))]; exact e5⟩
theorem al_upd {H : Hp} {p a : Addr} {o : HO} (hp : H p = none) (e : Fre (upd H p o a)) : Fre (H a) := by
  by_cases h : a = p
  · rw [h, hp]
    trivial
  · rw [upd_ne h] at e
    exact e
theorem Sim.alloc (s : Sim K g m h H) {p : Addr} {o : HO} {ob : O} (hp : H p = none) (new : ∀ m', (∀ k, k < h.length → m' k = m k) → RO K g m' (h.length + 1) (upd H p o) p ob) :
    ∃ m', Ext m h.length H m' (h ++ [ob]).length (upd H p o) ∧ Sim K g m' (h ++ [ob]) (upd H p o) ∧ RD K m' (h ++ [ob]).length (upd H p o) (.ref h.length) (.ref p) := by
  have hlen : (h ++ [ob]).length = h.length + 1 := by simp
  have pne : ∀ k, k < h.length → m k ≠ p := fun k hk z => by
    obtain ⟨u, hu, _⟩ := s.there hk
    rw [z, hp] at hu
    cases hu
  let m' : Nat → Addr := fun k => if k = h.length then p else m k
  have e1 : ∀ k, k < h.length → m' k = m k := fun k hk => if_neg (Nat.ne_of_lt hk)
  have e2 : m' h.length = p := if_pos rfl
  have ex : Ext m h.length H m' (h ++ [ob]).length (upd H p o) := ⟨by omega, e1, Imm.new hp, fun a u _ e _ => by rw [upd_ne (ne_of_none e hp)]; exact e, fun k h1 h2 => by
    have hk : k = h.length := by omega
    rw [hk, e2, hp]
    trivial, fun a e => al_upd hp e⟩
  refine ⟨m', ex, ⟨fun i j hi hj e => ?_, fun i u hu => ?_, tabs_upd s.tab (fun ps z => by rw [hp] at z; cases z) (fun q z => by rw [hp] at z; cases z)⟩, ?_⟩
  · rw [hlen] at hi hj
    by_cases h1 : i = h.length
    · by_cases h2 : j = h.length
      · rw [h1, h2]
      · have hj' : j < h.length := by omega
        rw [h1, e2, e1 j hj'] at e
        exact absurd e.symm (pne j hj')
    · have hi' : i < h.length := by omega
      by_cases h2 : j = h.length
      · rw [h2, e2, e1 i hi'] at e
        exact absurd e (pne i hi')
      · have hj' : j < h.length := by omega
        rw [e1 i hi', e1 j hj'] at e
        exact s.inj i j hi' hj' e
  · by_cases h1 : i < h.length
    · rw [List.getElem?_append_left h1] at hu
      rw [e1 i h1]
      exact (s.obj i u hu).mono ex.le ex.eq ex.im (upd_ne (pne i h1))
    · have h2 : i = h.length := by
        have := (List.getElem?_eq_some_iff.mp hu).1
        rw [hlen] at this
        omega
      subst h2
      simp at hu
      subst hu
      rw [e2, hlen]
      exact new m' e1
  · have q : RD K m' (h ++ [ob]).length (upd H p o) (.ref h.length) (.ref (m' h.length)) := .ref (by omega)
    rw [e2] at q
    exact q
theorem Sim.write (s : Sim K g m h H) {i : Nat} {o : HO} {ob : O} (hi : i < h.length) (new : Imm H (upd H (m i) o) → RO K g m h.length (upd H (m i) o) (m i) ob) (hx : ∀ q, H (m i) ≠ some (LamX.CodeO (m i) q)) (hmu : L2.Mut (H (m i))) :
    Ext m h.length H m (h.set i ob).length (upd H (m i) o) ∧ Sim K g m (h.set i ob) (upd H (m i) o) := by
  obtain ⟨u, hu, _⟩ := s.there hi
  have mu : L2.Mut (some u) := by rw [← hu]; exact hmu
  have im : Imm H (upd H (m i) o) := ⟨fun a xs e => by
      rw [upd_ne (fun z => by rw [z, hu] at e; cases e; exact mu)]
      exact e, fun a ob u' e => by
      rw [upd_ne (fun z => by rw [z, hu] at e; cases e; exact mu)]
      exact e, fun a q e => by
      rw [upd_ne (fun z => by rw [z] at e; exact hx q e)]
      exact e⟩
  refine ⟨⟨by simp, fun _ _ => rfl, im, fun a u ha e _ => by rw [upd_ne (fun z => ha i hi z.symm)]; exact e, fun k h1 h2 => by rw [List.length_set] at h2; omega, fun a e => by
    by_cases h : a = m i
    · rw [h] at e
      obtain ⟨u', hu', mu'⟩ := (new im).some
      rw [hu'] at e
      exact (Fre.noM e mu').elim
    · rw [upd_ne h] at e
      exact e⟩, ⟨fun a b ha hb e => s.inj a b (by simpa using ha) (by simpa using hb) e, fun j u' hj => ?_, tabs_upd s.tab (fun ps z => by rw [hu] at z; cases z; exact mu) hx⟩⟩
  rw [List.length_set]
  by_cases hij : i = j
  · subst hij
    rw [List.getElem?_set_self hi] at hj
    cases hj
    exact new im
  · rw [List.getElem?_set_ne hij] at hj
    have hjl : j < h.length := (List.getElem?_eq_some_iff.mp hj).1
    exact (s.obj j u' hj).mono (Nat.le_refl _) (fun _ _ => rfl) im (upd_ne fun z => hij (s.inj i j hi hjl z.symm))
theorem Sim.tup (s : Sim K g m h H) {p : Addr} {o : HO} (hp : H p = none) : Ext m h.length H m h.length (upd H p o) ∧ Sim K g m h (upd H p o) := by
  refine ⟨⟨Nat.le_refl _, fun _ _ => rfl, Imm.new hp, fun a u _ e _ => by rw [upd_ne (ne_of_none e hp)]; exact e, fun k h1 h2 => by omega, fun a e => al_upd hp e⟩, ⟨s.inj, fun i u hu => ?_, tabs_upd s.tab (fun ps z => by rw [hp] at z; cases z) (fun q z => by rw [hp] at z; cases z)⟩⟩
  have hi : i < h.length := (List.getElem?_eq_some_iff.mp hu).1
  obtain ⟨w, hw, _⟩ := s.there hi
  exact (s.obj i u hu).mono (Nat.le_refl _) (fun _ _ => rfl) (Imm.new hp) (upd_ne (ne_of_none hw hp))
theorem Sim.lst (s : Sim K g m h H) {i : Nat} {xs : List D} (e : h[i]? = some (.lst xs)) : i < h.length ∧ ∃ vs, H (m i) = some (.lst vs) ∧ RDs K m h.length H xs vs :=
  ⟨(List.getElem?_eq_some_iff.mp e).1, s.obj i _ e⟩
theorem Sim.alloc_lst (s : Sim K g m h H) {p : Addr} {xs : List D} {vs : List V} (hp : H p = none) (r : RDs K m h.length H xs vs) :
    ∃ m', Ext m h.length H m' (h ++ [O.lst xs]).length (upd H p (.lst vs)) ∧ Sim K g m' (h ++ [O.lst xs]) (upd H p (.lst vs)) ∧ RD K m' (h ++ [O.lst xs]).length (upd H p (.lst vs)) (.ref h.length) (.ref p) :=
  s.alloc hp fun m' hm => ⟨vs, upd_same, RDs.mono (Nat.le_succ _) hm (Imm.new hp) _ _ r⟩
theorem Sim.write_lst (s : Sim K g m h H) {i : Nat} {xs ys : List D} {vs : List V} (e : h[i]? = some (.lst xs)) (r : RDs K m h.length H ys vs) :
    Ext m h.length H m (h.set i (.lst ys)).length (upd H (m i) (.lst vs)) ∧ Sim K g m (h.set i (.lst ys)) (upd H (m i) (.lst vs)) := by
  obtain ⟨hi, ws, hw, _⟩ := s.lst e
  exact s.write hi (fun im => ⟨vs, upd_same, RDs.mono (Nat.le_refl _) (fun _ _ => rfl) im _ _ r⟩) (fun q z => by rw [hw] at z; exact LamX_code_lst ws (Option.some.inj z).symm) (by rw [hw]; trivial)
end
inductive FzP (P : Hp → Prop) : Hp → Prop
  | base {H : Hp} : P H → FzP P H
  | lock {H : Hp} (p : Addr) (u : HO) : H p = some u → L2.Mut (some u) → (∀ o, FzP P (upd H p (.frz o u))) → FzP P H
abbrev FzQ (Q : VK) : VK := fun v H => FzP (Q v) H
theorem upd_upd {H : Hp} {p : Addr} {o o' : HO} : upd (upd H p o) p o' = upd H p o' := by
  funext a
  by_cases h : a = p
  · rw [h, upd_same, upd_same]
  · rw [upd_ne h, upd_ne h, upd_ne h]
theorem FzP.inv {X : Cx} {pins : List (Addr × Obj)} {σ : L2.St} {P : Hp → Prop} {s : Shared} {H : Hp} (q : FzP P H) (I : Inv X pins σ H s) : ∃ H', Inv X pins σ H' s ∧ P H' := by
  induction q with
  | base q => exact ⟨_, I, q⟩
  | lock p u h mu _ ih =>
    obtain ⟨o, I1⟩ := I.lock h mu
    exact ih o I1
theorem ep_fz {X : Cx} {pins : List (Addr × Obj)} {σ : L2.St} {Q : VK} {u : Value} {s : Shared} (h : EP X pins σ (FzQ Q) u s) : EP X pins σ Q u s := by
  obtain ⟨v, H, I, r, q⟩ := h
  obtain ⟨H', I', q'⟩ := q.inv I
  exact ⟨v, H', I', r, q'⟩
theorem pe_fz {X : Cx} {e : Expr} {t : TE} (h : PE X e t) : PE X e (fun σ H Q => t σ H (FzQ Q)) := ⟨fun pins s σ H Q I q => thn (h.run pins s σ H _ I q) fun v s' e => ep_fz e⟩
theorem opr_fz {X : Cx} {f : Value → Value → Sem Value} {r : R2} (h : OpR X f r) : OpR X f (fun x y H Q => r x y H (FzQ Q)) := fun pins s σ H x y v u Q I rx ry q => thn (h pins s σ H x y v u _ I rx ry q) fun v s' e => ep_fz e
theorem callr_fz {X : Cx} {f : Value} {r : List V → Hp → VK → Prop} (h : CallR X f r) : CallR X f (fun xs H Q => r xs H (FzQ Q)) := fun pins s σ H xs us Q I rx q => thn (h pins s σ H xs us _ I rx q) fun v s' e => ep_fz e
theorem mtr_fz {X : Cx} {id : String} {r : V → List V → Hp → VK → Prop} (h : MtR X id r) : MtR X id (fun x xs H Q => r x xs H (FzQ Q)) := fun pins s σ H x xs v us Q I rx rxs q => thn (h pins s σ H x xs v us _ I rx rxs q) fun v s' e => ep_fz e
theorem slr_fz {X : Cx} {r : V → Option Int → Option Int → Hp → VK → Prop} (h : SlR X r) : SlR X (fun x lo hi H Q => r x lo hi H (FzQ Q)) := fun pins s σ H x v vl vu lo hi sl Q I rx hs pl pu q => by
  obtain ⟨T, id, h1, h2, h3⟩ := h pins s σ H x v vl vu lo hi sl _ I rx hs pl pu q
  exact ⟨T, id, h1, h2, thn h3 fun v s' e => ep_fz e⟩
theorem Sim.fls {K : PySem.W.Frag} {g : Gc} {m : Nat → Addr} {h : VH} {H : Hp} (s : Sim K g m h H) {p : Addr} {xs : List D} {vs : List V} (hp : H p = none) (r : RDs K m h.length H xs vs) {Q : VK}
    (q : ∀ m' H' v, Ext m h.length H m' h.length H' → Sim K g m' h H' → RD K m' h.length H' (.fls xs) v → Q v H') : FzQ Q (.ref p) (upd H p (.lst vs)) :=
  .lock p (.lst vs) upd_same trivial fun o => .base (by
    rw [upd_upd]
    obtain ⟨e, s'⟩ := s.tup (o := .frz o (.lst vs)) hp
    exact q m _ _ e s' (.fls (.inl ⟨o, upd_same⟩) (e.rds r)))
def RX (K : PySem.W.Frag) (g : Gc) (m : Nat → Addr) (n : Nat) (H : Hp) (c : Nat) (p : Option D) (cls : Value) (dd : Option Addr) : Prop :=
  ∃ C, g.cs[c]? = some C ∧ cls = .ref C ∧ (∀ d, p = some d → ∃ a v, dd = some a ∧ H a = some (.xd [(("place" : Str), v)]) ∧ RD K m n H d v) ∧ (p = none → dd = none)
def Gd {α : Type} (K : PySem.W.Frag) (g : Gc) (W : Value → Option Addr → Hp → Prop) (m : Nat → Addr) (n : Nat) (H : Hp) (P : α → (Nat → Addr) → Nat → Hp → Prop) : Out α → Prop
  | .ok d h => ∀ m' H', Ext m n H m' h.length H' → Sim K g m' h H' → P d m' h.length H'
  | .err c p h => ∀ m' H' cls dd, Ext m n H m' h.length H' → Sim K g m' h H' → RX K g m' h.length H' c p cls dd → W cls dd H'
  | .bad => False
def PD (K : PySem.W.Frag) (Q : VK) : D → (Nat → Addr) → Nat → Hp → Prop := fun d m n H => ∀ v, RD K m n H d v → Q v H
def PL (K : PySem.W.Frag) (Q : List V → Hp → Prop) : List D → (Nat → Addr) → Nat → Hp → Prop := fun d m n H => ∀ v, RDs K m n H d v → Q v H
abbrev GoodE (K : PySem.W.Frag) (g : Gc) (W : Value → Option Addr → Hp → Prop) (m : Nat → Addr) (n : Nat) (H : Hp) (Q : VK) : Out D → Prop := Gd K g W m n H (PD K Q)
abbrev GoodA (K : PySem.W.Frag) (g : Gc) (W : Value → Option Addr → Hp → Prop) (m : Nat → Addr) (n : Nat) (H : Hp) (Q : List V → Hp → Prop) : Out (List D) → Prop := Gd K g W m n H (PL K Q)
abbrev GoodT (K : PySem.W.Frag) (g : Gc) (W : Value → Option Addr → Hp → Prop) (m : Nat → Addr) (n : Nat) (H : Hp) (Q : Bool → Hp → Prop) : Out Bool → Prop := Gd K g W m n H (fun b _ _ H' => Q b H')
def GoodO (K : PySem.W.Frag) (g : Gc) (m : Nat → Addr) (n : Nat) (H : Hp) (Q : VK) : Option (D × VH) → Prop
  | some (d, h) => ∀ m' H' v, Ext m n H m' h.length H' → Sim K g m' h H' → RD K m' h.length H' d v → Q v H'
  | none => False
def GoodS (K : PySem.W.Frag) (g : Gc) (W : WX) (m : Nat → Addr) (n : Nat) (H : Hp) (E : Ends) : OutS → Prop
  | .nx δ h => ∀ m' H' σ, Ext m n H m' h.length H' → Sim K g m' h H' → RS K m' h.length H' δ σ → E.nx σ H'
  | .ret d h => ∀ m' H' v, Ext m n H m' h.length H' → Sim K g m' h H' → RD K m' h.length H' d v → E.rt v H'
  | .brk δ h => ∀ m' H' σ, Ext m n H m' h.length H' → Sim K g m' h H' → RS K m' h.length H' δ σ → E.bk σ H'
  | .ct δ h => ∀ m' H' σ, Ext m n H m' h.length H' → Sim K g m' h H' → RS K m' h.length H' δ σ → E.ct σ H'
  | .err c p δ h => ∀ m' H' σ cls dd, Ext m n H m' h.length H' → Sim K g m' h H' → RS K m' h.length H' δ σ → RX K g m' h.length H' c p cls dd → W cls dd σ H'
  | .bad => False
def rd (K : PySem.W.Frag) (g : Gc) (W : WX) (f : DS → VH → Out D) : TE := fun σ H Q => ∃ δ m h, RS K m h.length H δ σ ∧ Sim K g m h H ∧ GoodE K g (fun c d H' => W c d σ H') m h.length H Q (f δ h)
def ra (K : PySem.W.Frag) (g : Gc) (W : WX) (f : DS → VH → Out (List D)) : TA := fun σ H Q => ∃ δ m h, RS K m h.length H δ σ ∧ Sim K g m h H ∧ GoodA K g (fun c d H' => W c d σ H') m h.length H Q (f δ h)
def rt (K : PySem.W.Frag) (g : Gc) (W : WX) (f : DS → VH → Out Bool) : TT := fun σ H Q => ∃ δ m h, RS K m h.length H δ σ ∧ Sim K g m h H ∧ GoodT K g (fun c d H' => W c d σ H') m h.length H Q (f δ h)
def rs (K : PySem.W.Frag) (g : Gc) (W : WX) (f : DS → VH → OutS) : TS := fun E σ H => ∃ δ m h, RS K m h.length H δ σ ∧ Sim K g m h H ∧ GoodS K g W m h.length H E (f δ h)
section
variable {α β : Type} {K : PySem.W.Frag} {g : Gc} {W W' : Value → Option Addr → Hp → Prop} {m m1 : Nat → Addr} {n n1 : Nat} {H H1 : Hp} {P P' : α → (Nat → Addr) → Nat → Hp → Prop} {R : β → (Nat → Addr) → Nat → Hp → Prop}
theorem Gd.from {o : Out α} (e : Ext m n H m1 n1 H1) (x : Gd K g W m n H P o) : Gd K g W m1 n1 H1 P o := by
  cases o with
  | ok d h => exact fun m' H' e1 s => x m' H' (e.trans e1) s
  | err c p h => exact fun m' H' cls dd e1 s r => x m' H' cls dd (e.trans e1) s r
  | bad => exact x
theorem Gd.imp {o : Out α} (x : Gd K g W m n H P o) (hP : ∀ a m' n' H', Ext m n H m' n' H' → P a m' n' H' → P' a m' n' H') (hW : ∀ c d H', W c d H' → W' c d H') : Gd K g W' m n H P' o := by
  cases o with
  | ok d h => exact fun m' H' e1 s => hP _ _ _ _ e1 (x m' H' e1 s)
  | err c p h => exact fun m' H' cls dd e1 s r => hW _ _ _ (x m' H' cls dd e1 s r)
  | bad => exact x
theorem Gd.bind {o : Out α} {k : α → VH → Out β} (q : Gd K g W m n H R (o.bind k))
    (hk : ∀ x h1 m1 H1, Ext m n H m1 h1.length H1 → Sim K g m1 h1 H1 → Gd K g W m1 h1.length H1 R (k x h1) → P x m1 h1.length H1) : Gd K g W m n H P o := by
  cases o with
  | ok d h =>
    have q : Gd K g W m n H R (k d h) := q
    exact fun m' H' e1 s => hk _ _ _ _ e1 s (q.from e1)
  | err c p h => exact q
  | bad => exact q
theorem Gd.of {o : Option (D × VH)} {Q : VK} (q : GoodE K g W m n H Q (Out.of o)) : GoodO K g m n H Q o := by
  cases o with
  | none => exact q
  | some p =>
    obtain ⟨d, h⟩ := p
    exact fun m' H' v e s r => q m' H' e s v r
theorem GoodO.from {o : Option (D × VH)} {Q : VK} (e : Ext m n H m1 n1 H1) (x : GoodO K g m n H Q o) : GoodO K g m1 n1 H1 Q o := by
  cases o with
  | none => exact x
  | some p => exact fun m' H' v e1 s r => x m' H' v (e.trans e1) s r
theorem GoodS.from {W : WX} {E : Ends} {o : OutS} (e : Ext m n H m1 n1 H1) (x : GoodS K g W m n H E o) : GoodS K g W m1 n1 H1 E o := by
  cases o with
  | nx d h => exact fun m' H' v e1 s r => x m' H' v (e.trans e1) s r
  | ret d h => exact fun m' H' v e1 s r => x m' H' v (e.trans e1) s r
  | brk d h => exact fun m' H' v e1 s r => x m' H' v (e.trans e1) s r
  | ct d h => exact fun m' H' v e1 s r => x m' H' v (e.trans e1) s r
  | err c p d h => exact fun m' H' σ cls dd e1 s r q => x m' H' σ cls dd (e.trans e1) s r q
  | bad => exact x
end
end FL
set_option Elab.async false
set_option linter.all false
set_option maxRecDepth 100000
set_option maxHeartbeats 2000000
namespace FL
open PySem PySem.Spec PyProof.Rows L2
theorem pe_weak {X : Cx} {e : Expr} {t u : TE} (h : PE X e t) (hw : ∀ σ H Q, u σ H Q → t σ H Q) : PE X e u := ⟨fun pins s σ H Q I q => h.run pins s σ H Q I (hw σ H Q q)⟩
theorem pt_weak {X : Cx} {e : Expr} {t u : TT} (h : PT X e t) (hw : ∀ σ H Q, u σ H Q → t σ H Q) : PT X e u := ⟨fun pins s σ H Q I q => h.run pins s σ H Q I (hw σ H Q q)⟩
theorem pw_weak {X : Cx} {e : Expr} {t u : TT} (h : PW X e t) (hw : ∀ σ H Q, u σ H Q → t σ H Q) : PW X e u := ⟨fun w pins s σ H Q I q => h.run w pins s σ H Q I (hw σ H Q q)⟩
theorem pa_weak {X : Cx} {e : List Expr} {t u : TA} (h : PA X e t) (hw : ∀ σ H Q, u σ H Q → t σ H Q) : PA X e u := ⟨fun p pins s σ H Q I q => h.run p pins s σ H Q I (hw σ H Q q)⟩
theorem ps_weak {X : Cx} {e : Stmt} {t u : TS} (h : PS X e t) (hw : ∀ D σ H, u D σ H → t D σ H) : PS X e u := ⟨fun pins s σ H D I q => h.run pins s σ H D I (hw D σ H q)⟩
theorem pss_weak {X : Cx} {e : List Stmt} {t u : TS} (h : PSs X e t) (hw : ∀ D σ H, u D σ H → t D σ H) : PSs X e u := ⟨fun pins s σ H D I q => h.run pins s σ H D I (hw D σ H q)⟩
theorem pg_weak {X : Cx} {e : Expr} {t u : TG} (h : PG X e t) (hw : ∀ v σ H Q, u v σ H Q → t v σ H Q) : PG X e u := ⟨fun pins s σ H v w Q I r q => h.run pins s σ H v w Q I r (hw v σ H Q q)⟩
theorem pgs_weak {X : Cx} {e : List Expr} {t u : TGs} (h : PGs X e t) (hw : ∀ v σ H Q, u v σ H Q → t v σ H Q) : PGs X e u := ⟨fun pins s σ H v w Q I r q => h.run pins s σ H v w Q I r (hw v σ H Q q)⟩
theorem po_weak {X : Cx} {e : Option Expr} {t u : TO} (h : PO X e t) (hw : ∀ σ H Q, u σ H Q → t σ H Q) : PO X e u := ⟨fun pins s σ H Q I q => h.run pins s σ H Q I (hw σ H Q q)⟩
theorem callr_weak {X : Cx} {f : Value} {r r' : List V → Hp → VK → Prop} (h : CallR X f r) (hw : ∀ xs H Q, r' xs H Q → r xs H Q) : CallR X f r' := fun pins s σ H xs us Q I rx q => h pins s σ H xs us Q I rx (hw _ _ _ q)
theorem mtr_weak {X : Cx} {id : String} {r r' : V → List V → Hp → VK → Prop} (h : MtR X id r) (hw : ∀ x xs H Q, r' x xs H Q → r x xs H Q) : MtR X id r' := fun pins s σ H x xs v us Q I rx rxs q => h pins s σ H x xs v us Q I rx rxs (hw _ _ _ _ q)
section
variable {X : Cx} {g : Gc} {W : WX} {a b c e : Expr} {es : List Expr} {fa fb fc : FE} {pos : Pos}
theorem fe_var (i : Nat) {x : Str} {pos : Pos} (hN : X.N[i]? = some x := by rfl) (hv : Vis X.env.scope x := by first | exact Or.inl rfl | exact Or.inr (Or.inl rfl) | exact Or.inr (Or.inr rfl)) (hd : (x == ("__debug__" : Str)) = false := by decide)
    (hcd : (x == ("__classdict__" : Str)) = false := by decide) : PE X (.Name x pos) (rd X.K g W (eV i)) :=
  pe_weak (pe_var hN hv hd hcd) (by
    rintro σ H Q ⟨δ, m, h, r, s, q⟩
    cases e : δ[i]? with
    | none =>
      have q' : GoodE X.K g (fun c d H' => W c d σ H') m h.length H Q (eV i δ h) := q
      simp only [eV, e] at q'
      exact q'.elim
    | some o =>
      cases o with
      | none =>
        have q' : GoodE X.K g (fun c d H' => W c d σ H') m h.length H Q (eV i δ h) := q
        simp only [eV, e] at q'
        exact q'.elim
      | some d =>
        have q' : GoodE X.K g (fun c d H' => W c d σ H') m h.length H Q (eV i δ h) := q
        simp only [eV, e] at q'
        obtain ⟨v, h1, h2⟩ := r.2 i d e
        exact ⟨v, h1, q' m H Ext.refl s v h2⟩)
def IsC (K : PySem.W.Frag) (d : D) (v : V) : Prop := ∀ m n H, RD K m n H d v
theorem rd_c {d : D} {v : V} (hc : IsC X.K d v) : ∀ σ H Q, rd X.K g W (eC d) σ H Q → tC v σ H Q := by
  rintro σ H Q ⟨δ, m, h, r, s, q⟩
  exact q m H Ext.refl s v (hc _ _ _)
theorem fe_int {i j pos} : PE X (.Constant (.int i) j pos) (rd X.K g W (eC (.int i))) := pe_weak pe_int (rd_c fun _ _ _ => .int i)
theorem fe_bl {b j pos} : PE X (.Constant (.bool b) j pos) (rd X.K g W (eC (.bl b))) := pe_weak pe_bl (rd_c fun _ _ _ => .bl b)
theorem fe_non {j pos} : PE X (.Constant .none j pos) (rd X.K g W (eC .non)) := pe_weak pe_non (rd_c fun _ _ _ => .non)
theorem str_of {x : Str} {l : List Nat} (hl : x.cps.toList = l) : x = ⟨l.toArray⟩ := by
  cases x with
  | mk c => subst hl; rfl
theorem isC_str {K : PySem.W.Frag} {x : Str} {l : List Nat} (hl : x.cps.toList = l) (ho : okS l = true) : IsC K (.str l) (.str x) := fun _ _ _ => by
  rw [str_of hl]
  exact .str ho
theorem fe_str {x j pos} {l : List Nat} (hl : x.cps.toList = l := by decide +kernel) (ho : okS l = true := by decide +kernel) : PE X (.Constant (.str x) j pos) (rd X.K g W (eC (.str l))) := pe_weak pe_str (rd_c (isC_str hl ho))
theorem fe_glob {x : Str} {v : V} {u : Value} {pos : Pos} {d : D} (hg : Gl X x) (hm : X.mg x = some u) (r : RelV v u) (hc : IsC X.K d v) (hd : (x == ("__debug__" : Str)) = false := by decide) : PE X (.Name x pos) (rd X.K g W (eC d)) :=
  pe_weak (pe_glob hg hm r hd) (rd_c hc)
structure Cst (K : PySem.W.Frag) (mg : Str → Option Value) (x : Str) (d : D) : Prop where
  ex : ∃ v u, mg x = some u ∧ RelV v u ∧ IsC K d v
theorem fe_cst {x : Str} {pos : Pos} {d : D} (hc : Cst X.K X.mg x d) (hg : Gl X x := by rfl) (hd : (x == ("__debug__" : Str)) = false := by decide) : PE X (.Name x pos) (rd X.K g W (eC d)) := by
  obtain ⟨v, u, h1, h2, h3⟩ := hc.ex
  exact fe_glob hg h1 h2 h3 hd
def rO2 (K : PySem.W.Frag) (g : Gc) (o : Op2) : R2 := fun v u H Q => ∃ m h x y, Sim K g m h H ∧ RD K m h.length H x v ∧ RD K m h.length H y u ∧ GoodO K g m h.length H Q (o x y h)
theorem rd_e2 {o : Op2} : ∀ σ H Q, rd X.K g W (e2 o fa fb) σ H Q → tOp (rO2 X.K g o) (rd X.K g W fa) (rd X.K g W fb) σ H Q := by
  rintro σ H Q ⟨δ, m, h, r, s, q⟩
  refine ⟨δ, m, h, r, s, Gd.bind q fun x h1 m1 H1 e1 s1 q1 v r1 => ?_⟩
  refine ⟨δ, m1, h1, e1.rs r, s1, Gd.bind q1 fun y h2 m2 H2 e2 s2 q2 u r2 => ?_⟩
  exact ⟨m2, h2, x, y, s2, e2.rd r1, r2, Gd.of q2⟩
theorem fe_op {op : Operator} {o : Op2} (ho : OpR X (binaryOp op) (rO2 X.K g o)) (ha : PE X a (rd X.K g W fa)) (hb : PE X b (rd X.K g W fb)) : PE X (.BinOp a op b pos) (rd X.K g W (e2 o fa fb)) := pe_weak (pe_op ho ha hb) rd_e2
theorem fe_cmp {op : CmpOp} {o : Op2} (ho : OpR X (compareOp op) (rO2 X.K g o)) (ha : PE X a (rd X.K g W fa)) (hb : PE X b (rd X.K g W fb)) (hm : behindInMarks op b = false) : PE X (.Compare a [op] [b] pos) (rd X.K g W (e2 o fa fb)) := pe_weak (pe_cmpR ho ha hb hm) rd_e2
theorem rt_v {t : TE} (hw : ∀ σ H Q, rd X.K g W fa σ H Q → t σ H Q) : ∀ σ H Q, rt X.K g W (tV fa) σ H Q → tTest t σ H Q := by
  rintro σ H Q ⟨δ, m, h, r, s, q⟩
  refine hw σ H _ ⟨δ, m, h, r, s, Gd.bind q fun x h1 m1 H1 e1 s1 q1 v r1 => ?_⟩
  cases r1 with
  | bl b => exact ⟨b, rfl, q1 m1 H1 Ext.refl s1⟩
  | _ => exact q1.elim
theorem ft_cmp {op : CmpOp} {o : Op2} (ho : OpR X (compareOp op) (rO2 X.K g o)) (ha : PE X a (rd X.K g W fa)) (hb : PE X b (rd X.K g W fb)) (hm : behindInMarks op b = false) : PT X (.Compare a [op] [b] pos) (rt X.K g W (tV (e2 o fa fb))) := pt_weak (pt_cmpR ho ha hb hm) (rt_v rd_e2)
theorem ft_val (ha : PE X a (rd X.K g W fa)) (he : ∀ whole, isTrue a X.env whole = (do let v ← whole; standAt a.pos; holding [v] (truthy v)) := by intro _; rfl) : PT X a (rt X.K g W (tV fa)) :=
  pt_weak (pt_val ha he) (rt_v fun _ _ _ q => q)
theorem tru_ok {K : PySem.W.Frag} {m : Nat → Addr} {h : VH} {H : Hp} {x : D} {v : V} {b : Bool} (s : Sim K g m h H) (r : RD K m h.length H x v) (e : tru x h = some b) : TruV K v H b := by
  cases r with
  | non => simp only [tru, Option.some.injEq] at e; subst e; exact rfl
  | bl c => simp only [tru, Option.some.injEq] at e; subst e; exact rfl
  | int i => simp only [tru, Option.some.injEq] at e; subst e; exact rfl
  | str hl =>
    rename_i l
    simp only [tru] at e
    split at e
    · rename_i hz
      simp only [Option.some.injEq] at e
      subst e
      refine ⟨by rw [sizeLine_eq]; simpa [Str.length] using hz, ?_⟩
      cases l with
      | nil => rfl
      | cons c r =>
        simp only [Str.length, List.isEmpty_cons, Bool.not_false]
        have : (((c :: r).toArray.size : Nat) : Int) ≠ 0 := by simp; omega
        exact (bne_iff_ne.mpr this).symm
    · cases e
  | tup h1 h2 =>
    simp only [tru, Option.some.injEq] at e
    subst e
    refine .inr (.inl ⟨_, h1.sq, ?_⟩)
    cases h2 <;> rfl
  | fls h1 h2 =>
    simp only [tru, Option.some.injEq] at e
    subst e
    refine .inl ⟨_, h1.seq, ?_⟩
    cases h2 <;> rfl
  | ref hk =>
    rename_i k
    simp only [tru] at e
    split at e
    · rename_i xs he
      simp only [Option.some.injEq] at e
      subst e
      obtain ⟨_, vs, h1, h2⟩ := s.lst he
      refine .inl ⟨vs, .of h1, ?_⟩
      cases h2 <;> rfl
    · rename_i xs he
      simp only [Option.some.injEq] at e
      subst e
      obtain ⟨vs, h1, h2⟩ := s.obj k _ he
      refine .inr (.inr ⟨vs, h1, ?_⟩)
      cases h2 <;> rfl
    · cases e
  | fdc _ _ _ _ => simp [tru] at e
  | ty _ => simp [tru] at e
  | adr _ => simp [tru] at e
  | clo _ _ _ _ => simp [tru] at e
theorem ft_tru (ha : PE X a (rd X.K g W fa)) (he : ∀ whole, isTrue a X.env whole = (do let v ← whole; standAt a.pos; holding [v] (truthy v)) := by intro _; rfl) : PT X a (rt X.K g W (tTr fa)) :=
  pt_weak (pt_truth ha he) (by
    rintro σ H Q ⟨δ, m, h, r, s, q⟩
    refine ⟨δ, m, h, r, s, Gd.bind q fun x h1 m1 H1 e1 s1 q1 v r1 => ?_⟩
    cases e : tru x h1 with
    | none =>
      simp only [e] at q1
      exact q1.elim
    | some b =>
      simp only [e] at q1
      exact ⟨b, tru_ok s1 r1 e, q1 m1 H1 Ext.refl s1⟩)
variable {ta tb tc : FT} {rest : List Expr}
theorem fw_and1 (ha : PT X a (rt X.K g W ta)) : PW X (.BoolOp .And [a] pos) (rt X.K g W ta) := pw_and1 ha
theorem fw_or1 (ha : PT X a (rt X.K g W ta)) : PW X (.BoolOp .Or [a] pos) (rt X.K g W ta) := pw_or1 ha
theorem fw_and (ha : PT X a (rt X.K g W ta)) (hb : PW X (.BoolOp .And (b :: rest) pos) (rt X.K g W tb)) : PW X (.BoolOp .And (a :: b :: rest) pos) (rt X.K g W (tAnd ta tb)) :=
  pw_weak (pw_and ha hb) (by
    rintro σ H Q ⟨δ, m, h, r, s, q⟩
    refine ⟨δ, m, h, r, s, Gd.bind q fun c h1 m1 H1 e1 s1 q1 => ?_⟩
    cases c with
    | true => exact ⟨δ, m1, h1, e1.rs r, s1, q1⟩
    | false => exact q1 m1 H1 Ext.refl s1)
theorem fw_or (ha : PT X a (rt X.K g W ta)) (hb : PW X (.BoolOp .Or (b :: rest) pos) (rt X.K g W tb)) : PW X (.BoolOp .Or (a :: b :: rest) pos) (rt X.K g W (tOr ta tb)) :=
  pw_weak (pw_or ha hb) (by
    rintro σ H Q ⟨δ, m, h, r, s, q⟩
    refine ⟨δ, m, h, r, s, Gd.bind q fun c h1 m1 H1 e1 s1 q1 => ?_⟩
    cases c with
    | true => exact q1 m1 H1 Ext.refl s1
    | false => exact ⟨δ, m1, h1, e1.rs r, s1, q1⟩)
theorem ft_w (h : PW X a (rt X.K g W ta)) : PT X a (rt X.K g W ta) := h.pt
theorem ft_not (ha : PT X a (rt X.K g W ta)) : PT X (.UnaryOp .Not a pos) (rt X.K g W (tNot ta)) :=
  pt_weak (pt_not ha) (by
    rintro σ H Q ⟨δ, m, h, r, s, q⟩
    exact ⟨δ, m, h, r, s, Gd.bind q fun c h1 m1 H1 e1 s1 q1 => q1 m1 H1 Ext.refl s1⟩)
theorem fe_one {op} (h : PE X a (rd X.K g W fa)) : PE X (.BoolOp op [a] pos) (rd X.K g W fa) := pe_one h
def eAnd (a b : FE) : FE := fun δ h => (a δ h).bind fun x h => match x with
  | .bl true => b δ h
  | .bl false => .ok (.bl false) h
  | _ => .bad
def eOr (a b : FE) : FE := fun δ h => (a δ h).bind fun x h => match x with
  | .bl true => .ok (.bl true) h
  | .bl false => b δ h
  | _ => .bad
def eNot (a : FE) : FE := fun δ h => (a δ h).bind fun x h => match x with
  | .bl b => .ok (.bl (!b)) h
  | _ => .bad
theorem fe_and (ha : PE X a (rd X.K g W fa)) (hb : PE X (.BoolOp .And (b :: rest) pos) (rd X.K g W fb)) : PE X (.BoolOp .And (a :: b :: rest) pos) (rd X.K g W (eAnd fa fb)) :=
  pe_weak (pe_and ha hb) (by
    rintro σ H Q ⟨δ, m, h, r, s, q⟩
    refine ⟨δ, m, h, r, s, Gd.bind q fun x h1 m1 H1 e1 s1 q1 v r1 => ?_⟩
    cases r1 with
    | bl c =>
      refine ⟨c, rfl, ?_⟩
      cases c with
      | true => exact ⟨δ, m1, h1, e1.rs r, s1, q1⟩
      | false => exact q1 m1 H1 Ext.refl s1 _ (.bl false)
    | _ => exact q1.elim)
theorem fe_if (hc : PT X c (rt X.K g W tc)) (ha : PE X a (rd X.K g W fa)) (hb : PE X b (rd X.K g W fb)) : PE X (.IfExp c a b pos) (rd X.K g W (eIf tc fa fb)) :=
  pe_weak (pe_ifExp hc ha hb) (by
    rintro σ H Q ⟨δ, m, h, r, s, q⟩
    refine ⟨δ, m, h, r, s, Gd.bind q fun c h1 m1 H1 e1 s1 q1 => ?_⟩
    cases c with
    | true => exact ⟨δ, m1, h1, e1.rs r, s1, q1⟩
    | false => exact ⟨δ, m1, h1, e1.rs r, s1, q1⟩)
theorem rd_ch {o p : Op2} : ∀ σ H Q, rd X.K g W (eCh o p fa fb fc) σ H Q → tChain (rO2 X.K g o) (rO2 X.K g p) (rd X.K g W fa) (rd X.K g W fb) (rd X.K g W fc) σ H Q := by
  rintro σ H Q ⟨δ, m, h, r, s, q⟩
  refine ⟨δ, m, h, r, s, Gd.bind q fun x h1 m1 H1 e1 s1 q1 v r1 => ?_⟩
  refine ⟨δ, m1, h1, e1.rs r, s1, Gd.bind q1 fun y h2 m2 H2 e2 s2 q2 u r2 => ?_⟩
  refine ⟨m2, h2, x, y, s2, e2.rd r1, r2, ?_⟩
  cases eo : o x y h2 with
  | none =>
    simp only [eo] at q2
    exact q2.elim
  | some p0 =>
    obtain ⟨z, h3⟩ := p0
    intro m3 H3 w e3 s3 r3
    simp only [eo] at q2
    cases r3 with
    | bl k =>
      refine ⟨k, rfl, ?_⟩
      cases k with
      | true =>
        rw [if_pos rfl]
        have q3 := Gd.from e3 q2
        refine ⟨δ, m3, h3, (e1.trans (e2.trans e3)).rs r, s3, Gd.bind q3 fun z h4 m4 H4 e4 s4 q4 w r4 => ?_⟩
        exact ⟨m4, h4, y, z, s4, (e3.trans e4).rd r2, r4, Gd.of q4⟩
      | false =>
        rw [if_neg Bool.false_ne_true]
        exact q2 m3 H3 e3 s3 _ (.bl false)
    | _ => exact q2.elim
theorem ft_ch {op op' : CmpOp} {o p : Op2} (ho : OpR X (compareOp op) (rO2 X.K g o)) (ho' : OpR X (compareOp op') (rO2 X.K g p)) (ha : PE X a (rd X.K g W fa)) (hb : PE X b (rd X.K g W fb)) (hc : PE X c (rd X.K g W fc)) (hm : lastMarks [op, op'] [b, c] = false := by with_unfolding_all rfl) :
    PT X (.Compare a [op, op'] [b, c] pos) (rt X.K g W (tV (eCh o p fa fb fc))) := pt_weak (pt_chain ho ho' ha hb hc hm) (rt_v rd_ch)
variable {r ra' : FA}
theorem fa_nil : PA X [] (FL.ra X.K g W aNil) := pa_weak pa_nil (by
  rintro σ H Q ⟨δ, m, h, r, s, q⟩
  exact q m H Ext.refl s _ .nil)
theorem fa_cons (ha : PE X e (rd X.K g W fa)) (hr : PA X es (FL.ra X.K g W r)) (hs : starEach (e :: es) X.env = (false, eval e X.env) :: starEach es X.env := by rfl) : PA X (e :: es) (FL.ra X.K g W (aCons fa r)) :=
  pa_weak (pa_cons ha hr hs) (by
    rintro σ H Q ⟨δ, m, h, r, s, q⟩
    refine ⟨δ, m, h, r, s, Gd.bind q fun x h1 m1 H1 e1 s1 q1 v r1 => ?_⟩
    refine ⟨δ, m1, h1, e1.rs r, s1, Gd.bind q1 fun y h2 m2 H2 e2 s2 q2 u r2 => ?_⟩
    exact q2 m2 H2 Ext.refl s2 _ (.cons (e2.rd r1) r2))
def tTupF (t : TA) : TE := fun σ H Q => t σ H fun xs H1 => xs.length ≤ sizeLine ∧ ∀ p o, H1 p = none → o.dict = none → Q (.ref p) (upd H1 p (.frz o (.tup xs)))
theorem laid_tup {pins : List (Addr × Obj)} {σ : L2.St} {H : Hp} {s : Shared} {xs : List V} {us : List Value} {Q : VK} (I : Inv X pins σ H s) (r : Vals xs us) (z : xs.length ≤ sizeLine) (q : ∀ p o, H p = none → o.dict = none → Q (.ref p) (upd H p (.frz o (.tup xs)))) :
    EP X pins σ Q (.ref s.heap.objs.size) { s with heap := s.heap.push { cls := .type "tuple", data := .seq us.toArray } } := by
  refine ⟨.ref s.heap.objs.size, upd H s.heap.objs.size (.frz { cls := .type "tuple", data := .seq us.toArray } (.tup xs)), I.laid (t' := s.toks) (fun b u e => Heap.get?_push_of_some _ e) (Nat.le_refl _) ?_, rfl, q _ _ (I.hok.fresh (Nat.le_refl _)) rfl⟩
  exact ⟨Heap.get?_push_size _ rfl, z, us, r, IsTup.new _ _⟩
theorem pe_tupF {x1} {t : TA} (h : PA X es t) : PE X (.Tuple es x1 pos) (tTupF t) := by
  refine ⟨fun pins s σ H Q I hq => ?_⟩
  exact wpAny_Tuple_spliced (thn (h.run pos pins s σ H _ I hq) fun us s1 ⟨xs, H1, I1, r, z, q⟩ => ⟨by rw [← r.length]; exact z, laid_tup I1 r z q⟩)
theorem fe_tup {x1} (hr : PA X es (FL.ra X.K g W r)) : PE X (.Tuple es x1 pos) (rd X.K g W (eTup r)) := pe_weak (pe_tupF hr) (by
  rintro σ H Q ⟨δ, m, h, r, s, q⟩
  refine ⟨δ, m, h, r, s, Gd.bind q fun x h1 m1 H1 e1 s1 q1 v r1 => ?_⟩
  split at q1
  · rename_i hz
    refine ⟨by rw [sizeLine_eq, ← r1.length]; exact hz, fun p o hp ho => ?_⟩
    obtain ⟨e2, s2⟩ := s1.tup (o := .frz o (.tup v)) hp
    exact q1 m1 _ e2 s2 _ (.tup (.of upd_same ho) (e2.rds r1))
  · exact q1.elim)
theorem fe_fl (hr : PA X es (FL.ra X.K g W r)) : PE X (.List es pos) (rd X.K g W (eFl r)) := pe_weak (pe_fz (pe_lst hr)) (by
  rintro σ H Q ⟨δ, m, h, r, s, q⟩
  refine ⟨δ, m, h, r, s, Gd.bind q fun x h1 m1 H1 e1 s1 q1 v r1 => ?_⟩
  split at q1
  · rename_i hz
    refine ⟨by rw [sizeLine_eq, ← r1.length]; exact hz, fun p hp => ?_⟩
    exact s1.fls hp r1 fun m2 H2 v e2 s2 r2 => q1 m2 H2 e2 s2 v r2
  · exact q1.elim)
theorem fe_lst (hr : PA X es (FL.ra X.K g W r)) : PE X (.List es pos) (rd X.K g W (eLst r)) := pe_weak (pe_lst hr) (by
  rintro σ H Q ⟨δ, m, h, r, s, q⟩
  refine ⟨δ, m, h, r, s, Gd.bind q fun x h1 m1 H1 e1 s1 q1 v r1 => ?_⟩
  split at q1
  · rename_i hz
    refine ⟨by rw [sizeLine_eq, ← r1.length]; exact hz, fun p hp => ?_⟩
    obtain ⟨m2, e2, s2, r2⟩ := s1.alloc_lst hp r1
    exact q1 m2 _ e2 s2 _ r2
  · exact q1.elim)
def rB (K : PySem.W.Frag) (g : Gc) (o : List D → VH → Option (D × VH)) : List V → Hp → VK → Prop := fun vs H Q => ∃ m h xs, Sim K g m h H ∧ RDs K m h.length H xs vs ∧ GoodO K g m h.length H Q (o xs h)
theorem rd_eB {o : List D → VH → Option (D × VH)} : ∀ σ H Q, rd X.K g W (eB o r) σ H Q → tCB (rB X.K g o) (FL.ra X.K g W r) σ H Q := by
  rintro σ H Q ⟨δ, m, h, r, s, q⟩
  exact ⟨δ, m, h, r, s, Gd.bind q fun x h1 m1 H1 e1 s1 q1 v r1 => ⟨m1, h1, x, s1, r1, Gd.of q1⟩⟩
theorem fe_B {x : Str} {id : String} {o : List D → VH → Option (D × VH)} {p pos : Pos} (hc : CallR X (.builtin id) (rB X.K g o)) (hm : X.mg x = none) (ha : PA X (e :: es) (FL.ra X.K g W r)) (hg : Gl X x := by rfl) (hv : bootBuiltins x = some (.builtin id) := by decide +kernel) (hn : x ≠ "__name__" := by decide)
    (hdb : (x == ("__debug__" : Str)) = false := by decide) (he : starEach (e :: es) X.env = (false, eval e X.env) :: starEach es X.env := by rfl) (hpl : (backTo pos (starEach es X.env)).any (·.1) = false := by rfl) :
    PE X (.Call (.Name x p) (e :: es) [] pos) (rd X.K g W (eB o r)) := pe_weak (pe_callB hc hg hm hv ha hn hdb he hpl) rd_eB
theorem fe_BT {x : Str} {id : String} {o : List D → VH → Option (D × VH)} {p pos : Pos} (hc : CallR X (.type id) (rB X.K g o)) (hm : X.mg x = none) (ha : PA X (e :: es) (FL.ra X.K g W r)) (hg : Gl X x := by rfl) (hv : bootBuiltins x = some (.type id) := by decide +kernel) (hn : x ≠ "__name__" := by decide)
    (hdb : (x == ("__debug__" : Str)) = false := by decide) (he : starEach (e :: es) X.env = (false, eval e X.env) :: starEach es X.env := by rfl) (hpl : (backTo pos (starEach es X.env)).any (·.1) = false := by rfl) :
    PE X (.Call (.Name x p) (e :: es) [] pos) (rd X.K g W (eB o r)) := pe_weak (pe_callTy hc hg hm hv ha hn hdb he hpl) rd_eB
def rM (K : PySem.W.Frag) (g : Gc) (o : D → List D → VH → Option (D × VH)) : V → List V → Hp → VK → Prop := fun v vs H Q => ∃ m h x xs, Sim K g m h H ∧ RD K m h.length H x v ∧ RDs K m h.length H xs vs ∧ GoodO K g m h.length H Q (o x xs h)
def spF (K : PySem.W.Frag) (g : Gc) (F : List D → VH → Out D) : Sp := fun vs H Q E => ∃ m h xs, Sim K g m h H ∧ RDs K m h.length H xs vs ∧ GoodE K g (fun c d H' => E c d H') m h.length H Q (F xs h)
structure Df (P : Program) (w : World) (K : PySem.W.Frag) (mg : Str → Option Value) (base : Heap) (g : Gc) (k : Nat) (x : Str) (F : List D → VH → Out D) : Prop where
  ex : ∃ f fd ps, mg x = some (.ref f) ∧ PySem.W.keepIn K (.ref f) = true ∧ Binds K fd ps [] ∧ FnOk P w K mg base (L2.CX P w) k f fd ps (spF K g F)
theorem rd_eF {F : List D → VH → Out D} : ∀ σ H Q, rd X.K g W (eF F r) σ H Q → tCallS (spF X.K g F) (WE W) (FL.ra X.K g W r) σ H Q := by
  rintro σ H Q ⟨δ, m, h, r, s, q⟩
  exact ⟨δ, m, h, r, s, Gd.bind q fun x h1 m1 H1 e1 s1 q1 v r1 => ⟨m1, h1, x, s1, r1, q1⟩⟩
theorem fe_F {x : Str} {p pos : Pos} {k j : Nat} {F : List D → VH → Out D} (d : Df X.prog X.w X.K X.mg X.base g k x F) (tk : Takes X W) (hr : Room j X.A) (ha : PA X (e :: es) (FL.ra X.K g W r)) (hk : k ≤ j := by decide) (hg : Gl X x := by rfl) (hdb : (x == ("__debug__" : Str)) = false := by decide)
    (he : starEach (e :: es) X.env = (false, eval e X.env) :: starEach es X.env := by rfl) (hpl : (backTo pos (starEach es X.env)).any (·.1) = false := by rfl) : PE X (.Call (.Name x p) (e :: es) [] pos) (rd X.K g W (eF F r)) := by
  obtain ⟨f, fd, ps, h1, h2, h3, h4⟩ := d.ex
  exact pe_weak (pe_callS h4 (hr.mono hk) hg h1 h2 h3 (fun σ => passAt tk σ) ha hdb he hpl) rd_eF
end
end FL
set_option Elab.async false
set_option linter.all false
set_option maxRecDepth 100000
set_option maxHeartbeats 2000000
namespace FL
open PySem PySem.Spec PyProof.Rows L2
section
variable {X : Cx} {g : Gc}
theorem str_len (l : List Nat) : Str.length ⟨l.toArray⟩ = l.length := by simp [Str.length]
theorem str_app (a b : List Nat) : ((⟨a.toArray⟩ : Str) ++ ⟨b.toArray⟩) = ⟨(a ++ b).toArray⟩ := TL.ext_tl (by rw [TL.tl_append, TL.tl_mk, TL.tl_mk, TL.tl_mk])
theorem str_inj {a b : List Nat} : ((⟨a.toArray⟩ : Str) = ⟨b.toArray⟩) ↔ a = b := by
  constructor
  · intro h
    have := congrArg (fun x : Str => x.cps.toList) h
    simpa using this
  · rintro rfl; rfl
def rCatF (K : PySem.W.Frag) : R2 := fun x y H Q => ∃ a b xs ys, x = .ref a ∧ y = .ref b ∧ SqT K H a xs ∧ SqT K H b ys ∧ xs.length + ys.length ≤ sizeLine ∧
  (xs = [] → Q (.ref b) H) ∧ (xs ≠ [] → ys = [] → Q (.ref a) H) ∧ (xs ≠ [] → ys ≠ [] → ∀ p o, H p = none → o.dict = none → Q (.ref p) (upd H p (.frz o (.tup (xs ++ ys)))))
theorem op_catF : OpR X (binaryOp .Add) (rCatF X.K) := by
  intro pins s σ H x y v u Q I rx ry h
  obtain ⟨a, b, xs, ys, rfl, rfl, ha, hb, hz, q0, q1, q2⟩ := h
  cases rx
  cases ry
  obtain ⟨its, r1, p1, _⟩ := I.tuple ha
  obtain ⟨its2, r2, p2, _⟩ := I.tuple hb
  by_cases hx : xs = []
  · subst hx
    cases r1
    exact cat_tup0 p1 p2 ⟨.ref b, H, I, rfl, q0 rfl⟩
  · exact HT.cat_tup p1 p2 (fun z => hx (r1.nil_iff.mp z)) (fun z => ⟨.ref a, H, I, rfl, q1 hx (r2.nil_iff.mp z)⟩) (fun z => laid_tup I (r1.append r2) (by rw [List.length_append]; exact hz) (q2 hx fun w => z (r2.nil_iff.mpr w))) (by rw [← r1.length, ← r2.length]; exact hz)
theorem ls_of {K : PySem.W.Frag} {m : Nat → Addr} {h : VH} {H : Hp} {d : D} {v : V} {xs : List D} (s : Sim K g m h H) (r : RD K m h.length H d v) (e : lsOf d h = some xs) : ∃ a vs, v = .ref a ∧ SqL K H a vs ∧ RDs K m h.length H xs vs := by
  cases r with
  | fls h1 h2 => cases e; exact ⟨_, _, rfl, h1.seq, h2⟩
  | ref hk =>
    simp only [lsOf] at e
    split at e
    · rename_i ys hx
      cases e
      obtain ⟨_, vs, a1, b1⟩ := s.lst hx
      exact ⟨_, vs, rfl, .of a1, b1⟩
    · cases e
  | _ => cases e
def rCatL (K : PySem.W.Frag) : R2 := fun x y H Q => ∃ a b xs ys, x = .ref a ∧ y = .ref b ∧ SqL K H a xs ∧ SqL K H b ys ∧ xs.length + ys.length ≤ sizeLine ∧ ∀ p, H p = none → Q (.ref p) (upd H p (.lst (xs ++ ys)))
theorem op_catL : OpR X (binaryOp .Add) (rCatL X.K) := by
  intro pins s σ H x y v u Q I rx ry h
  obtain ⟨l, b, xs, zs, rfl, rfl, hH, hB, hz, q⟩ := h
  cases rx
  cases ry
  obtain ⟨its, r1, p1, z1⟩ := I.list hH
  obtain ⟨its2, r2, p2, z2⟩ := I.list hB
  obtain ⟨⟨cls, dd, data, sl⟩, ho, hc, n, hd⟩ := p1.isList
  obtain ⟨⟨cls2, dd2, data2, sl2⟩, ho2, hc2, n2, hd2⟩ := p2.isList
  simp only at hc hd hc2 hd2
  subst hc hd hc2 hd2
  have l1 := r1.length
  have l2 := r2.length
  have hs := sizeLine_eq
  refine concat_meets ⟨_, ho, rfl⟩ ⟨_, ho2, rfl⟩ noFill_list_add seq_list_add PySem.F.slot_list_add PySem.F.entry_list_add (PySem.F.args_list_add_2 _ _) (list_addW l b its.toArray its2.toArray n n2 dd dd2 sl sl2 (by rw [List.size_toArray, List.size_toArray]; omega)) ⟨ho, ho2, ?_⟩
  have ea : its.toArray ++ its2.toArray = (its ++ its2).toArray := by simp
  rw [ea]
  exact ⟨.ref _, _, I.lnew (t' := s.toks) (r1.append r2) (by rw [List.length_append]; omega), rfl, q _ I.fresh⟩
def rRepL (K : PySem.W.Frag) : R2 := fun x y H Q => ∃ l k xs, x = .ref l ∧ y = .int k ∧ SqL K H l xs ∧ -(2 ^ 63) ≤ k ∧ k < 2 ^ 63 ∧ xs.length * k.toNat ≤ sizeLine ∧
  ∀ p, H p = none → Q (.ref p) (upd H p (.lst (List.replicate k.toNat xs).flatten))
theorem op_repL : OpR X (binaryOp .Mult) (rRepL X.K) := by
  intro pins s σ H x y v u Q I rx ry h
  obtain ⟨l, x, xs, rfl, rfl, hH, h1, h2, hz, q⟩ := h
  cases rx
  obtain ⟨u, rfl⟩ := ry
  obtain ⟨vs, r, p1, z1⟩ := I.list hH
  obtain ⟨⟨cls, d, data, sl⟩, ho, hcl, k, hd⟩ := p1.isList
  simp only at hcl hd
  subst hcl hd
  have l1 := r.length
  have hs := sizeLine_eq
  have hsz' : vs.toArray.size * x.toNat ≤ 2 ^ 24 := by rw [List.size_toArray, ← l1]; omega
  refine wpAny_binaryOp_repeat_ref (T := "list") (U := "int") (by decide) ⟨_, ho, rfl⟩ (fun s' => typeIs_int s' x u) noFill_list_mul PySem.F.fills_int_mul PySem.F.slot_int_rmul repeat_list PySem.F.slot_int_index.lookup
    (call_meets PySem.F.slot_int_rmul (typeIs_int s x u) PySem.F.entry_int_rmul (PySem.F.args_int_rmul_2 _ _) (lm_int_rmul_list_any x u l vs.toArray k d sl)
      ⟨ho, rfl, ⟨_, ho, rfl⟩, call_meets PySem.F.slot_list_mul ⟨_, ho, rfl⟩ PySem.F.entry_list_mul (PySem.F.args_list_mul_2 _ _)
        (lm_list_mul_any l vs.toArray k d sl x u (by simp [Builtin.List.listFitsIndex]; omega) (by omega) (by simp [Builtin.List.listTooLong, sizeLine]; omega))
        ⟨ho, ?_⟩⟩)
  rw [listMul_foldl_if]
  exact ⟨.ref _, _, I.lnew (t' := s.toks) (r.rep x.toNat) (by rw [PyProof.Rows.lm_len_rep_flat, Nat.mul_comm]; exact hz), rfl, q _ I.fresh⟩
theorem or_add : OpR X (binaryOp .Add) (rO2 X.K g oAdd) := by
  rintro pins st σ H x y v u Q I rx ry ⟨m, h, d, e, s, r1, r2, q⟩
  have gen : (match lsOf d h, lsOf e h with
    | some a, some b => if a.length + b.length ≤ 16777216 then some (D.fls (a ++ b), h) else none
    | _, _ => none) = oAdd d e h → wpAny (model X.prog X.w) X.A (binaryOp .Add v u) (EP X pins σ Q) X.xe st := by
    intro z
    rw [← z] at q
    split at q
    · rename_i xs ys h1 h2
      split at q
      · rename_i hz
        obtain ⟨a, vs, rfl, a1, b1⟩ := ls_of s r1 h1
        obtain ⟨b, ws, rfl, a2, b2⟩ := ls_of s r2 h2
        refine opr_fz op_catL pins st σ H _ _ v u Q I rx ry ⟨_, _, vs, ws, rfl, rfl, a1, a2, by rw [sizeLine_eq, ← b1.length, ← b2.length]; exact hz, fun p hp => ?_⟩
        exact s.fls hp (b1.append b2) q
      · exact q.elim
    · exact q.elim
  cases r1 with
  | int i => cases r2 with
    | int j => exact op_add pins st σ H _ _ v u Q I rx ry ⟨i, j, rfl, rfl, q m H _ Ext.refl s (.int _)⟩
    | _ => exact gen rfl
  | str ha => cases r2 with
    | str hb =>
      rename_i a b
      simp only [oAdd] at q
      split at q
      · rename_i hz
        refine op_add_str pins st σ H _ _ v u Q I rx ry ⟨_, _, rfl, rfl, by rw [sizeLine_eq, str_len, str_len]; exact hz, ?_⟩
        rw [str_app]
        exact q m H _ Ext.refl s (.str (okS.append ha hb))
      · exact q.elim
    | _ => exact gen rfl
  | tup h1 h2 => cases r2 with
    | tup h3 h4 =>
      rename_i a xs vs b ys ws
      simp only [oAdd] at q
      split at q
      · rename_i hz
        refine op_catF pins st σ H _ _ v u Q I rx ry ⟨_, _, _, _, rfl, rfl, h1.sq, h3.sq, by rw [sizeLine_eq, ← h2.length, ← h4.length]; exact hz, fun e => ?_, fun _ e => ?_, fun _ _ p o hp ho => ?_⟩
        · subst e
          cases h2
          exact q m H _ Ext.refl s (.tup h3 h4)
        · subst e
          cases h4
          exact q m H _ Ext.refl s (.tup h1 (by rw [List.append_nil]; exact h2))
        · obtain ⟨e2, s2⟩ := s.tup (o := .frz o (.tup (vs ++ ws))) hp
          exact q m _ _ e2 s2 (.tup (.of upd_same ho) (e2.rds (h2.append h4)))
      · exact q.elim
    | _ => exact gen rfl
  | _ => cases r2 <;> exact gen rfl
theorem or_sub : OpR X (binaryOp .Sub) (rO2 X.K g oSub) := by
  rintro pins st σ H x y v u Q I rx ry ⟨m, h, d, e, s, r1, r2, q⟩
  cases r1 with
  | int i => cases r2 with
    | int j => exact op_sub pins st σ H _ _ v u Q I rx ry ⟨i, j, rfl, rfl, q m H _ Ext.refl s (.int _)⟩
    | _ => exact q.elim
  | _ => cases r2 <;> exact q.elim
theorem RDs.rep {K : PySem.W.Frag} {m : Nat → Addr} {n : Nat} {H : Hp} {xs : List D} {vs : List V} (h : RDs K m n H xs vs) : ∀ k : Nat, RDs K m n H (List.replicate k xs).flatten (List.replicate k vs).flatten
  | 0 => .nil
  | k + 1 => by
    rw [List.replicate_succ, List.replicate_succ, List.flatten_cons, List.flatten_cons]
    exact h.append (RDs.rep h k)
theorem or_mul : OpR X (binaryOp .Mult) (rO2 X.K g oMul) := by
  rintro pins st σ H x y v u Q I rx ry ⟨m, h, d, e, s, r1, r2, q⟩
  have gen : ∀ {k : Int}, e = .int k → (match lsOf d h with
    | some a => if -9223372036854775808 ≤ k ∧ k < 9223372036854775808 ∧ a.length * k.toNat ≤ 16777216 then some (D.fls (List.replicate k.toNat a).flatten, h) else none
    | none => none) = oMul d e h → wpAny (model X.prog X.w) X.A (binaryOp .Mult v u) (EP X pins σ Q) X.xe st := by
    intro k ek z
    subst ek
    cases r2
    rw [← z] at q
    split at q
    · rename_i xs h1
      split at q
      · rename_i hz
        obtain ⟨a, vs, rfl, a1, b1⟩ := ls_of s r1 h1
        refine opr_fz op_repL pins st σ H _ _ v u Q I rx ry ⟨_, k, vs, rfl, rfl, a1, hz.1, hz.2.1, by rw [sizeLine_eq, ← b1.length]; exact hz.2.2, fun p hp => ?_⟩
        exact s.fls hp (b1.rep k.toNat) q
      · exact q.elim
    · exact q.elim
  cases r1 with
  | int i => cases r2 with
    | int j =>
      simp only [oMul] at q
      split at q
      · rename_i hz
        exact op_mul pins st σ H _ _ v u Q I rx ry ⟨i, j, rfl, rfl, hz, q m H _ Ext.refl s (.int _)⟩
      · exact q.elim
    | _ => exact q.elim
  | _ => cases r2 with
    | int k => exact gen rfl rfl
    | _ => exact q.elim
theorem or_fdv : OpR X (binaryOp .FloorDiv) (rO2 X.K g oFdv) := by
  rintro pins st σ H x y v u Q I rx ry ⟨m, h, d, e, s, r1, r2, q⟩
  cases r1 with
  | int i => cases r2 with
    | int j =>
      simp only [oFdv] at q
      split at q
      · rename_i hz
        exact op_fdiv pins st σ H _ _ v u Q I rx ry ⟨i, j, rfl, rfl, hz, q m H _ Ext.refl s (.int _)⟩
      · exact q.elim
    | _ => exact q.elim
  | _ => cases r2 <;> exact q.elim
theorem or_mod : OpR X (binaryOp .Mod) (rO2 X.K g oMod) := by
  rintro pins st σ H x y v u Q I rx ry ⟨m, h, d, e, s, r1, r2, q⟩
  cases r1 with
  | int i => cases r2 with
    | int j =>
      simp only [oMod] at q
      split at q
      · rename_i hz
        exact op_mod pins st σ H _ _ v u Q I rx ry ⟨i, j, rfl, rfl, hz, q m H _ Ext.refl s (.int _)⟩
      · exact q.elim
    | _ => exact q.elim
  | _ => cases r2 <;> exact q.elim
theorem or_pow : OpR X (binaryOp .Pow) (rO2 X.K g oPow) := by
  rintro pins st σ H x y v u Q I rx ry ⟨m, h, d, e, s, r1, r2, q⟩
  cases r1 with
  | int i => cases r2 with
    | int j =>
      simp only [oPow] at q
      split at q
      · rename_i hz
        exact op_pow pins st σ H _ _ v u Q I rx ry ⟨i, j, rfl, rfl, hz, q m H _ Ext.refl s (.int _)⟩
      · exact q.elim
    | _ => exact q.elim
  | _ => cases r2 <;> exact q.elim
theorem or_lt : OpR X (compareOp .Lt) (rO2 X.K g cLt) := by
  rintro pins st σ H x y v u Q I rx ry ⟨m, h, d, e, s, r1, r2, q⟩
  cases r1 with
  | int i => cases r2 with
    | int j => exact op_lt pins st σ H _ _ v u Q I rx ry ⟨i, j, rfl, rfl, q m H _ Ext.refl s (.bl _)⟩
    | _ => exact q.elim
  | str ha => cases r2 with
    | str hb => exact op_lt_str pins st σ H _ _ v u Q I rx ry ⟨_, _, rfl, rfl, q m H _ Ext.refl s (.bl _)⟩
    | _ => exact q.elim
  | _ => cases r2 <;> exact q.elim
theorem or_le : OpR X (compareOp .LtE) (rO2 X.K g cLe) := by
  rintro pins st σ H x y v u Q I rx ry ⟨m, h, d, e, s, r1, r2, q⟩
  cases r1 with
  | int i => cases r2 with
    | int j => exact op_le pins st σ H _ _ v u Q I rx ry ⟨i, j, rfl, rfl, q m H _ Ext.refl s (.bl _)⟩
    | _ => exact q.elim
  | str ha => cases r2 with
    | str hb => exact op_le_str pins st σ H _ _ v u Q I rx ry ⟨_, _, rfl, rfl, q m H _ Ext.refl s (.bl _)⟩
    | _ => exact q.elim
  | _ => cases r2 <;> exact q.elim
theorem or_gt : OpR X (compareOp .Gt) (rO2 X.K g cGt) := by
  rintro pins st σ H x y v u Q I rx ry ⟨m, h, d, e, s, r1, r2, q⟩
  cases r1 with
  | int i => cases r2 with
    | int j => exact op_gt pins st σ H _ _ v u Q I rx ry ⟨i, j, rfl, rfl, q m H _ Ext.refl s (.bl _)⟩
    | _ => exact q.elim
  | str ha => cases r2 with
    | str hb => exact op_gt_str pins st σ H _ _ v u Q I rx ry ⟨_, _, rfl, rfl, q m H _ Ext.refl s (.bl _)⟩
    | _ => exact q.elim
  | _ => cases r2 <;> exact q.elim
theorem or_ge : OpR X (compareOp .GtE) (rO2 X.K g cGe) := by
  rintro pins st σ H x y v u Q I rx ry ⟨m, h, d, e, s, r1, r2, q⟩
  cases r1 with
  | int i => cases r2 with
    | int j => exact op_ge pins st σ H _ _ v u Q I rx ry ⟨i, j, rfl, rfl, q m H _ Ext.refl s (.bl _)⟩
    | _ => exact q.elim
  | str ha => cases r2 with
    | str hb => exact op_ge_str pins st σ H _ _ v u Q I rx ry ⟨_, _, rfl, rfl, q m H _ Ext.refl s (.bl _)⟩
    | _ => exact q.elim
  | _ => cases r2 <;> exact q.elim
theorem isNon_iff {K : PySem.W.Frag} {m : Nat → Addr} {n : Nat} {H : Hp} {d : D} {v : V} (r : RD K m n H d v) : isNon d = decide (v = .non) := by
  cases r <;> rfl
theorem or_is : OpR X (compareOp .Is) (rO2 X.K g cIs) := by
  rintro pins st σ H x y v u Q I rx ry ⟨m, h, d, e, s, r1, r2, q⟩
  cases r2 with
  | non =>
    refine op_isN pins st σ H _ _ v u Q I rx ry ⟨rfl, ?_⟩
    rw [← isNon_iff r1]
    exact q m H _ Ext.refl s (.bl _)
  | _ => cases r1 <;> exact q.elim
theorem allS_cons {α : Type} {a : Option α} {r : List (Option α)} {l : List α} (e : allS (a :: r) = some l) : ∃ x l', a = some x ∧ allS r = some l' ∧ l = x :: l' := by
  cases a with
  | none => simp [allS] at e
  | some x =>
    simp only [allS] at e
    split at e
    · rename_i l' h
      cases e
      exact ⟨x, l', rfl, h, rfl⟩
    · cases e
theorem dp_of {K : PySem.W.Frag} {m : Nat → Addr} {h : VH} {H : Hp} (s : Sim K g m h H) : ∀ (n : Nat) (d : D) (v : V) (p : PyData), RD K m h.length H d v → toP n h d = some p → Dp K H v p ∧ p.canLay0 = true ∧ p.depth ≤ n
  | 0, d, v, p, r, e => by simp [toP] at e
  | n + 1, d, v, p, r, e => by
    have each : ∀ (xs : List D) (vs : List V) (l : List PyData), RDs K m h.length H xs vs → allS (xs.map (toP n h)) = some l → DpAll K H vs l ∧ PyData.canLayAll0 l = true ∧ PyData.depthAll l ≤ n := by
      intro xs
      induction xs with
      | nil =>
        intro vs l r e
        cases r
        simp only [List.map_nil, allS, Option.some.injEq] at e
        subst e
        exact ⟨.nil, rfl, Nat.zero_le _⟩
      | cons x xs ih =>
        intro vs l r e
        cases r with
        | cons r1 r2 =>
          rw [List.map_cons] at e
          obtain ⟨a, l', e1, e2, rfl⟩ := allS_cons e
          obtain ⟨d1, c1, k1⟩ := dp_of s n x _ a r1 e1
          obtain ⟨d2, c2, k2⟩ := ih _ l' r2 e2
          refine ⟨.cons d1 d2, by simp only [PyData.canLayAll0, c1, c2] <;> rfl, ?_⟩
          simp only [PyData.depthAll]
          exact Nat.max_le.mpr ⟨k1, k2⟩
    cases r with
    | non => simp only [toP, Option.some.injEq] at e; subst e; exact ⟨.non, rfl, by simp [PyData.depth]⟩
    | bl b => simp only [toP, Option.some.injEq] at e; subst e; exact ⟨.bl b, rfl, by simp [PyData.depth]⟩
    | int b => simp only [toP, Option.some.injEq] at e; subst e; exact ⟨.int b, rfl, by simp [PyData.depth]⟩
    | str hb =>
      rename_i l
      simp only [toP, Option.some.injEq] at e
      subst e
      refine ⟨.str _, ?_, by simp [PyData.depth]⟩
      simp only [PyData.canLay0, PyData.strOk]
      unfold okS at hb
      simpa using hb
    | tup h1 h2 =>
      simp only [toP] at e
      split at e
      · rename_i l hl
        cases e
        obtain ⟨a, b, c⟩ := each _ _ l h2 hl
        exact ⟨.tup h1.sq a, by simp only [PyData.canLay0, b], by simp only [PyData.depth]; omega⟩
      · cases e
    | fls h1 h2 =>
      simp only [toP] at e
      split at e
      · rename_i l hl
        cases e
        obtain ⟨a, b, c⟩ := each _ _ l h2 hl
        exact ⟨.lst h1.seq a, by simp only [PyData.canLay0, b], by simp only [PyData.depth]; omega⟩
      · cases e
    | ref hk =>
      simp only [toP] at e
      split at e
      · rename_i xs hx
        obtain ⟨_, vs, a1, b1⟩ := s.lst hx
        split at e
        · rename_i l hl
          cases e
          obtain ⟨a, b, c⟩ := each _ _ l b1 hl
          exact ⟨.lst (.of a1) a, by simp only [PyData.canLay0, b], by simp only [PyData.depth]; omega⟩
        · cases e
      · cases e
    | fdc _ _ _ _ => simp [toP] at e
    | ty _ => simp [toP] at e
    | adr _ => simp [toP] at e
    | clo _ _ _ _ => simp [toP] at e
theorem dp_deep {K : PySem.W.Frag} {m : Nat → Addr} {h : VH} {H : Hp} (s : Sim K g m h H) {d : D} {v : V} {p : PyData} (r : RD K m h.length H d v) (e : toP deep h d = some p) : Dp K H v p ∧ SeqAt.shaped p = true := by
  obtain ⟨a, b, c⟩ := dp_of s deep d v p r e
  refine ⟨a, ?_⟩
  unfold SeqAt.shaped
  rw [b, Bool.true_and]
  exact decide_eq_true (Nat.le_trans c (by decide))
theorem dps_deep {K : PySem.W.Frag} {m : Nat → Addr} {h : VH} {H : Hp} (s : Sim K g m h H) : ∀ {xs : List D} {vs : List V} {l : List PyData}, RDs K m h.length H xs vs → allS (xs.map (toP deep h)) = some l → DpAll K H vs l ∧ PyData.canLayAll0 l = true ∧ PyData.depthAll l ≤ deep
  | [], vs, l, r, e => by
    cases r
    simp only [List.map_nil, allS, Option.some.injEq] at e
    subst e
    exact ⟨.nil, rfl, Nat.zero_le _⟩
  | x :: xs, vs, l, r, e => by
    cases r with
    | cons r1 r2 =>
      rw [List.map_cons] at e
      obtain ⟨a, l', e1, e2, rfl⟩ := allS_cons e
      obtain ⟨d1, c1, k1⟩ := dp_of s deep x _ a r1 e1
      obtain ⟨d2, c2, k2⟩ := dps_deep s r2 e2
      refine ⟨.cons d1 d2, by simp only [PyData.canLayAll0, c1, c2] <;> rfl, ?_⟩
      simp only [PyData.depthAll]
      exact Nat.max_le.mpr ⟨k1, k2⟩
theorem eq_deep (hu : X.A.units + 64 < cLine) {pins : List (Addr × Obj)} {st : Shared} {σ : L2.St} {H : Hp} {x y : V} {v u : Value} {Q : VK} (I : Inv X pins σ H st) (rx : RelV x v) (ry : RelV y u) {m : Nat → Addr} {h : VH} {d e : D} {b : Bool}
    (s : Sim X.K g m h H) (r1 : RD X.K m h.length H d x) (r2 : RD X.K m h.length H e y) (ed : eqD d e h = some b) (q : Q (.bl b) H) : wpAny (model X.prog X.w) X.A (compareOp .Eq v u) (EP X pins σ Q) X.xe st := by
  unfold eqD at ed
  split at ed
  · rename_i a c h1 h2
    cases ed
    obtain ⟨d1, sh1⟩ := dp_deep s r1 h1
    obtain ⟨d2, sh2⟩ := dp_deep s r2 h2
    exact op_eqD hu pins st σ H x y v u Q I rx ry ⟨a, c, d1, d2, sh1, sh2, q⟩
  · cases ed
theorem ne_deep (hu : X.A.units + 64 < cLine) {pins : List (Addr × Obj)} {st : Shared} {σ : L2.St} {H : Hp} {x y : V} {v u : Value} {Q : VK} (I : Inv X pins σ H st) (rx : RelV x v) (ry : RelV y u) {m : Nat → Addr} {h : VH} {d e : D} {b : Bool}
    (s : Sim X.K g m h H) (r1 : RD X.K m h.length H d x) (r2 : RD X.K m h.length H e y) (ed : eqD d e h = some b) (q : Q (.bl (!b)) H) : wpAny (model X.prog X.w) X.A (compareOp .NotEq v u) (EP X pins σ Q) X.xe st := by
  unfold eqD at ed
  split at ed
  · rename_i a c h1 h2
    cases ed
    obtain ⟨d1, sh1⟩ := dp_deep s r1 h1
    obtain ⟨d2, sh2⟩ := dp_deep s r2 h2
    exact op_neD hu pins st σ H x y v u Q I rx ry ⟨a, c, d1, d2, sh1, sh2, q⟩
  · cases ed
theorem dec_strs {a b : List Nat} : decide (V.str ⟨a.toArray⟩ = V.str ⟨b.toArray⟩) = decide (a = b) := by
  by_cases e : a = b
  · subst e; simp
  · have : ¬ (V.str ⟨a.toArray⟩ = V.str ⟨b.toArray⟩) := fun z => e (str_inj.mp (V.str.inj z))
    rw [decide_eq_false e, decide_eq_false this]
theorem dec_ints {a b : Int} : decide (V.int a = V.int b) = decide (a = b) := by
  by_cases e : a = b
  · subst e; simp
  · have : ¬ (V.int a = V.int b) := fun z => e (V.int.inj z)
    rw [decide_eq_false e, decide_eq_false this]
theorem dec_bls {a b : Bool} : decide (V.bl a = V.bl b) = decide (a = b) := by
  by_cases e : a = b
  · subst e; simp
  · have : ¬ (V.bl a = V.bl b) := fun z => e (V.bl.inj z)
    rw [decide_eq_false e, decide_eq_false this]
theorem or_eq (hu : X.A.units + 64 < cLine) : OpR X (compareOp .Eq) (rO2 X.K g cEq) := by
  rintro pins st σ H x y v u Q I rx ry ⟨m, h, d, e, s, r1, r2, q⟩
  have gen : (match eqD d e h with | some b => some (D.bl b, h) | none => none) = cEq d e h → wpAny (model X.prog X.w) X.A (compareOp .Eq v u) (EP X pins σ Q) X.xe st := by
    intro z
    rw [← z] at q
    split at q
    · rename_i b hb
      exact eq_deep hu I rx ry s r1 r2 hb (q m H _ Ext.refl s (.bl b))
    · exact q.elim
  cases r1 with
  | int i => cases r2 with
    | int j =>
      refine op_eq pins st σ H _ _ v u Q I rx ry ⟨rfl, ?_⟩
      rw [dec_ints]
      exact q m H _ Ext.refl s (.bl _)
    | _ => exact gen rfl
  | str ha => cases r2 with
    | str hb =>
      refine op_eq pins st σ H _ _ v u Q I rx ry ⟨rfl, ?_⟩
      rw [dec_strs]
      exact q m H _ Ext.refl s (.bl _)
    | _ => exact gen rfl
  | bl i => cases r2 with
    | bl j =>
      refine op_eq pins st σ H _ _ v u Q I rx ry ⟨rfl, ?_⟩
      rw [dec_bls]
      exact q m H _ Ext.refl s (.bl _)
    | _ => exact gen rfl
  | _ => cases r2 <;> exact gen rfl
theorem or_ne (hu : X.A.units + 64 < cLine) : OpR X (compareOp .NotEq) (rO2 X.K g cNe) := by
  rintro pins st σ H x y v u Q I rx ry ⟨m, h, d, e, s, r1, r2, q⟩
  have gen : (match eqD d e h with | some b => some (D.bl (!b), h) | none => none) = cNe d e h → wpAny (model X.prog X.w) X.A (compareOp .NotEq v u) (EP X pins σ Q) X.xe st := by
    intro z
    rw [← z] at q
    split at q
    · rename_i b hb
      exact ne_deep hu I rx ry s r1 r2 hb (q m H _ Ext.refl s (.bl _))
    · exact q.elim
  cases r1 with
  | int i => cases r2 with
    | int j =>
      refine op_ne pins st σ H _ _ v u Q I rx ry ⟨rfl, ?_⟩
      rw [dec_ints]
      exact q m H _ Ext.refl s (.bl _)
    | _ => exact gen rfl
  | str ha => cases r2 with
    | str hb =>
      refine op_ne pins st σ H _ _ v u Q I rx ry ⟨rfl, ?_⟩
      rw [dec_strs]
      exact q m H _ Ext.refl s (.bl _)
    | _ => exact gen rfl
  | bl i => cases r2 with
    | bl j =>
      refine op_ne pins st σ H _ _ v u Q I rx ry ⟨rfl, ?_⟩
      rw [dec_bls]
      exact q m H _ Ext.refl s (.bl _)
    | _ => exact gen rfl
  | _ => cases r2 <;> exact gen rfl
end
end FL
set_option Elab.async false
set_option linter.all false
set_option maxRecDepth 100000
set_option maxHeartbeats 2000000
namespace FL
open PySem PySem.Spec PyProof.Rows L2
section
variable {X : Cx} {g : Gc}
theorem key_of {K : PySem.W.Frag} {m : Nat → Addr} {n : Nat} {H : Hp} {d : D} {v : V} (r : RD K m n H d v) (e : isKey d = true) : ∃ k : Key, d = kD k ∧ v = kV k ∧ okK k = true := by
  cases r with
  | int i => exact ⟨.inl i, rfl, rfl, rfl⟩
  | str h =>
    rename_i l
    exact ⟨.inr ⟨l.toArray⟩, by simp [kD], rfl, h⟩
  | _ => simp [isKey] at e
theorem kD_eq (a b : Key) : keyEq (kD a) (kD b) = decide (a = b) := by
  cases a with
  | inl i => cases b with
    | inl j =>
      simp only [kD, keyEq]
      by_cases e : i = j
      · subst e; simp
      · rw [decide_eq_false e, decide_eq_false (fun z => e (Sum.inl.inj z))]
    | inr y => rfl
  | inr x => cases b with
    | inl j => rfl
    | inr y =>
      simp only [kD, keyEq]
      by_cases e : x = y
      · subst e; simp
      · rw [decide_eq_false (fun z => e (Sum.inr.inj z)), decide_eq_false (fun z => e (TL.ext_tl z))]
theorem rks_get {K : PySem.W.Frag} {m : Nat → Addr} {n : Nat} {H : Hp} : ∀ {kvs : List (D × D)} {vs : List (Key × V)} (k : Key), RKs K m n H kvs vs → (∀ d, dGet kvs (kD k) = some d → ∃ v, valV vs k = some v ∧ RD K m n H d v) ∧ (dGet kvs (kD k) = none → valV vs k = none)
  | _, _, k, .nil => ⟨fun d e => by simp [dGet] at e, fun _ => rfl⟩
  | _, _, k, .cons (k := k') (v := v) (vs := vs) _ r1 r2 => by
    have ih := rks_get k r2
    by_cases e : k' = k
    · subst e
      refine ⟨fun d h => ?_, fun h => ?_⟩
      · simp only [dGet, kD_eq, decide_true, if_true, Option.some.injEq] at h
        subst h
        exact ⟨v, valV_pos (by rfl), r1⟩
      · simp [dGet, kD_eq] at h
    · have e1 : valV ((k', v) :: vs) k = valV vs k := valV_neg (by exact e)
      refine ⟨fun d h => ?_, fun h => ?_⟩
      · simp only [dGet, kD_eq, decide_eq_false e, Bool.false_eq_true, if_false] at h
        rw [e1]
        exact ih.1 d h
      · simp only [dGet, kD_eq, decide_eq_false e, Bool.false_eq_true, if_false] at h
        rw [e1]
        exact ih.2 h
theorem rks_some {K : PySem.W.Frag} {m : Nat → Addr} {n : Nat} {H : Hp} {kvs : List (D × D)} {vs : List (Key × V)} (k : Key) (r : RKs K m n H kvs vs) : (dGet kvs (kD k)).isSome = (valV vs k).isSome := by
  obtain ⟨h1, h2⟩ := rks_get k r
  cases e : dGet kvs (kD k) with
  | none => rw [h2 e] <;> rfl
  | some d =>
    obtain ⟨v, hv, _⟩ := h1 d e
    rw [hv] <;> rfl
theorem rks_len {K : PySem.W.Frag} {m : Nat → Addr} {n : Nat} {H : Hp} : ∀ {kvs : List (D × D)} {vs : List (Key × V)}, RKs K m n H kvs vs → kvs.length = vs.length
  | _, _, .nil => rfl
  | _, _, .cons _ _ r => by rw [List.length_cons, List.length_cons, rks_len r]
theorem rks_rest {K : PySem.W.Frag} {m : Nat → Addr} {n : Nat} {H : Hp} (k : Key) {d : D} {v : V} (rd : RD K m n H d v) : ∀ {kvs : List (D × D)} {vs : List (Key × V)}, RKs K m n H kvs vs → (∀ p ∈ vs, p.1 ≠ k) → RKs K m n H kvs (vs.map fun kv => if kv.1 = k then (kv.1, v) else kv)
  | _, _, .nil, _ => .nil
  | _, _, .cons (k := k') r0 r1 r2, h => by
    have e : ¬ k' = k := h _ List.mem_cons_self
    rw [List.map_cons]
    simp only [e, if_false]
    exact .cons r0 r1 (rks_rest k rd r2 fun p hp => h p (List.mem_cons_of_mem _ hp))
def KNd (vs : List (Key × V)) : Prop := (vs.map (·.1)).Nodup
theorem rks_put {K : PySem.W.Frag} {m : Nat → Addr} {n : Nat} {H : Hp} (k : Key) (hk : okK k = true) {d : D} {v : V} (rd : RD K m n H d v) : ∀ {kvs : List (D × D)} {vs : List (Key × V)}, RKs K m n H kvs vs → KNd vs → RKs K m n H (dPut kvs (kD k) d) (putK vs k v)
  | _, _, .nil, _ => by
    show RKs K m n H [(kD k, d)] (putK [] k v)
    exact .cons hk rd .nil
  | _, _, .cons (k := k') (x := x) (v := w) (vs := vs) r0 r1 r2, nd => by
    have nd' : k' ∉ vs.map (·.1) ∧ KNd vs := List.nodup_cons.mp nd
    by_cases e : k' = k
    · subst e
      have hp : putK ((k', w) :: vs) k' v = (k', v) :: (vs.map fun kv => if kv.1 = k' then (kv.1, v) else kv) := by
        unfold putK
        simp
      rw [hp]
      simp only [dPut, kD_eq, decide_true, if_true]
      exact .cons r0 rd (rks_rest k' rd r2 fun p hp z => nd'.1 (by rw [← z]; exact List.mem_map.mpr ⟨p, hp, rfl⟩))
    · have hp : putK ((k', w) :: vs) k v = (k', w) :: putK vs k v := by
        unfold putK
        by_cases ha : (vs.any fun kv => decide (kv.1 = k)) = true
        · simp [e, ha]
        · simp [e, ha]
      rw [hp]
      simp only [dPut, kD_eq, decide_eq_false e, Bool.false_eq_true, if_false]
      exact .cons r0 r1 (rks_put k hk rd r2 nd'.2)
theorem knd_of {pins : List (Addr × Obj)} {σ : L2.St} {H : Hp} {s : Shared} {a : Addr} {vs : List (Key × V)} (I : Inv X pins σ H s) (h : H a = some (.dK vs)) : KNd vs := by
  obtain ⟨_, _, us, rel, dd⟩ := dk_of I.hok h
  unfold KNd
  rw [rel.keys]
  obtain ⟨_, _, _, _, _, _, _, nd⟩ := dd
  first | exact nd | exact nd.1 | exact nd.2
theorem any_kD {k : Key} : ∀ {kvs : List (Key × V)}, ((kvs.map fun p => kD p.1).any fun z => keyEq z (kD k)) = (valV kvs k).isSome
  | [] => rfl
  | (k', v) :: kvs => by
    have ih := any_kD (k := k) (kvs := kvs)
    rw [List.map_cons, List.any_cons, ih, kD_eq]
    by_cases e : k' = k
    · subst e
      rw [valV_pos (by rfl)]
      simp
    · have e1 : valV ((k', v) :: kvs) k = valV kvs k := valV_neg (by exact e)
      rw [e1, decide_eq_false e] <;> rfl
theorem fdc_get {K : PySem.W.Frag} {m : Nat → Addr} {n : Nat} {H : Hp} {k : Key} {d : D} : ∀ {kvs : List (Key × V)} {ds : List D}, RDs K m n H ds (kvs.map (·.2)) → fGet (kvs.map fun p => kD p.1) ds (kD k) = some d → ∃ v, valV kvs k = some v ∧ RD K m n H d v
  | [], _, r, e => by simp [fGet] at e
  | (k', v) :: kvs, ds, r, e => by
    rw [List.map_cons] at r
    cases r with
    | cons r1 r2 =>
      rw [List.map_cons] at e
      unfold fGet at e
      rw [kD_eq] at e
      by_cases h : k' = k
      · subst h
        simp only [decide_true, if_true, Option.some.injEq] at e
        subst e
        exact ⟨v, valV_pos (by rfl), r1⟩
      · simp only [decide_eq_false h, Bool.false_eq_true, if_false] at e
        have e1 : valV ((k', v) :: kvs) k = valV kvs k := valV_neg (by exact h)
        rw [e1]
        exact fdc_get r2 e
theorem or_in_gen (hu : X.A.units + 65 < cLine) {pins : List (Addr × Obj)} {st : Shared} {σ : L2.St} {H : Hp} {x y : V} {v u : Value} (I : Inv X pins σ H st) (rx : RelV x v) (ry : RelV y u) {m : Nat → Addr} {h : VH} {d e : D} {b : Bool}
    (s : Sim X.K g m h H) (r1 : RD X.K m h.length H d x) (r2 : RD X.K m h.length H e y) (ed : inD d e h = some b) {Q : VK} :
    (Q (.bl b) H → wpAny (model X.prog X.w) X.A (compareOp .In v u) (EP X pins σ Q) X.xe st) ∧ (Q (.bl (!b)) H → wpAny (model X.prog X.w) X.A (compareOp .NotIn v u) (EP X pins σ Q) X.xe st) := by
  have lst : ∀ (ys : List D) (a : Addr) (ws : List V), y = .ref a → SqL X.K H a ws → RDs X.K m h.length H ys ws → (match toP deep h d, allS (ys.map (toP deep h)) with | some a, some l => some (l.any fun z => PyData.eqv z a) | _, _ => none) = some b →
      (Q (.bl b) H → wpAny (model X.prog X.w) X.A (compareOp .In v u) (EP X pins σ Q) X.xe st) ∧ (Q (.bl (!b)) H → wpAny (model X.prog X.w) X.A (compareOp .NotIn v u) (EP X pins σ Q) X.xe st) := by
    intro ys a ws ey hs rs z
    subst ey
    split at z
    · rename_i p l h1 h2
      cases z
      obtain ⟨d1, sh1⟩ := dp_deep s r1 h1
      obtain ⟨d2, c2, k2⟩ := dps_deep s rs h2
      have sh2 : SeqAt.shaped (.list l) = true := by
        unfold SeqAt.shaped
        rw [Bool.and_eq_true]
        refine ⟨by simp only [PyData.canLay0]; exact c2, decide_eq_true ?_⟩
        simp only [PyData.depth]
        have : deep = 12 := rfl
        omega
      exact ⟨fun q => op_inD hu pins st σ H _ _ v u Q I rx ry ⟨p, l, d1, .lst hs d2, sh1, sh2, q⟩, fun q => op_notInD hu pins st σ H _ _ v u Q I rx ry ⟨p, l, d1, .lst hs d2, sh1, sh2, q⟩⟩
    · cases z
  have tup : ∀ (ys : List D) (a : Addr) (ws : List V), y = .ref a → SqT X.K H a ws → RDs X.K m h.length H ys ws → (match toP deep h d, allS (ys.map (toP deep h)) with | some a, some l => some (l.any fun z => PyData.eqv z a) | _, _ => none) = some b →
      (Q (.bl b) H → wpAny (model X.prog X.w) X.A (compareOp .In v u) (EP X pins σ Q) X.xe st) ∧ (Q (.bl (!b)) H → wpAny (model X.prog X.w) X.A (compareOp .NotIn v u) (EP X pins σ Q) X.xe st) := by
    intro ys a ws ey hs rs z
    subst ey
    split at z
    · rename_i p l h1 h2
      cases z
      obtain ⟨d1, sh1⟩ := dp_deep s r1 h1
      obtain ⟨d2, c2, k2⟩ := dps_deep s rs h2
      obtain ⟨as, q1⟩ := Dp.reads I p x v d1 rx
      obtain ⟨bs, q2⟩ := Dp.reads I (.tuple l) _ u (.tup hs d2) ry
      have room : X.A.units + 1 + min (PyData.depthAll l) p.depth < cLine := PyProof.Rows.room_in_shaped sh1 hu
      exact ⟨fun q => SeqAt.in_tuple_reads q2 q1 c2 (SeqAt.canLay_of_shaped sh1) room ⟨.bl _, H, I, rfl, q⟩, fun q => SeqAt.notIn_tuple_reads q2 q1 c2 (SeqAt.canLay_of_shaped sh1) room ⟨.bl _, H, I, rfl, q⟩⟩
    · cases z
  cases r2 with
  | str hb =>
    rename_i z
    cases r1 with
    | str ha =>
      rename_i w
      match w, ed with
      | [c], ed =>
        cases (show some (decide (c ∈ z)) = some b from ed)
        exact ⟨fun q => op_in_sign pins st σ H _ _ v u Q I rx ry ⟨c, _, rfl, rfl, q⟩, fun q => op_notIn_sign pins st σ H _ _ v u Q I rx ry ⟨c, _, rfl, rfl, q⟩⟩
      | [], ed => cases (show none = some b from ed)
      | _ :: _ :: _, ed => cases (show none = some b from ed)
    | _ => cases (show none = some b from ed)
  | tup h1 h2 =>
    refine tup _ _ _ rfl h1.sq h2 ?_
    cases r1 with
    | str ha =>
      rename_i w
      match w, ed with
      | [c], ed => exact ed
      | [], ed => exact ed
      | _ :: _ :: _, ed => exact ed
    | _ => exact ed
  | fls h1 h2 =>
    refine lst _ _ _ rfl h1.seq h2 ?_
    cases r1 with
    | str ha =>
      rename_i w
      match w, ed with
      | [c], ed => exact ed
      | [], ed => exact ed
      | _ :: _ :: _, ed => exact ed
    | _ => exact ed
  | fdc h1 h2 h3 h4 =>
    rename_i a ks ds o kvs
    have ed' : (if isKey d = true then some (ks.any fun k => keyEq k d) else none) = some b := by
      cases r1 with
      | str ha =>
        rename_i w
        match w, ed with
        | [c], ed => exact ed
        | [], ed => exact ed
        | _ :: _ :: _, ed => exact ed
      | _ => exact ed
    split at ed'
    · rename_i hkey
      obtain ⟨kk, rfl, rfl, hok⟩ := key_of r1 hkey
      rw [h2, any_kD] at ed'
      cases ed'
      have g0 : DGet H a (kV kk) (valV kvs kk) := .inl ⟨kvs, kk, .inr ⟨o, h1⟩, rfl, rfl⟩
      have hu1 : X.A.units + 1 < cLine := by omega
      cases (show u = Value.ref a from ry)
      exact ⟨fun q => d_in hu1 I g0 rx fun s' I' => ⟨.bl _, H, I', rfl, q⟩, fun q => d_notIn hu1 I g0 rx fun s' I' => ⟨.bl _, H, I', rfl, q⟩⟩
    · cases ed'
  | ref hk =>
    rename_i k
    have ed' : (match h[k]? with
        | some (.lst ys) => (match toP deep h d, allS (ys.map (toP deep h)) with | some a, some l => some (l.any fun z => PyData.eqv z a) | _, _ => none)
        | some (.dct kvs) => if isKey d = true then some (dGet kvs d).isSome else none
        | _ => none) = some b := by
      cases r1 with
      | str ha =>
        rename_i w
        match w, ed with
        | [c], ed => exact ed
        | [], ed => exact ed
        | _ :: _ :: _, ed => exact ed
      | _ => exact ed
    split at ed'
    · rename_i ys hy
      obtain ⟨_, ws, a1, b1⟩ := s.lst hy
      exact lst ys _ ws rfl (.of a1) b1 ed'
    · rename_i kvs hy
      obtain ⟨ws, a1, b1⟩ := s.obj k _ hy
      split at ed'
      · rename_i hkey
        cases ed'
        obtain ⟨kk, rfl, rfl, hok⟩ := key_of r1 hkey
        rw [rks_some kk b1]
        have g0 : DGet H (m k) (kV kk) (valV ws kk) := .k a1
        have hu1 : X.A.units + 1 < cLine := by omega
        cases (show u = Value.ref (m k) from ry)
        exact ⟨fun q => d_in hu1 I g0 rx fun s' I' => ⟨.bl _, H, I', rfl, q⟩, fun q => d_notIn hu1 I g0 rx fun s' I' => ⟨.bl _, H, I', rfl, q⟩⟩
      · cases ed'
    · cases ed'
  | non => cases r1 <;> first | cases (show none = some b from ed) | (rename_i w _; match w, ed with | [c], ed => cases (show none = some b from ed) | [], ed => cases (show none = some b from ed) | _ :: _ :: _, ed => cases (show none = some b from ed))
  | bl _ => cases r1 <;> first | cases (show none = some b from ed) | (rename_i w _; match w, ed with | [c], ed => cases (show none = some b from ed) | [], ed => cases (show none = some b from ed) | _ :: _ :: _, ed => cases (show none = some b from ed))
  | int _ => cases r1 <;> first | cases (show none = some b from ed) | (rename_i w _; match w, ed with | [c], ed => cases (show none = some b from ed) | [], ed => cases (show none = some b from ed) | _ :: _ :: _, ed => cases (show none = some b from ed))
  | ty _ => cases r1 <;> first | cases (show none = some b from ed) | (rename_i w _; match w, ed with | [c], ed => cases (show none = some b from ed) | [], ed => cases (show none = some b from ed) | _ :: _ :: _, ed => cases (show none = some b from ed))
  | adr _ => cases r1 <;> first | cases (show none = some b from ed) | (rename_i w _; match w, ed with | [c], ed => cases (show none = some b from ed) | [], ed => cases (show none = some b from ed) | _ :: _ :: _, ed => cases (show none = some b from ed))
  | clo _ _ _ _ => cases r1 <;> first | cases (show none = some b from ed) | (rename_i w _; match w, ed with | [c], ed => cases (show none = some b from ed) | [], ed => cases (show none = some b from ed) | _ :: _ :: _, ed => cases (show none = some b from ed))
theorem or_in (hu : X.A.units + 65 < cLine) : OpR X (compareOp .In) (rO2 X.K g cIn) := by
  rintro pins st σ H x y v u Q I rx ry ⟨m, h, d, e, s, r1, r2, q⟩
  unfold cIn at q
  split at q
  · rename_i b hb
    exact (or_in_gen hu I rx ry s r1 r2 hb).1 (q m H _ Ext.refl s (.bl b))
  · exact q.elim
theorem or_nin (hu : X.A.units + 65 < cLine) : OpR X (compareOp .NotIn) (rO2 X.K g cNin) := by
  rintro pins st σ H x y v u Q I rx ry ⟨m, h, d, e, s, r1, r2, q⟩
  unfold cNin at q
  split at q
  · rename_i b hb
    exact (or_in_gen hu I rx ry s r1 r2 hb).2 (q m H _ Ext.refl s (.bl _))
  · exact q.elim
end
end FL
set_option Elab.async false
set_option linter.all false
set_option maxRecDepth 100000
set_option maxHeartbeats 2000000
namespace FL
open PySem PySem.Spec PyProof.Rows L2
section
variable {X : Cx} {g : Gc} {W : WX} {a b e : Expr} {es : List Expr} {fa fb : FE} {fl fh : FO} {r : FA} {pos p2 : Pos}
theorem atI_eq {α : Type} (xs : List α) (i : Int) : FL.atI xs i = L2.atI xs i := by
  unfold FL.atI L2.atI
  have e : FL.ixN xs.length i = L2.ixN xs.length i := rfl
  rw [e]
  cases L2.ixN xs.length i <;> rfl
theorem rds_at {K : PySem.W.Frag} {m : Nat → Addr} {n : Nat} {H : Hp} {xs : List D} {vs : List V} {i : Int} {d : D} (r : RDs K m n H xs vs) (h : FL.atI xs i = some d) : ∃ v, L2.atI vs i = some v ∧ RD K m n H d v := by
  rw [atI_eq] at h
  unfold L2.atI at h ⊢
  rw [← r.length]
  cases e : L2.ixN xs.length i with
  | none => rw [e] at h; cases h
  | some j =>
    rw [e] at h
    exact r.get h
def rIxD : R2 := fun x y H Q => ∃ a v, x = .ref a ∧ DGet H a y (some v) ∧ Q v H
theorem ix_dict (hu : X.A.units + 1 < cLine) : IxR X rIxD := by
  intro value slice pins s σ H x y v u Q I rx ry h hs
  obtain ⟨a, z, rfl, hg, q⟩ := h
  cases rx
  exact tail_any (dict_typeIs I hg) PySem.F.slot_dict_getitem.lookup (d_getItem hu I hg ry fun w' s3 I3 rw' => ⟨z, H, I3, rw', q⟩) hs
theorem ixr_weak {r r' : R2} (h : IxR X r) (hw : ∀ x y H Q, r' x y H Q → r x y H Q) : IxR X r' := fun value slice pins s σ H x y v u Q I rx ry q hs => h value slice pins s σ H x y v u Q I rx ry (hw _ _ _ _ q) hs
theorem or_ix (hu : X.A.units + 1 < cLine) : IxR X (rO2 X.K g oIx) := by
  refine ixr_weak (ix_seq.or (ix_dict hu)) ?_
  rintro x y H Q ⟨m, h, d, e, s, r1, r2, q⟩
  cases r1 with
  | str ha => cases r2 with
    | int i =>
      simp only [oIx] at q
      split at q
      · rename_i hz
        split at q
        · rename_i c hc
          refine .inl (.inr (.inr ⟨_, i, c, rfl, rfl, by rw [sizeLine_eq, str_len]; exact hz, ?_, ?_⟩))
          · rw [← atI_eq]; exact hc
          · have hm : okS [c] = true := okS.sub ha fun z hz => by
              have e : z = c := by simpa using hz
              subst e
              rw [atI_eq] at hc
              obtain ⟨j, _, h2, _⟩ := atI_get hc
              exact List.mem_of_getElem? h2
            exact q m H _ Ext.refl s (.str hm)
        · exact q.elim
      · exact q.elim
    | _ => exact q.elim
  | tup h1 h2 => cases r2 with
    | int i =>
      simp only [oIx] at q
      split at q
      · rename_i d hd
        obtain ⟨v, hv, rv⟩ := rds_at h2 hd
        exact .inl (.inr (.inl ⟨_, _, i, v, rfl, rfl, h1.sq, hv, q m H _ Ext.refl s rv⟩))
      · exact q.elim
    | _ => exact q.elim
  | fls h1 h2 => cases r2 with
    | int i =>
      simp only [oIx] at q
      split at q
      · rename_i d hd
        obtain ⟨v, hv, rv⟩ := rds_at h2 hd
        exact .inl (.inl ⟨_, _, i, v, rfl, rfl, h1.seq, hv, q m H _ Ext.refl s rv⟩)
      · exact q.elim
    | _ => exact q.elim
  | fdc h1 h2 h3 h4 =>
    rename_i a ks ds o kvs
    simp only [oIx] at q
    split at q
    · rename_i hkey
      split at q
      · rename_i d hd
        obtain ⟨kk, rfl, rfl, hok⟩ := key_of r2 hkey
        rw [h2] at hd
        obtain ⟨v, hv, rv⟩ := fdc_get h4 hd
        refine .inr ⟨_, v, rfl, ?_, q m H _ Ext.refl s rv⟩
        rw [← hv]
        exact .inl ⟨kvs, kk, .inr ⟨o, h1⟩, rfl, rfl⟩
      · exact q.elim
    · exact q.elim
  | ref hk =>
    rename_i k
    simp only [oIx] at q
    split at q
    · rename_i d hd
      cases hx : h[k]? with
      | none => rw [hx] at hd; cases hd
      | some o =>
        cases o with
        | lst xs =>
          obtain ⟨_, vs, a1, b1⟩ := s.lst hx
          rw [hx] at hd
          cases r2 with
          | int i =>
            obtain ⟨v, hv, rv⟩ := rds_at b1 hd
            exact .inl (.inl ⟨_, _, i, v, rfl, rfl, .of a1, hv, q m H _ Ext.refl s rv⟩)
          | _ => cases hd
        | dct kvs =>
          obtain ⟨ws, a1, b1⟩ := s.obj k _ hx
          rw [hx] at hd
          have fin : isKey e = true → dGet kvs e = some d → rIx X.K (.ref (m k)) y H Q ∨ rIxD (.ref (m k)) y H Q := by
            intro hkey hd
            obtain ⟨kk, rfl, rfl, hok⟩ := key_of r2 hkey
            obtain ⟨v, hv, rv⟩ := (rks_get kk b1).1 d hd
            refine .inr ⟨_, v, rfl, ?_, q m H _ Ext.refl s rv⟩
            rw [← hv]
            exact .k a1
          cases r2 with
          | int i => exact fin rfl hd
          | str i => exact fin rfl hd
          | _ => cases hd
        | ins c fs => rw [hx] at hd; cases r2 <;> cases hd
        | fdk kvs => rw [hx] at hd; cases r2 <;> cases hd
        | nkd ks => rw [hx] at hd; cases r2 <;> cases hd
    · exact q.elim
  | _ => cases r2 <;> exact q.elim
theorem fe_ix (hu : X.A.units + 1 < cLine) (ha : PE X a (rd X.K g W fa)) (hb : PE X b (rd X.K g W fb)) (hs : PlainIx b := by exact fun _ _ => rfl) : PE X (.Subscript a b pos) (rd X.K g W (e2 oIx fa fb)) := pe_weak (pe_ix (or_ix hu) ha hb hs) rd_e2
theorem cut_rel {K : PySem.W.Frag} {m : Nat → Addr} {n : Nat} {H : Hp} {xs : List D} {vs : List V} (lo hi : Option Int) (r : RDs K m n H xs vs) : RDs K m n H (cut xs lo hi) (cutV vs lo hi) := by
  unfold cut cutV
  rw [r.length]
  exact (r.drop _).take _
theorem cut_whole {α : Type} {xs : List α} {lo hi : Option Int} (h : HT.sIx xs.length 0 lo = 0 ∧ HT.sIx xs.length xs.length hi = xs.length) : cut xs lo hi = xs := by
  unfold cut
  have e1 : FL.sIx xs.length 0 lo = 0 := h.1
  have e2 : FL.sIx xs.length xs.length hi = xs.length := h.2
  rw [e1, e2, List.drop_zero, Nat.sub_zero, List.take_length]
def rSlF (K : PySem.W.Frag) : V → Option Int → Option Int → Hp → VK → Prop := fun x lo hi H Q => ∃ a xs, x = .ref a ∧ SqT K H a xs ∧
  (HT.sIx xs.length 0 lo = 0 ∧ HT.sIx xs.length xs.length hi = xs.length → Q (.ref a) H) ∧ (¬ (HT.sIx xs.length 0 lo = 0 ∧ HT.sIx xs.length xs.length hi = xs.length) → ∀ p o, H p = none → o.dict = none → Q (.ref p) (upd H p (.frz o (.tup (cutV xs lo hi)))))
theorem sl_tupF : SlR X (rSlF X.K) := by
  intro pins s σ H x v vl vu lo hi sl Q I rx hs pl pu h
  obtain ⟨a, xs, rfl, hx, q1, q2⟩ := h
  cases rx
  obtain ⟨its, r, ht, hz⟩ := I.tuple hx
  have hlen : its.toArray.size = xs.length := by rw [List.size_toArray]; exact r.length.symm
  refine ⟨"tuple", _, PyProof.Rows.slot_tuple_getitem.lookup, ht.typeIs, ?_⟩
  by_cases hw : HT.sIx xs.length 0 lo = 0 ∧ HT.sIx xs.length xs.length hi = xs.length
  · exact getItem_tuple_whole ht hs pl pu (by rw [hlen]; exact hw) ⟨.ref a, H, I, rfl, q1 hw⟩
  · refine HT.getItem_tuple_cut ht hs pl pu (by rw [hlen]; exact hw) ?_ (by rw [hlen]; exact hz)
    rw [hlen]
    exact laid_tup I ((r.drop (HT.sIx xs.length 0 lo)).take (HT.sIx xs.length xs.length hi - HT.sIx xs.length 0 lo)) (Nat.le_trans (cutV_length xs lo hi) hz) (q2 hw)
def rSl (K : PySem.W.Frag) (g : Gc) : V → Option Int → Option Int → Hp → VK → Prop := fun v lo hi H Q => ∃ m h x, Sim K g m h H ∧ RD K m h.length H x v ∧ GoodO K g m h.length H Q (oSl x lo hi h)
theorem slr_weak {r r' : V → Option Int → Option Int → Hp → VK → Prop} (h : SlR X r) (hw : ∀ x lo hi H Q, r' x lo hi H Q → r x lo hi H Q) : SlR X r' := fun pins s σ H x v vl vu lo hi sl Q I rx hs pl pu q => h pins s σ H x v vl vu lo hi sl Q I rx hs pl pu (hw _ _ _ _ _ q)
theorem sr_all : SlR X (rSl X.K g) := by
  refine slr_weak (((slr_fz sl_list).or sl_tupF).or sl_str) ?_
  rintro v lo hi H Q ⟨m, h, d, s, r1, q⟩
  cases r1 with
  | str ha =>
    rename_i l
    simp only [oSl] at q
    split at q
    · rename_i hz
      refine .inr ⟨_, rfl, by rw [sizeLine_eq, str_len]; exact hz, ?_⟩
      have e : cutS ⟨l.toArray⟩ lo hi = ⟨(cut l lo hi).toArray⟩ := by
        unfold cutS cut
        rw [str_len] <;> rfl
      rw [e]
      refine q m H _ Ext.refl s (.str (okS.sub ha fun c hc => ?_))
      exact List.mem_of_mem_drop (List.mem_of_mem_take hc)
    · exact q.elim
  | tup h1 h2 =>
    refine .inl (.inr ⟨_, _, rfl, h1.sq, fun hw => ?_, fun _ p o hp ho => ?_⟩)
    · rw [← h2.length] at hw
      refine q m H _ Ext.refl s ?_
      rw [cut_whole hw]
      exact .tup h1 h2
    · obtain ⟨e2, s2⟩ := s.tup (o := .frz o (.tup (cutV _ lo hi))) hp
      exact q m _ _ e2 s2 (.tup (.of upd_same ho) (e2.rds (cut_rel lo hi h2)))
  | fls h1 h2 => exact .inl (.inl ⟨_, _, rfl, h1.seq, fun p hp => s.fls hp (cut_rel lo hi h2) q⟩)
  | ref hk =>
    rename_i kr
    simp only [oSl, lsOf] at q
    cases hx : h[kr]? with
    | none => simp only [hx] at q; exact q.elim
    | some ob =>
      cases ob with
      | lst xs =>
        simp only [hx] at q
        obtain ⟨_, vs, a1, b1⟩ := s.lst hx
        exact .inl (.inl ⟨_, _, rfl, .of a1, fun p hp => s.fls hp (cut_rel lo hi b1) q⟩)
      | _ => simp only [hx] at q; exact q.elim
  | _ => exact q.elim
def ro (K : PySem.W.Frag) (g : Gc) (W : WX) (f : FO) : TO := fun σ H Q => ∃ δ m h, RS K m h.length H δ σ ∧ Sim K g m h H ∧ Gd K g (fun c d H' => W c d σ H') m h.length H (fun o _ _ H' => Q o H') (f δ h)
theorem fo_none : PO X none (ro X.K g W pNo) := po_weak po_none (by
  rintro σ H Q ⟨δ, m, h, r, s, q⟩
  exact q m H Ext.refl s)
theorem fo_some (ha : PE X a (rd X.K g W fa)) : PO X (some a) (ro X.K g W (pSo fa)) := po_weak (po_some ha) (by
  rintro σ H Q ⟨δ, m, h, r, s, q⟩
  refine ⟨δ, m, h, r, s, Gd.bind q fun x h1 m1 H1 e1 s1 q1 v r1 => ?_⟩
  cases r1 with
  | int i => exact ⟨i, rfl, q1 m1 H1 Ext.refl s1⟩
  | _ => exact q1.elim)
theorem fe_sl {lo hi : Option Expr} (ha : PE X a (rd X.K g W fa)) (hl : PO X lo (ro X.K g W fl)) (hh : PO X hi (ro X.K g W fh)) : PE X (.Subscript a (.Slice lo hi none p2) pos) (rd X.K g W (eSl fa fl fh)) := pe_weak (pe_slice sr_all ha hl hh) (by
  rintro σ H Q ⟨δ, m, h, r, s, q⟩
  refine ⟨δ, m, h, r, s, Gd.bind q fun x h1 m1 H1 e1 s1 q1 v r1 => ?_⟩
  refine ⟨δ, m1, h1, e1.rs r, s1, Gd.bind q1 fun l h2 m2 H2 e2 s2 q2 => ?_⟩
  refine ⟨δ, m2, h2, (e1.trans e2).rs r, s2, Gd.bind q2 fun u h3 m3 H3 e3 s3 q3 => ?_⟩
  exact ⟨m3, h3, x, s3, (e2.trans e3).rd r1, Gd.of q3⟩)
theorem sim_seq {m : Nat → Addr} {h : VH} {H : Hp} {d : D} {v : V} {xs : List D} (s : Sim X.K g m h H) (r : RD X.K m h.length H d v) (e : seqOf d h = some xs) : ∃ p vs, v = .ref p ∧ (SqL X.K H p vs ∨ SqT X.K H p vs) ∧ RDs X.K m h.length H xs vs := by
  cases r with
  | tup h1 h2 => cases e; exact ⟨_, _, rfl, .inr h1.sq, h2⟩
  | fls h1 h2 => cases e; exact ⟨_, _, rfl, .inl h1.seq, h2⟩
  | ref hk =>
    simp only [seqOf] at e
    split at e
    · rename_i xs hx
      cases e
      obtain ⟨_, vs, a1, b1⟩ := s.lst hx
      exact ⟨_, vs, rfl, .inl (.of a1), b1⟩
    · cases e
  | _ => cases e
theorem rds1 {K : PySem.W.Frag} {m : Nat → Addr} {n : Nat} {H : Hp} {x : D} {vs : List V} (r : RDs K m n H [x] vs) : ∃ v, vs = [v] ∧ RD K m n H x v := by
  cases r with
  | cons r1 r2 => cases r2; exact ⟨_, rfl, r1⟩
theorem rds2 {K : PySem.W.Frag} {m : Nat → Addr} {n : Nat} {H : Hp} {x y : D} {vs : List V} (r : RDs K m n H [x, y] vs) : ∃ v w, vs = [v, w] ∧ RD K m n H x v ∧ RD K m n H y w := by
  cases r with
  | cons r1 r2 =>
    cases r2 with
    | cons r2 r3 => cases r3; exact ⟨_, _, rfl, r1, r2⟩
theorem cr_len : CallR X (.builtin "len") (rB X.K g bLen) := by
  have hd : CallR X (.builtin "len") (fun xs H Q => ∃ a kvs, xs = [V.ref a] ∧ Rd H a (.dK kvs) ∧ Q (.int (kvs.length : Nat)) H) := by
    intro pins s σ H xs us Q I r h
    obtain ⟨a, kvs, rfl, ha, q⟩ := h
    rw [Vals.ref1 r]
    exact d_len I ha fun t s' I' => ⟨.int (kvs.length : Nat), H, I', ⟨t, rfl⟩, q⟩
  refine callr_weak (call_len.or hd) ?_
  rintro vs H Q ⟨m, h, xs, s, rs, q⟩
  unfold bLen at q
  split at q
  · obtain ⟨v, rfl, r1⟩ := rds1 rs
    split at q
    · rename_i l hz
      cases r1 with
      | str ha => exact .inl ⟨_, l.length, rfl, ⟨by rw [sizeLine_eq, str_len]; exact hz, (str_len l).symm⟩, q m H _ Ext.refl s (.int _)⟩
    · exact q.elim
  · obtain ⟨v, rfl, r1⟩ := rds1 rs
    cases r1 with
    | tup h1 h2 => exact .inl ⟨_, _, rfl, .inr ⟨_, h1.sq, h2.length⟩, q m H _ Ext.refl s (.int _)⟩
  · obtain ⟨v, rfl, r1⟩ := rds1 rs
    cases r1 with
    | fls h1 h2 => exact .inl ⟨_, _, rfl, .inl ⟨_, h1.seq, h2.length⟩, q m H _ Ext.refl s (.int _)⟩
  · obtain ⟨v, rfl, r1⟩ := rds1 rs
    cases r1 with
    | fdc h1 h2 h3 h4 =>
      rename_i a ds o kvs
      subst h2
      refine .inr ⟨_, kvs, rfl, .inr ⟨o, h1⟩, ?_⟩
      have q' := q m H _ Ext.refl s (.int _)
      rw [List.length_map] at q'
      exact q'
  · obtain ⟨v, rfl, r1⟩ := rds1 rs
    cases r1 with
    | ref hk =>
      split at q
      · rename_i xs hx
        obtain ⟨_, ws, a1, b1⟩ := s.lst hx
        exact .inl ⟨_, _, rfl, .inl ⟨ws, .of a1, b1.length⟩, q m H _ Ext.refl s (.int _)⟩
      · rename_i xs hx
        obtain ⟨ws, a1, b1⟩ := s.obj _ _ hx
        refine .inr ⟨_, ws, rfl, .inl a1, ?_⟩
        rw [← rks_len b1]
        exact q m H _ Ext.refl s (.int _)
      · exact q.elim
  · exact q.elim
theorem cr_abs : CallR X (.builtin "abs") (rB X.K g bAbs) := callr_weak call_abs (by
  rintro vs H Q ⟨m, h, xs, s, rs, q⟩
  unfold bAbs at q
  split at q
  · obtain ⟨v, rfl, r1⟩ := rds1 rs
    cases r1
    exact ⟨_, rfl, q m H _ Ext.refl s (.int _)⟩
  · exact q.elim)
theorem cr_int : CallR X (.type "int") (rB X.K g bInt) := callr_weak call_int1 (by
  rintro vs H Q ⟨m, h, xs, s, rs, q⟩
  unfold bInt at q
  split at q
  · obtain ⟨v, rfl, r1⟩ := rds1 rs
    cases r1
    exact .inl ⟨_, rfl, q m H _ Ext.refl s (.int _)⟩
  · obtain ⟨v, rfl, r1⟩ := rds1 rs
    cases r1
    exact .inr ⟨_, rfl, q m H _ Ext.refl s (.int _)⟩
  · exact q.elim)
theorem call_tupF : CallR X (.type "tuple") (fun xs H Q => ∃ p ys, xs = [.ref p] ∧ ((SqL X.K H p ys ∧ ∀ l o, H l = none → o.dict = none → Q (.ref l) (upd H l (.frz o (.tup ys)))) ∨ (SqT X.K H p ys ∧ Q (.ref p) H))) := by
  intro pins s σ H xs us Q I r h
  obtain ⟨p, ys, rfl, h⟩ := h
  obtain ⟨u, rfl, rx⟩ := vals1 r
  cases rx
  rcases h with ⟨hq, q⟩ | ⟨hq, q⟩
  · obtain ⟨its, r', pl, hz⟩ := I.list hq
    have hlen := r'.length
    have hsl := sizeLine_eq
    refine call_tuple_list pl.isList (fun h' kp => ?_) (by simp only [List.size_toArray] <;> omega)
    exact laid_tup (s := { s with heap := h' }) (I.kept (t' := s.toks) kp) r' hz q
  · obtain ⟨its, r', pl, hz⟩ := I.tuple hq
    exact call_tuple_same pl ⟨.ref p, H, I, rfl, q⟩
theorem cr_tup : CallR X (.type "tuple") (rB X.K g bTup) := callr_weak call_tupF (by
  rintro vs H Q ⟨m, h, xs, s, rs, q⟩
  unfold bTup at q
  split at q
  · obtain ⟨v, rfl, r1⟩ := rds1 rs
    rename_i d
    cases r1 with
    | tup h1 h2 =>
      refine ⟨_, _, rfl, .inr ⟨h1.sq, q m H _ Ext.refl s (.tup h1 h2)⟩⟩
    | fls h1 h2 =>
      refine ⟨_, _, rfl, .inl ⟨h1.seq, fun l o hl ho => ?_⟩⟩
      obtain ⟨e2, s2⟩ := s.tup (o := .frz o (.tup _)) hl
      exact q m _ _ e2 s2 (.tup (.of upd_same ho) (e2.rds h2))
    | ref hk =>
      rename_i k
      simp only [seqOf] at q
      cases hx : h[k]? with
      | none => rw [hx] at q; exact q.elim
      | some o =>
        cases o with
        | lst ys =>
          rw [hx] at q
          obtain ⟨_, ws, a1, b1⟩ := s.lst hx
          refine ⟨_, _, rfl, .inl ⟨.of a1, fun l o hl ho => ?_⟩⟩
          obtain ⟨e2, s2⟩ := s.tup (o := .frz o (.tup ws)) hl
          exact q m _ _ e2 s2 (.tup (.of upd_same ho) (e2.rds b1))
        | _ => rw [hx] at q; exact q.elim
    | _ => exact q.elim
  · exact q.elim)
theorem allT_rel {K : PySem.W.Frag} {m : Nat → Addr} {n : Nat} {H : Hp} : ∀ {xs : List D} {vs : List V} {l : List (List Nat)}, RDs K m n H xs vs → allT xs = some l → vs = (l.map fun c => (⟨c.toArray⟩ : Str)).map V.str ∧ ∀ c ∈ l, okS c = true
  | [], _, l, r, e => by
    cases r
    simp only [allT, Option.some.injEq] at e
    subst e
    exact ⟨rfl, by simp⟩
  | x :: xs, _, l, r, e => by
    cases r with
    | cons r1 r2 =>
      cases r1 with
      | str hi =>
        simp only [allT] at e
        split at e
        · rename_i l' hl
          cases e
          obtain ⟨h1, h2⟩ := allT_rel r2 hl
          refine ⟨by rw [h1]; rfl, fun c hc => ?_⟩
          rcases List.mem_cons.mp hc with e | e
          · rw [e]; exact hi
          · exact h2 c e
        · cases e
      | _ => simp [allT] at e
end
end FL
set_option Elab.async false
set_option linter.all false
set_option maxRecDepth 100000
set_option maxHeartbeats 2000000
namespace FL
open PySem PySem.Spec PyProof.Rows L2
section
variable {X : Cx} {g : Gc} {W : WX} {a b e : Expr} {es : List Expr} {fa fb : FE} {r : FA} {pos p2 : Pos}
def TyOk (X : Cx) (g : Gc) (T : String) (ty : D → VH → Bool) : Prop := ∀ (pins : List (Addr × Obj)) (s : Shared) (σ : L2.St) (H : Hp) (m : Nat → Addr) (h : VH) (x : D) (v : V) (u : Value), Inv X pins σ H s → Sim X.K g m h H → RD X.K m h.length H x v → ty x h = true → RelV v u →
  s.TypeIs u T ∧ ∀ a, u = .ref a → ∃ ob, s.heap.get? a = some ob ∧ ob.dict = none
theorem ty_str : TyOk X g "str" isS := by
  intro pins s σ H m h x v u I S r e rv
  cases r with
  | str hl =>
    obtain ⟨t, rfl⟩ := rv
    exact ⟨typeIs_str s _ t, fun _ e => nomatch e⟩
  | _ => cases e
theorem ty_list : TyOk X g "list" isL := by
  intro pins s σ H m h x v u I S r e rv
  cases r with
  | ref hk =>
    rename_i k
    simp only [isL] at e
    split at e
    · rename_i xs hx
      obtain ⟨_, vs, a1, b1⟩ := S.lst hx
      exact tyV_is I rv (.inl ⟨rfl, vs, .of a1⟩)
    · cases e
  | _ => cases e
theorem ty_tup : TyOk X g "tuple" isT := by
  intro pins s σ H m h x v u I S r e rv
  cases r with
  | tup h1 h2 =>
    cases rv
    rcases h1 with ⟨o, ho, hd⟩ | ⟨o, its, n, ho, hc, hd, _⟩
    · obtain ⟨h3, h4⟩ := I.hok _ _ ho
      obtain ⟨_, its, _, o', e1, e2, _⟩ := h4
      refine ⟨⟨o', e1, e2⟩, fun b e => ?_⟩
      cases e
      exact ⟨o, h3, hd⟩
    · have h3 := I.kIn _ o ho
      refine ⟨⟨o, h3, hc⟩, fun b e => ?_⟩
      cases e
      exact ⟨o, h3, hd⟩
  | _ => cases e
theorem fe_M {T id : String} {name : Str} {ty : D → VH → Bool} {o : D → List D → VH → Option (D × VH)} {apos cpos : Pos} (pa : PlainAttrs T) (slot : Slot T name id) (hty : typeOf (.builtin id) = pure (.type "method_descriptor")) (hm : MtR X id (rM X.K g o)) (hT : TyOk X g T ty) (ho : PE X a (rd X.K g W fa))
    (ha : PA X (e :: es) (FL.ra X.K g W r)) (hbase : attributeBase a name X.env (eval a X.env) = eval a X.env := by rfl)
    (hfew : ((backTo cpos (starEach (e :: es) X.env)).all (fun x => !x.1) && (backToKw cpos (keywordEach [] X.env)).all (fun x => x.1.isSome)
      && decide ((e :: es).length + ([] : List Keyword).length + (if ([] : List Keyword).isEmpty then 0 else 1) < 30)) = true := by rfl)
    (hline : (apos.endLine == cpos.line) = true := by rfl) (hs : starEach (e :: es) X.env = (false, eval e X.env) :: starEach es X.env := by rfl) (hplain : (backTo cpos (starEach es X.env)).any (·.1) = false := by rfl) :
    PE X (.Call (.Attribute a name apos) (e :: es) [] cpos) (rd X.K g W (eM ty o fa r)) := by
  refine ⟨fun pins s σ H Q I h => ?_⟩
  obtain ⟨δ, m, vh, rs, sm, q⟩ := h
  have h1 : rd X.K g W fa σ H (fun v H1 => ∃ m1 vh1 x, RS X.K m1 vh1.length H1 δ σ ∧ Sim X.K g m1 vh1 H1 ∧ RD X.K m1 vh1.length H1 x v ∧ ty x vh1 = true ∧ GoodE X.K g (fun c d H' => W c d σ H') m1 vh1.length H1 Q ((r δ vh1).bind fun xs h => Out.of (o x xs h))) :=
    ⟨δ, m, vh, rs, sm, Gd.bind q fun x h1 m1 H1 e1 s1 q1 v r1 => by
      by_cases hx : ty x h1 = true
      · simp only [hx, if_true] at q1
        exact ⟨m1, h1, x, e1.rs rs, s1, r1, hx, q1⟩
      · simp only [hx, if_false] at q1
        exact q1.elim⟩
  refine wpAny_Call_method_late hbase hfew hline rfl (thn (ho.run pins s σ H _ I h1) fun v s1 ⟨x, H1, I1, r1, m1, vh1, d, rs1, sm1, rd1, hx, q1⟩ => ?_)
  obtain ⟨t1, t2⟩ := hT pins s1 σ H1 m1 vh1 d x v I1 sm1 rd1 hx r1
  refine ⟨T, id, pa, slot, hty, t1, t2, ?_⟩
  have h2 : FL.ra X.K g W r σ H1 (fun vs H2 => rM X.K g o x vs H2 Q) := ⟨δ, m1, vh1, rs1, sm1, Gd.bind q1 fun xs h2 m2 H2 e2 s2 q2 vs r2 => ⟨m2, h2, d, xs, s2, e2.rd rd1, r2, Gd.of q2⟩⟩
  have hA := ha.run cpos pins s1 σ H1 _ I1 h2
  rw [hs] at hA ⊢
  refine Calls.callWith_builtin (by show (false || (backTo cpos (starEach es X.env)).any (·.1)) = false; rw [hplain] <;> rfl) (Calls.evalArgs_plain ?_)
  exact thn hA fun us s2 ⟨vs, H2, I2, r2, q2⟩ => hm pins s2 σ H2 x vs v us Q I2 r1 r2 q2
theorem mr_append : MtR X "list.append" (rM X.K g mAppend) := mtr_weak (X := X) (id := "list.append") (show MtR X "list.append" rAppend from mt_append) (by
  rintro v vs H Q ⟨m, h, d, xs, s, r1, rs, q⟩
  unfold mAppend at q
  split at q
  · rename_i k y
    obtain ⟨w, rfl, rw'⟩ := rds1 rs
    cases r1 with
    | ref hk =>
      split at q
      · rename_i xs hx
        split at q
        · rename_i hz
          obtain ⟨_, ws, a1, b1⟩ := s.lst hx
          obtain ⟨e2, s2⟩ := s.write_lst hx (b1.append (.cons rw' .nil))
          exact ⟨_, ws, w, rfl, rfl, a1, by rw [sizeLine_eq, ← b1.length]; exact hz, q m _ _ e2 s2 .non⟩
        · exact q.elim
      · exact q.elim
  · exact q.elim)
section
open Builtin PySem.AutoSeq1
theorem ext_any (l : Addr) (xs : Array Value) (n : Nat) (b : Addr) (ys : Array Value) (n2 : Nat) (dd : Option Addr) (sl : Array (Option Value)) (h0 : ¬(!xs.isEmpty && Builtin.List.listTooLong (xs.size + ys.size)) = true) (h1 : xs.size ≤ sizeLine) (h2 : xs.size + ys.size ≤ sizeLine + 1) :
    Meets (Builtin.«list.extend» ⟨[.ref l, .ref b], []⟩) (fun _ R s => s.heap.get? l = some { cls := .type "list", dict := none, data := .seq xs n, slots := #[] } ∧ s.heap.get? b = some { cls := .type "list", dict := dd, data := .seq ys n2, slots := sl } ∧
      R (.ok (.ret Value.none)) { s with heap := s.heap.update l (Obj.mapSeq fun x => x ++ ys), toks := s.toks }) :=
  .of_wp fun prog w A R s h => by
    obtain ⟨hp, g, d, tk, os⟩ := s
    obtain ⟨hl, hb, h⟩ := h
    have f1 := PySem.AutoSeq1.idx_int
    have f3 := PySem.AutoSeq1.sub_list_list
    have f4 := PySem.AutoSeq1.sub_tuple_list
    have hz : (xs ++ ys).size ≤ sizeLine + 1 := by rw [Array.size_append]; exact h2
    wp_walk using (wpAny_updateSeq hl rfl (hz := h1) (_hz' := hz)), wpAny_loadPart' hl, wpAny_loadPart' hb
    exact ⟨_, rfl, h⟩
end
def rExtendL (K : PySem.W.Frag) : V → List V → Hp → VK → Prop := fun x vs H Q => ∃ l b xs zs, x = .ref l ∧ vs = [.ref b] ∧ H l = some (.lst xs) ∧ SqL K H b zs ∧ xs.length + zs.length ≤ sizeLine ∧ Q .non (upd H l (.lst (xs ++ zs)))
theorem mt_extendL : MtM X "list.extend" (rExtendL X.K) := by
  intro pins s σ H x vs v us Q I rx rv h
  obtain ⟨l, b, xs, zs, rfl, rfl, hH, hB, hz, q⟩ := h
  cases rx
  obtain ⟨u, rfl, ru⟩ := rv.one
  cases ru
  obtain ⟨z, its, n, r, hl, e⟩ := I.lstM hH
  obtain ⟨its2, r2, p2, z2⟩ := I.list hB
  obtain ⟨⟨cls2, dd2, data2, sl2⟩, e2, hc2, n2, hd2⟩ := p2.isList
  simp only at hc2 hd2
  subst hc2 hd2
  have hl2 := r2.length
  have hsz : its.toArray.size + its2.toArray.size ≤ sizeLine := by rw [List.size_toArray, List.size_toArray]; omega
  have hlong : ¬ (!its.toArray.isEmpty && Builtin.List.listTooLong (its.toArray.size + its2.toArray.size)) = true := by
    rw [notLongL hsz, Bool.and_false]
    exact Bool.false_ne_true
  refine call_meets PySem.F.slot_list_extend ⟨_, e, rfl⟩ PySem.F.entry_list_extend (PySem.F.args_list_extend_2 _ _) (ext_any l its.toArray n b its2.toArray n2 dd2 sl2 hlong (by rw [List.size_toArray]; omega) (by omega)) ⟨e, e2, ?_⟩
  refine ⟨.non, _, I.lset (its' := its ++ its2) hH e (by simp) (r.append r2) ?_, rfl, q⟩
  rw [List.length_append]
  omega
theorem mr_extend : MtR X "list.extend" (rM X.K g mExtend) := mtr_weak (X := X) (id := "list.extend") (show MtR X "list.extend" (rExtendL X.K) from mt_extendL) (by
  rintro v vs H Q ⟨m, h, d, xs, s, r1, rs, q⟩
  unfold mExtend at q
  split at q
  · rename_i k y
    obtain ⟨w, rfl, rw'⟩ := rds1 rs
    cases r1 with
    | ref hk =>
      split at q
      · rename_i xs ys hx hy
        split at q
        · rename_i hz
          obtain ⟨_, ws, a1, b1⟩ := s.lst hx
          obtain ⟨b, zs, rfl, a2, b2⟩ := ls_of s rw' hy
          obtain ⟨e2, s2⟩ := s.write_lst hx (b1.append b2)
          exact ⟨_, _, ws, zs, rfl, rfl, a1, a2, by rw [sizeLine_eq, ← b1.length, ← b2.length]; exact hz, q m _ _ e2 s2 .non⟩
        · exact q.elim
      · exact q.elim
  · exact q.elim)
theorem findE_some {l : List PyData} {a : PyData} {j : Nat} (e : findE l a = some j) : ∃ z, l[j]? = some z ∧ PyData.eqv z a = true ∧ ∀ (k : Nat) (z' : PyData), k < j → l[k]? = some z' → PyData.eqv z' a = false := by
  unfold findE at e
  obtain ⟨hj, h1, h2⟩ := List.findIdx?_eq_some_iff_getElem.mp e
  refine ⟨l[j], by simp [hj], h1, fun k z' hk hz => ?_⟩
  have := h2 k hk
  obtain ⟨hk', rfl⟩ := List.getElem?_eq_some_iff.mp hz
  simpa using this
theorem findD_some {xs : List D} {y : D} {h : VH} {j : Nat} (e : findD xs y h = some j) : ∃ p l, toP deep h y = some p ∧ allS (xs.map (toP deep h)) = some l ∧ findE l p = some j := by
  unfold findD at e
  split at e
  · rename_i p l h1 h2
    exact ⟨p, l, h1, h2, e⟩
  · cases e
theorem mr_indexT (hu : X.A.units + 65 < cLine) : MtR X "tuple.index" (rM X.K g mIndexT) := by
  rintro pins st σ H v vs u us Q I rx rs0 ⟨m, h, d, xs, s, r1, rs, q⟩
  unfold mIndexT at q
  split at q
  · rename_i ys y
    obtain ⟨w, rfl, rw'⟩ := rds1 rs
    cases r1 with
    | tup h1 h2 =>
      rename_i a ws
      split at q
      · rename_i j hj
        obtain ⟨p, l, e1, e2, e3⟩ := findD_some hj
        obtain ⟨d1, sh1⟩ := dp_deep s rw' e1
        obtain ⟨d2, c2, k2⟩ := dps_deep s h2 e2
        obtain ⟨z, hz, hz1, hz2⟩ := findE_some e3
        cases rx
        obtain ⟨uy, rfl, ry⟩ := vals1 rs0
        obtain ⟨bs, r1'⟩ := Dp.reads I p _ uy d1 ry
        obtain ⟨its, rv, ⟨⟨cls, dd, dt, sl⟩, ho, hc, n, hdt⟩, hlen⟩ := I.tuple h1.sq
        simp only at hc hdt
        subst hc hdt
        obtain ⟨as, h4⟩ := Dp.readsAll I l ws its d2 rv
        have hn : its.length = l.length := SeqAt.ReadsAll.length l its as h4
        have hmap : its.map (SeqAt.readOf st.heap) = l := SeqAt.readsAll_map l its as c2 h4
        obtain ⟨hjd, _⟩ := List.getElem?_eq_some_iff.mp hz
        have hj' : j < its.toArray.size := by rw [List.size_toArray]; omega
        have at_ : ∀ (k : Nat) (hk : k < its.toArray.size) (z' : PyData), l[k]? = some z' → SeqAt.readOf st.heap its.toArray[k] = z' := by
          intro k hk z' hz'
          have hkl : k < its.length := by simpa using hk
          rw [← hmap, List.getElem?_map, List.getElem?_eq_getElem hkl] at hz'
          have e1 : SeqAt.readOf st.heap its[k] = z' := Option.some.inj (show some (SeqAt.readOf st.heap its[k]) = some z' from hz')
          simpa using e1
        refine call_meets PySem.F.slot_tuple_index ⟨_, ho, rfl⟩ PySem.F.entry_tuple_index (PySem.F.args_tuple_index_2 _ _)
          (TI.tuple_indexAt _ its.toArray n dd sl uy (fun u => PyData.eqv (SeqAt.readOf st.heap u) p) j hj' ?_ ?_) ⟨ho, SeqAt.items_eqAt (vs := its.toArray) (show ReadsAll st.heap its.toArray.toList l as from h4) r1' c2 (SeqAt.canLay_of_shaped sh1) (PyProof.Rows.room_in_shaped sh1 hu), ⟨.int (j : Nat), H, I.tok _, ⟨_, rfl⟩, q m H _ Ext.refl s (.int _)⟩⟩
        · show PyData.eqv (SeqAt.readOf st.heap its.toArray[j]) p = true
          rw [at_ j hj' z hz]
          exact hz1
        · intro k hk hkj
          have hkd : k < l.length := by simp at hk; omega
          have hz' : l[k]? = some l[k] := List.getElem?_eq_getElem hkd
          show PyData.eqv (SeqAt.readOf st.heap its.toArray[k]) p = false
          rw [at_ k hk _ hz']
          exact hz2 k _ hkj hz'
      · exact q.elim
  · exact q.elim
theorem spl_splitC (c : Nat) : ∀ (l acc : List Nat), TL.spl [c] 0 acc l = (match splitC c l with | a :: r => (acc ++ a) :: r | [] => [acc])
  | [], acc => by simp [TL.spl, splitC]
  | x :: l, acc => by
    by_cases e : x = c
    · subst e
      rw [TL.spl_hit (by simp [TL.pre])]
      simp only [splitC, if_true]
      have ih := spl_splitC x l []
      have hl : ([x] : List Nat).length - 1 = 0 := rfl
      rw [hl, ih]
      have hne : splitC x l ≠ [] := by
        cases l with
        | nil => simp [splitC]
        | cons y l =>
          simp only [splitC]
          split
          · simp
          · split <;> simp
      cases hs : splitC x l with
      | nil => exact absurd hs hne
      | cons a r => simp
    · rw [TL.spl_miss (by simp [TL.pre, e])]
      rw [spl_splitC c l (acc ++ [x])]
      simp only [splitC, e, if_false]
      cases hs : splitC c l with
      | nil => rfl
      | cons a r => simp
theorem splitC_ne (c : Nat) (l : List Nat) : splitC c l ≠ [] := by
  cases l with
  | nil => simp [splitC]
  | cons y l =>
    simp only [splitC]
    split
    · simp
    · split <;> simp
theorem splitC_sub (c : Nat) : ∀ (l : List Nat) (p : List Nat), p ∈ splitC c l → ∀ z ∈ p, z ∈ l
  | [], p, h => by
    simp [splitC] at h
    subst h
    simp
  | x :: l, p, h => by
    simp only [splitC] at h
    split at h
    · rcases List.mem_cons.mp h with e | e
      · subst e; simp
      · exact fun z hz => List.mem_cons_of_mem _ (splitC_sub c l p e z hz)
    · split at h
      · rename_i a r hs
        rcases List.mem_cons.mp h with e | e
        · subst e
          intro z hz
          rcases List.mem_cons.mp hz with e | e
          · rw [e]; exact List.mem_cons_self
          · exact List.mem_cons_of_mem _ (splitC_sub c l a (by rw [hs]; exact List.mem_cons_self) z e)
        · exact fun z hz => List.mem_cons_of_mem _ (splitC_sub c l p (by rw [hs]; exact List.mem_cons_of_mem _ e) z hz)
      · rename_i hs
        exact absurd hs (splitC_ne c l)
theorem split_txt {c : Nat} {l : List Nat} (hc : c < 256) : Txt.split ⟨l.toArray⟩ ⟨#[c]⟩ = (splitC c l).map fun p => (⟨p.toArray⟩ : Str) := by
  refine TL.map_tl_inj ?_
  have hk : (⟨#[c]⟩ : Str).cps.all (· < 256) = true := by simpa using hc
  rw [TL.split_spl _ _ (by simp [TL.tl]) (TL.kind_ok hk)]
  show TL.spl [c] 0 [] l = _
  rw [spl_splitC, List.map_map]
  cases hs : splitC c l with
  | nil => exact absurd hs (splitC_ne c l)
  | cons a r =>
    simp only [List.nil_append, List.map_cons]
    have : (r.map (TL.tl ∘ fun p => (⟨p.toArray⟩ : Str))) = r := by
      have : (TL.tl ∘ fun p => (⟨p.toArray⟩ : Str)) = id := by funext p; rfl
      rw [this, List.map_id]
    rw [this]
    rfl
theorem mr_split : MtR X "str.split" (rM X.K g mSplit) := mtr_weak (mtr_fz mt_split) (by
  rintro v vs H Q ⟨m, h, d, xs, s, r1, rs, q⟩
  unfold mSplit at q
  split at q
  · rename_i l c
    obtain ⟨w, rfl, rw'⟩ := rds1 rs
    cases r1 with
    | str h1 =>
      cases rw' with
      | str h2 =>
        split at q
        · rename_i hz
          refine ⟨_, _, rfl, rfl, rfl, by rw [sizeLine_eq, str_len]; exact hz.2, fun p hp => ?_⟩
          have e : Txt.split ⟨l.toArray⟩ ⟨[c].toArray⟩ = (splitC c l).map fun p => (⟨p.toArray⟩ : Str) := split_txt hz.1
          rw [e]
          have rr : RDs X.K m h.length H ((splitC c l).map D.str) (((splitC c l).map fun p => (⟨p.toArray⟩ : Str)).map V.str) := by
            rw [List.map_map]
            exact RDs.strs _ fun p hp => okS.sub h1 (splitC_sub c l p hp)
          exact s.fls hp rr q
        · exact q.elim
  · exact q.elim)
theorem joinL_eq (S : List Nat) : ∀ l : List (List Nat), FL.joinL S l = TL.joinL S l
  | [] => rfl
  | [_] => rfl
  | a :: b :: r => by
    show a ++ (S ++ FL.joinL S (b :: r)) = a ++ (S ++ TL.joinL S (b :: r))
    rw [joinL_eq S (b :: r)]
theorem joinL_ok {S : List Nat} (hS : okS S = true) : ∀ {l : List (List Nat)}, (∀ c ∈ l, okS c = true) → okS (FL.joinL S l) = true
  | [], _ => rfl
  | [a], h => h a (by simp)
  | a :: b :: r, h => by
    show okS (a ++ (S ++ FL.joinL S (b :: r))) = true
    exact okS.append (h a (by simp)) (okS.append hS (joinL_ok hS fun c hc => h c (List.mem_cons_of_mem _ hc)))
theorem join_txt (S : List Nat) (l : List (List Nat)) : Txt.join ⟨S.toArray⟩ (l.map fun c => (⟨c.toArray⟩ : Str)) = ⟨(FL.joinL S l).toArray⟩ := by
  refine TL.ext_tl ?_
  rw [TL.join_eq, TL.tl_join, List.map_map, joinL_eq]
  have : (TL.tl ∘ fun p => (⟨p.toArray⟩ : Str)) = id := by funext p; rfl
  rw [this, List.map_id] <;> rfl
theorem mr_join : MtR X "str.join" (rM X.K g mJoin) := mtr_weak mt_join (by
  rintro v vs H Q ⟨m, h, d, xs, s, r1, rs, q⟩
  unfold mJoin at q
  split at q
  · rename_i S x
    obtain ⟨w, rfl, rw'⟩ := rds1 rs
    cases r1 with
    | str h1 =>
      split at q
      · rename_i ys hy
        split at q
        · rename_i l hl
          split at q
          · rename_i hz
            obtain ⟨p, ws, rfl, hs, b1⟩ := sim_seq s rw' hy
            obtain ⟨e1, e2⟩ := allT_rel b1 hl
            subst e1
            refine ⟨_, p, l.map fun c => (⟨c.toArray⟩ : Str), rfl, rfl, hs, ?_, ?_⟩
            · rw [List.map_map, List.length_map, str_len]
              have : (Str.length ∘ fun c : List Nat => (⟨c.toArray⟩ : Str)) = List.length := by funext c; exact str_len c
              rw [this]
              exact hz
            · rw [join_txt]
              exact q m H _ Ext.refl s (.str (joinL_ok h1 e2))
          · exact q.elim
        · exact q.elim
      · exact q.elim
  · exact q.elim)
end
end FL
set_option Elab.async false
set_option linter.all false
set_option maxRecDepth 100000
set_option maxHeartbeats 2000000
namespace FL
open PySem PySem.Spec PyProof.Rows L2
section
variable {K : PySem.W.Frag} {g : Gc} {W : WX} {m m1 : Nat → Addr} {n n1 : Nat} {H H1 : Hp} {E : Ends}
theorem GoodS.thn {α : Type} {P : α → (Nat → Addr) → Nat → Hp → Prop} {δ : DS} {σ : L2.St} {o : Out α} {k : α → VH → OutS} (r : RS K m n H δ σ) (q : GoodS K g W m n H E (thenS δ o k))
    (hk : ∀ x h1 m1 H1, Ext m n H m1 h1.length H1 → Sim K g m1 h1 H1 → GoodS K g W m1 h1.length H1 E (k x h1) → P x m1 h1.length H1) : Gd K g (fun c d H' => W c d σ H') m n H P o := by
  cases o with
  | ok x h =>
    have q : GoodS K g W m n H E (k x h) := q
    exact fun m' H' e s => hk _ _ _ _ e s (q.from e)
  | err c p h =>
    have q : GoodS K g W m n H E (.err c p δ h) := q
    exact fun m' H' cls dd e s rx => q m' H' σ cls dd e s (e.rs r) rx
  | bad => exact q
theorem GoodS.next {o : OutS} {k : DS → VH → OutS} {t : L2.St → Hp → Prop} (q : GoodS K g W m n H E (nextS o k)) (hk : ∀ δ h m1 H1 σ, Ext m n H m1 h.length H1 → Sim K g m1 h H1 → RS K m1 h.length H1 δ σ → GoodS K g W m1 h.length H1 E (k δ h) → t σ H1) :
    GoodS K g W m n H { E with nx := t } o := by
  cases o with
  | nx δ h =>
    have q : GoodS K g W m n H E (k δ h) := q
    exact fun m' H' σ e s r => hk _ _ _ _ _ e s r (q.from e)
  | ret d h => exact q
  | brk d h => exact q
  | ct d h => exact q
  | err c p d h => exact q
  | bad => exact q
theorem GoodS.loop {o : OutS} {k : DS → VH → OutS} {N : L2.St → Hp → Prop} (q : GoodS K g W m n H E (loopS o k)) (hk : ∀ δ h m1 H1 σ, Ext m n H m1 h.length H1 → Sim K g m1 h H1 → RS K m1 h.length H1 δ σ → GoodS K g W m1 h.length H1 E (k δ h) → N σ H1) :
    GoodS K g W m n H { E with nx := N, ct := N, bk := E.nx } o := by
  cases o with
  | nx δ h =>
    have q : GoodS K g W m n H E (k δ h) := q
    exact fun m' H' σ e s r => hk _ _ _ _ _ e s r (q.from e)
  | ct δ h =>
    have q : GoodS K g W m n H E (k δ h) := q
    exact fun m' H' σ e s r => hk _ _ _ _ _ e s r (q.from e)
  | ret d h => exact q
  | brk d h => exact q
  | err c p d h => exact q
  | bad => exact q
end
section
variable {X : Cx} {g : Gc} {W : WX} {a b e : Expr} {es : List Expr} {fa fb fc : FE} {r : FA} {pos p2 : Pos} {st : Stmt} {rest body : List Stmt} {sa sb : FSt} {tc : FT}
theorem fss_nil : PSs X [] (rs X.K g W sNil) := pss_weak pss_nil (by
  rintro D σ H ⟨δ, m, h, r, s, q⟩
  exact q m H σ Ext.refl s r)
theorem fss_cons (h1 : PS X st (rs X.K g W sa)) (h2 : PSs X rest (rs X.K g W sb)) : PSs X (st :: rest) (rs X.K g W (sSeq sa sb)) := pss_weak (pss_cons h1 h2) (by
  rintro D σ H ⟨δ, m, h, r, s, q⟩
  exact ⟨δ, m, h, r, s, GoodS.next q fun δ1 h1 m1 H1 σ1 e1 s1 r1 q1 => ⟨δ1, m1, h1, r1, s1, q1⟩⟩)
theorem fss_one (h1 : PS X st (rs X.K g W sa)) : PSs X [st] (rs X.K g W sa) := pss_one h1
theorem fs_ex (ha : PE X a (rd X.K g W fa)) (hs : swapsWith a none pos.line X.env = pure false := by rfl) : PS X (.Expr a pos) (rs X.K g W (sEx fa)) := ps_weak (ps_expr ha hs) (by
  rintro D σ H ⟨δ, m, h, r, s, q⟩
  exact ⟨δ, m, h, r, s, GoodS.thn r q fun x h1 m1 H1 e1 s1 q1 v r1 => q1 m1 H1 σ Ext.refl s1 (e1.rs r)⟩)
theorem fs_ret (ha : PE X a (rd X.K g W fa)) : PS X (.Return (some a) pos) (rs X.K g W (sRet fa)) := ps_weak (ps_ret ha) (by
  rintro D σ H ⟨δ, m, h, r, s, q⟩
  exact ⟨δ, m, h, r, s, GoodS.thn r q fun x h1 m1 H1 e1 s1 q1 v r1 => q1 m1 H1 v Ext.refl s1 r1⟩)
theorem fs_if {c : Expr} {x y : List Stmt} (hc : PT X c (rt X.K g W tc)) (ha : PSs X x (rs X.K g W sa)) (hb : PSs X y (rs X.K g W sb)) : PS X (.If c x y pos) (rs X.K g W (sIf tc sa sb)) := ps_weak (ps_if hc ha hb) (by
  rintro D σ H ⟨δ, m, h, r, s, q⟩
  refine ⟨δ, m, h, r, s, GoodS.thn r q fun c h1 m1 H1 e1 s1 q1 => ?_⟩
  cases c with
  | true => exact ⟨δ, m1, h1, e1.rs r, s1, q1⟩
  | false => exact ⟨δ, m1, h1, e1.rs r, s1, q1⟩)
def rg (K : PySem.W.Frag) (g : Gc) (own : List Nat) (f : FG) : TG := fun v σ H Q => ∃ δ m h d, RS K m h.length H δ σ ∧ Sim K g m h H ∧ RD K m h.length H d v ∧
  (match f d δ h with
    | some (δ', h') => ∀ m' H' σ', Ext m h.length H m' h'.length H' → Sim K g m' h' H' → RS K m' h'.length H' δ' σ' → L2.wipe σ' own = L2.wipe σ own → Q σ' H'
    | none => False)
def rgs (K : PySem.W.Frag) (g : Gc) (own : List Nat) (f : FGs) : TGs := fun v σ H Q => ∃ δ m h d, RS K m h.length H δ σ ∧ Sim K g m h H ∧ RDs K m h.length H d v ∧
  (match f d δ h with
    | some (δ', h') => ∀ m' H' σ', Ext m h.length H m' h'.length H' → Sim K g m' h' H' → RS K m' h'.length H' δ' σ' → L2.wipe σ' own = L2.wipe σ own → Q σ' H'
    | none => False)
theorem wipe_get {σ : L2.St} (j : Nat) : ∀ vs : List Nat, (L2.wipe σ vs)[j]? = if j ∈ vs then (if j < σ.length then some none else none) else σ[j]?
  | [] => by simp [L2.wipe]
  | v :: vs => by
    show ((L2.wipe σ vs).set v none)[j]? = _
    by_cases hj : v = j
    · subst hj
      rw [if_pos List.mem_cons_self]
      by_cases hl : v < σ.length
      · rw [if_pos hl, List.getElem?_set_self (by rw [wipe_length]; exact hl)]
      · rw [if_neg hl, List.getElem?_eq_none (by rw [List.length_set, wipe_length]; omega)]
    · rw [List.getElem?_set_ne hj, wipe_get j vs]
      by_cases hm : j ∈ vs
      · rw [if_pos hm, if_pos (List.mem_cons_of_mem _ hm)]
      · rw [if_neg hm, if_neg (fun z => (List.mem_cons.mp z).elim (fun e => hj e.symm) hm)]
theorem wipe_set {σ : L2.St} {i : Nat} {x : Option V} {own : List Nat} (h : i ∈ own) : L2.wipe (σ.set i x) own = L2.wipe σ own := by
  refine List.ext_getElem? fun j => ?_
  rw [wipe_get, wipe_get, List.length_set]
  by_cases hj : j ∈ own
  · rw [if_pos hj, if_pos hj]
  · rw [if_neg hj, if_neg hj, List.getElem?_set_ne (fun e => hj (by rw [← e]; exact h))]
theorem fg_name {own : List Nat} {i : Nat} {x : Str} (hN : X.N.Nodup) (hi : X.N[i]? = some x) (hx : Loc X.env.scope x) (ho : i ∈ own := by decide) (hf : X.fn x = true ∨ X.env.scope.names.lookup x = some .local := by first | exact .inl rfl | exact .inr rfl | assumption) : PG X (.Name x pos) (rg X.K g own (gN i)) :=
  pg_weak (pg_name hN hi hx hf) (by
    rintro v σ H Q ⟨δ, m, h, d, r, s, rv, q⟩
    exact q m H _ Ext.refl s (r.set i rv) (wipe_set ho))
theorem fgs_nil {own : List Nat} : PGs X [] (rgs X.K g own FL.gNil) := pgs_weak pgs_nil (by
  rintro v σ H Q ⟨δ, m, h, d, r, s, rv, q⟩
  unfold FL.gNil at q
  cases rv with
  | nil => exact ⟨rfl, q m H σ Ext.refl s r rfl⟩
  | cons _ _ => exact q.elim)
theorem fgs_cons {own : List Nat} {f : FG} {fs : FGs} (h1 : PG X e (rg X.K g own f)) (h2 : PGs X es (rgs X.K g own fs)) (hs : (assignEach (e :: es) X.env).map (·.2) = assign e X.env :: (assignEach es X.env).map (·.2) := by rfl) : PGs X (e :: es) (rgs X.K g own (FL.gCons f fs)) :=
  pgs_weak (pgs_cons h1 h2 hs) (by
    rintro v σ H Q ⟨δ, m, h, d, r, s, rv, q⟩
    cases rv with
    | nil => exact q.elim
    | cons r1 r2 =>
      rename_i x v xs vs
      refine ⟨v, vs, rfl, δ, m, h, x, r, s, r1, ?_⟩
      have q : (match (match f x δ h with | some (δ, h) => fs xs δ h | none => none) with
        | some (δ', h') => ∀ m' H' σ', Ext m h.length H m' h'.length H' → Sim X.K g m' h' H' → RS X.K m' h'.length H' δ' σ' → L2.wipe σ' own = L2.wipe σ own → Q σ' H'
        | none => False) := q
      cases ef : f x δ h with
      | none => rw [ef] at q; exact q.elim
      | some p =>
        obtain ⟨δ1, h1⟩ := p
        rw [ef] at q
        intro m1 H1 σ1 e1 s1 r3 w1
        refine ⟨δ1, m1, h1, xs, r3, s1, e1.rds r2, ?_⟩
        cases eg : fs xs δ1 h1 with
        | none => simp only [eg] at q
        | some p2 =>
          obtain ⟨δ2, h2⟩ := p2
          simp only [eg] at q
          exact fun m2 H2 σ2 e2 s2 r4 w2 => q m2 H2 σ2 (e1.trans e2) s2 r4 (w2.trans w1))
theorem pg_or {tg : Expr} {t u : TG} (h1 : PG X tg t) (h2 : PG X tg u) : PG X tg (fun v σ H Q => t v σ H Q ∨ u v σ H Q) := ⟨fun pins s σ H v w Q I r q => by
  rcases q with q | q
  · exact h1.run pins s σ H v w Q I r q
  · exact h2.run pins s σ H v w Q I r q⟩
theorem fg_tup {own : List Nat} {k n : Nat} {fs : FGs} (hc : X.calm = true) (h : PGs X es (rgs X.K g own fs)) (hn : (assignEach es X.env).length = n := by rfl) (hst : (assignEach es X.env).findIdx? (·.1) = none := by rfl) : PG X (.Tuple es k pos) (rg X.K g own (FL.gT n fs)) :=
  pg_weak (pg_or (pg_tup hc h hn hst) (pg_lst hc h hn hst)) (by
    rintro v σ H Q ⟨δ, m, h, d, r, s, rv, q⟩
    unfold FL.gT at q
    cases es : seqOf d h with
    | none => rw [es] at q; exact q.elim
    | some xs =>
      rw [es] at q
      by_cases hl : xs.length = n
      · simp only [hl, if_true] at q
        cases rv with
        | tup h1 h2 =>
          cases es
          exact .inl ⟨_, _, rfl, h1.sq, by rw [← h2.length]; exact hl, δ, m, h, _, r, s, h2, q⟩
        | fls h1 h2 =>
          cases es
          exact .inr ⟨_, _, rfl, h1.seq, by rw [← h2.length]; exact hl, δ, m, h, _, r, s, h2, q⟩
        | ref hk =>
          simp only [seqOf] at es
          split at es
          · rename_i ys hx
            cases es
            obtain ⟨_, vs, a1, b1⟩ := s.lst hx
            exact .inr ⟨_, vs, rfl, .of a1, by rw [← b1.length]; exact hl, δ, m, h, _, r, s, b1, q⟩
          · cases es
        | _ => cases es
      · simp only [hl, if_false] at q)
theorem GoodS.tgt {own : List Nat} {f : FG} {m : Nat → Addr} {H : Hp} {δ : DS} {h : VH} {d : D} {v : V} {σ : L2.St} {E : Ends} {k : DS → VH → OutS} {Q : L2.St → Hp → Prop} (r : RS X.K m h.length H δ σ) (s : Sim X.K g m h H) (rv : RD X.K m h.length H d v) (q : GoodS X.K g W m h.length H E (tgS (f d δ h) k))
    (hk : ∀ δ1 h1 m1 H1 σ1, Ext m h.length H m1 h1.length H1 → Sim X.K g m1 h1 H1 → RS X.K m1 h1.length H1 δ1 σ1 → GoodS X.K g W m1 h1.length H1 E (k δ1 h1) → Q σ1 H1) : rg X.K g own f v σ H Q := by
  refine ⟨δ, m, h, d, r, s, rv, ?_⟩
  cases ef : f d δ h with
  | none => rw [ef] at q; exact q
  | some p =>
    obtain ⟨δ1, h1⟩ := p
    rw [ef] at q
    have q : GoodS X.K g W m h.length H E (k δ1 h1) := q
    exact fun m1 H1 σ1 e1 s1 r1 _ => hk _ _ _ _ _ e1 s1 r1 (q.from e1)
theorem fs_as {own : List Nat} {tg : Expr} {f : FG} (ha : PE X a (rd X.K g W fa)) (hg : PG X tg (rg X.K g own f)) (hs : swapsWithSole [tg] a pos.line X.env = pure false := by rfl) (hw : swappedStores [tg] a X.env = pure none := by rfl)
    (h1 : (assignEach [tg] X.env).map (·.2) = [assign tg X.env] := by rfl) : PS X (.Assign [tg] a pos) (rs X.K g W (sAs fa f)) := ps_weak (ps_asg ha hg hs hw h1) (by
  rintro D σ H ⟨δ, m, h, r, s, q⟩
  refine ⟨δ, m, h, r, s, GoodS.thn r q fun x h1 m1 H1 e1 s1 q1 v r1 => ?_⟩
  exact GoodS.tgt (e1.rs r) s1 r1 q1 fun δ2 h2 m2 H2 σ2 e2 s2 r2 q2 => q2 m2 H2 σ2 Ext.refl s2 r2)
theorem rs_set {i : Nat} {te : TE} (hw : ∀ σ H Q, rd X.K g W fa σ H Q → te σ H Q) : ∀ D σ H, rs X.K g W (sAs fa (gN i)) D σ H → tAsg te (gName i) D σ H := by
  rintro D σ H ⟨δ, m, h, r, s, q⟩
  refine hw σ H _ ⟨δ, m, h, r, s, GoodS.thn r q fun x h1 m1 H1 e1 s1 q1 v r1 => ?_⟩
  exact q1 m1 H1 _ Ext.refl s1 ((e1.rs r).set i r1)
theorem fs_set {i : Nat} {x : Str} {pos' : Pos} (hN : X.N.Nodup) (hi : X.N[i]? = some x) (hx : Loc X.env.scope x) (ha : PE X a (rd X.K g W fa)) (hs : swapsWith a (some (.Name x pos')) pos.line X.env = pure false := by rfl)
    (hf : X.fn x = true ∨ X.env.scope.names.lookup x = some .local := by first | exact .inl rfl | exact .inr rfl | assumption) : PS X (.Assign [.Name x pos'] a pos) (rs X.K g W (sAs fa (gN i))) := ps_weak (ps_set hN hi hx ha hs hf) (rs_set fun _ _ _ q => q)
theorem fs_par {i j : Nat} {x y : Str} {px py pt : Pos} {kt k2 pt2} (hc : X.calm = true) (hN : X.N.Nodup) (hi : X.N[i]? = some x) (hj : X.N[j]? = some y) (hij : i ≠ j) (hx : X.env.scope.names.lookup x = some .local) (hy : X.env.scope.names.lookup y = some .local) (ha : PA X [a, b] (FL.ra X.K g W r))
    (hw : swappedStores [.Tuple [.Name x px, .Name y py] kt pt] (.Tuple [a, b] k2 pt2) X.env = pure (some [x, y])) (hs : swapsWithSole [.Tuple [.Name x px, .Name y py] kt pt] (.Tuple [a, b] k2 pt2) pos.line X.env = pure false := by rfl) :
    PS X (.Assign [.Tuple [.Name x px, .Name y py] kt pt] (.Tuple [a, b] k2 pt2) pos) (rs X.K g W (sPar i j r)) := ps_weak (ps_par hc hN hi hj hij hx hy ha hw hs) (by
  rintro D σ H ⟨δ, m, h, r, s, q⟩
  refine ⟨δ, m, h, r, s, GoodS.thn r q fun xs h1 m1 H1 e1 s1 q1 v r1 => ?_⟩
  split at q1
  · obtain ⟨v1, v2, rfl, r2, r3⟩ := rds2 r1
    exact ⟨v1, v2, rfl, q1 m1 H1 _ Ext.refl s1 (((e1.rs r).set i r2).set j r3)⟩
  · exact q1.elim)
def rP (K : PySem.W.Frag) (g : Gc) (f : D → D → D → VH → Option VH) : TSet := fun o i v H Q => ∃ m h x y z, Sim K g m h H ∧ RD K m h.length H x o ∧ RD K m h.length H y i ∧ RD K m h.length H z v ∧
  (match f x y z h with
    | some h' => ∀ m' H', Ext m h.length H m' h'.length H' → Sim K g m' h' H' → Q H'
    | none => False)
theorem fs_sub {o i : Expr} {fo fi : FE} {f : D → D → D → VH → Option VH} {ps : Pos} (hp : PSet X (rP X.K g f)) (ha : PE X a (rd X.K g W fa)) (ho : PE X o (rd X.K g W fo)) (hi : PE X i (rd X.K g W fi))
    (hsub : ∀ v, assign (.Subscript o i ps) X.env v = (do
      let ov ← holding [v] (eval o X.env)
      let iv ← holding [v, ov] (eval i X.env)
      standAt ps
      holding [v, ov, iv] (setItem ov iv v)
      release [v, ov, iv] []) := by intro _; rfl)
    (hs : swapsWithSole [.Subscript o i ps] a pos.line X.env = pure false := by rfl) (hw : swappedStores [.Subscript o i ps] a X.env = pure none := by rfl) (h1 : (assignEach [.Subscript o i ps] X.env).map (·.2) = [assign (.Subscript o i ps) X.env] := by rfl) :
    PS X (.Assign [.Subscript o i ps] a pos) (rs X.K g W (FL.sSub f fa fo fi)) := ps_weak (ps_asg ha (pg_sub ho hi hp hsub) hs hw h1) (by
  rintro D σ H ⟨δ, m, h, r, s, q⟩
  refine ⟨δ, m, h, r, s, GoodS.thn r q fun x h1 m1 H1 e1 s1 q1 v r1 => ?_⟩
  refine ⟨δ, m1, h1, e1.rs r, s1, GoodS.thn (e1.rs r) q1 fun y h2 m2 H2 e2 s2 q2 u r2 => ?_⟩
  refine ⟨δ, m2, h2, (e1.trans e2).rs r, s2, GoodS.thn ((e1.trans e2).rs r) q2 fun z h3 m3 H3 e3 s3 q3 w r3 => ?_⟩
  refine ⟨m3, h3, y, z, x, s3, e3.rd r2, r3, (e2.trans e3).rd r1, ?_⟩
  cases ef : f y z x h3 with
  | none => simp only [ef] at q3; exact q3
  | some h4 =>
    simp only [ef] at q3
    exact fun m4 H4 e4 s4 => q3 m4 H4 σ e4 s4 ((e1.trans (e2.trans (e3.trans e4))).rs r))
theorem ps_setL : PSet X (rP X.K g setL) := by
  rintro pins st σ H o i v ov iv u Q I ro ri rv ⟨m, h, x, y, z, s, r1, r2, r3, q⟩
  unfold setL at q
  split at q
  · rename_i h' hf
    split at hf
    · rename_i k i0
      cases r1 with
      | ref hk =>
        cases r2
        split at hf
        · rename_i xs hx
          obtain ⟨_, vs, a1, b1⟩ := s.lst hx
          split at hf
          · rename_i j hj
            cases hf
            obtain ⟨e2, s2⟩ := s.write_lst hx (b1.set j r3)
            exact set_list pins st σ H _ _ v ov iv u Q I ro ri rv ⟨_, vs, i0, j, rfl, rfl, a1, by rw [← b1.length]; exact hj, q m _ e2 s2⟩
          · cases hf
        · cases hf
    · cases hf
  · exact q.elim
theorem dict_new_ne {H : Hp} {a c : Addr} {vs : List (Key × V)} {q : Str} (h : H a = some (.dK vs)) : H a ≠ some (LamX.CodeO c q) := fun z => by
  rw [h] at z
  have z' := Option.some.inj z
  unfold LamX.CodeO at z'
  cases z'
theorem Sim.write_dct {m : Nat → Addr} {h : VH} {H : Hp} (s : Sim X.K g m h H) {i : Nat} {kvs kvs' : List (D × D)} {vs' : List (Key × V)} (e : h[i]? = some (.dct kvs)) (r : RKs X.K m h.length H kvs' vs') :
    Ext m h.length H m (h.set i (.dct kvs')).length (upd H (m i) (.dK vs')) ∧ Sim X.K g m (h.set i (.dct kvs')) (upd H (m i) (.dK vs')) := by
  obtain ⟨ws, hw, _⟩ := s.obj i _ e
  exact s.write (List.getElem?_eq_some_iff.mp e).1 (fun im => ⟨vs', upd_same, r.mono (Nat.le_refl _) (fun _ _ => rfl) im⟩) (fun q => dict_new_ne hw) (by rw [hw]; trivial)
theorem pi_or {tg it : Expr} {t u : TI} (h1 : PI X tg it t) (h2 : PI X tg it u) : PI X tg it (fun σ H R => t σ H R ∨ u σ H R) := ⟨fun pins s σ H R I q => by
  rcases q with q | q
  · exact h1.run pins s σ H R I q
  · exact h2.run pins s σ H R I q⟩
end
end FL
set_option Elab.async false
set_option linter.all false
set_option maxRecDepth 100000
set_option maxHeartbeats 2000000
namespace FL
open PySem PySem.Spec PyProof.Rows L2
structure TreeIt (J : It) (C : Hp → Prop) (vs : List V) : Prop where
  go : ∀ i H x, C H → vs[i]? = some x → J.go i H
  yld : ∀ i H x H' y, C H → J.yld i H x H' → vs[i]? = some y → H' = H ∧ x = y
  stop : ∀ i H, C H → vs.length ≤ i → J.stop i H
  st : ∀ H H', Imm H H' → C H → C H'
theorem tree_tup {K : PySem.W.Frag} {a : Addr} {vs : List V} : TreeIt (Itt K a) (fun H => Plt K H a vs) vs where
  go := fun i H x c e => ⟨vs, x, c.sq, e⟩
  yld := fun i H x H' y c h e => ⟨h.1, Option.some.inj ((h.2 vs c.sq).symm.trans e)⟩
  stop := fun i H c e => ⟨vs, c.sq, e⟩
  st := fun _ _ i c => i.plt c
theorem tree_fls {K : PySem.W.Frag} {a : Addr} {vs : List V} : TreeIt (Itl K a) (fun H => Frz K H a vs) vs where
  go := fun i H x c e => ⟨vs, x, c.seq, e⟩
  yld := fun i H x H' y c h e => ⟨h.1, Option.some.inj ((h.2 vs c.seq).symm.trans e)⟩
  stop := fun i H c e => ⟨vs, c.seq, e⟩
  st := fun _ _ i c => i.fz c
theorem tree_keys {d : Addr} {o : Obj} {kvs : List (Key × V)} : TreeIt (Itk d o kvs) (fun H => H d = some (.frz o (.dK kvs))) (kvs.map fun p => kV p.1) where
  go := fun i H x c e => ⟨c, by
    have := (List.getElem?_eq_some_iff.mp e).1
    simpa using this⟩
  yld := fun i H x H' y c h e => by
    obtain ⟨h1, k, w, h2, h3⟩ := h
    refine ⟨h1, ?_⟩
    rw [List.getElem?_map, h2] at e
    rw [h3]
    exact Option.some.inj e
  stop := fun i H c e => ⟨c, by simpa using e⟩
  st := fun _ _ i c => i.frz _ _ _ c
theorem keys_rel {K : PySem.W.Frag} {m : Nat → Addr} {n : Nat} {H : Hp} : ∀ {kvs : List (Key × V)}, (∀ p ∈ kvs, okK p.1 = true) → RDs K m n H (kvs.map fun p => kD p.1) (kvs.map fun p => kV p.1)
  | [], _ => .nil
  | (k, v) :: kvs, h => .cons (by
    have h0 := h _ List.mem_cons_self
    cases k with
    | inl i => exact .int i
    | inr x =>
      show RD K m n H (.str x.cps.toList) (.str x)
      have : x = ⟨x.cps.toList.toArray⟩ := by cases x; rfl
      conv => rhs; rw [this]
      exact .str h0) (keys_rel fun p hp => h p (List.mem_cons_of_mem _ hp))
theorem tree_str {l : List Nat} : TreeIt (Its ⟨l.toArray⟩) (fun _ => True) (l.map fun c => V.str ⟨#[c]⟩) where
  go := fun i H x c e => by
    have : i < (l.map fun c => V.str ⟨#[c]⟩).length := (List.getElem?_eq_some_iff.mp e).1
    simpa [Its] using this
  yld := fun i H x H' y c h e => by
    obtain ⟨h1, c', h2, h3⟩ := h
    refine ⟨h1, ?_⟩
    have e2 : l[i]? = some c' := by simpa using h2
    rw [List.getElem?_map, e2] at e
    rw [h3]
    exact Option.some.inj e
  stop := fun i H c e => by simpa [Its] using e
  st := fun _ _ _ c => c
theorem rng_rel {K : PySem.W.Frag} {m : Nat → Addr} {n : Nat} {H : Hp} (lo : Int) (k : Nat) : RDs K m n H ((List.range k).map fun (j : Nat) => D.int (lo + j)) ((List.range k).map fun (j : Nat) => V.int (lo + j)) := by
  have : ∀ l : List Nat, RDs K m n H (l.map fun (j : Nat) => D.int (lo + j)) (l.map fun (j : Nat) => V.int (lo + j)) := by
    intro l
    induction l with
    | nil => exact .nil
    | cons x l ih => exact .cons (.int _) ih
  exact this _
theorem tree_rng {lo : Int} {n : Nat} : TreeIt (Itr lo n) (fun _ => True) ((List.range n).map fun (j : Nat) => V.int (lo + j)) where
  go := fun i H x c e => by
    have : i < ((List.range n).map fun (j : Nat) => V.int (lo + j)).length := (List.getElem?_eq_some_iff.mp e).1
    simpa [Itr] using this
  yld := fun i H x H' y c h e => by
    obtain ⟨h1, h2⟩ := h
    refine ⟨h1, ?_⟩
    obtain ⟨hl, he⟩ := List.getElem?_eq_some_iff.mp e
    rw [h2, ← he]
    simp
  stop := fun i H c e => by simpa [Itr] using e
  st := fun _ _ _ c => c
theorem sign_rel {K : PySem.W.Frag} {m : Nat → Addr} {n : Nat} {H : Hp} : ∀ {l : List Nat}, okS l = true → RDs K m n H (l.map fun c => D.str [c]) (l.map fun c => V.str ⟨#[c]⟩)
  | [], _ => .nil
  | c :: l, h => .cons (.str (okS.sub h fun z hz => List.mem_cons.mpr (.inl (List.mem_singleton.mp hz)))) (sign_rel (okS.sub h fun z hz => List.mem_cons_of_mem _ hz))
section
variable {X : Cx} {g : Gc} {W : WX} {sb : FSt} {f : FG} {own : List Nat} {D : Ends}
abbrev ForW (K : PySem.W.Frag) (g : Gc) (W : WX) (own : List Nat) (f : FG) (sb : FSt) (D : Ends) (J : It) (σ : L2.St) (H : Hp) : Prop :=
  ∃ W' : Nat → Nat → L2.St → Hp → Prop, (∃ m, W' 0 m σ H) ∧ ∀ i m σ H, W' i m σ H →
    (J.stop i H ∧ D.nx σ H) ∨ (J.go i H ∧ ∃ N : L2.St → Hp → Prop, (∀ σ' H', N σ' H' → ∃ m', m' < m ∧ W' (i + 1) m' σ' H') ∧ ∀ x H', J.yld i H x H' → rg K g own f x σ H' fun σ2 H2 => rs K g W sb { D with nx := N, ct := N, bk := D.nx } σ2 H2)
theorem for_tree {J : It} {C : Hp → Prop} {vs : List V} {xs : List FL.D} {m : Nat → Addr} {h : VH} {H : Hp} {δ : DS} {σ : L2.St} (T : TreeIt J C vs) (c0 : C H) (r : RS X.K m h.length H δ σ) (s : Sim X.K g m h H) (rx : RDs X.K m h.length H xs vs)
    (q : GoodS X.K g W m h.length H D (forT f sb xs δ h)) : ForW X.K g W own f sb D J σ H := by
  refine ⟨fun i k σ H => ∃ δ m h rest, C H ∧ RS X.K m h.length H δ σ ∧ Sim X.K g m h H ∧ RDs X.K m h.length H rest (vs.drop i) ∧ k = rest.length ∧ GoodS X.K g W m h.length H D (forT f sb rest δ h), ⟨_, δ, m, h, xs, c0, r, s, rx, rfl, q⟩, ?_⟩
  rintro i k σ H ⟨δ, m, h, rest, c, r, s, rx, rfl, q⟩
  cases rest with
  | nil =>
    have hl := rx.length
    rw [List.length_drop] at hl
    exact .inl ⟨T.stop i H c (by simp at hl; omega), q m H σ Ext.refl s r⟩
  | cons x rest =>
    have hi : ∃ v, vs[i]? = some v ∧ RD X.K m h.length H x v ∧ RDs X.K m h.length H rest (vs.drop (i + 1)) := by
      have hl := rx.length
      rw [List.length_drop] at hl
      have hlt : i < vs.length := by simp at hl; omega
      rw [List.drop_eq_getElem_cons hlt] at rx
      cases rx with
      | cons r1 r2 => exact ⟨vs[i], by simp [hlt], r1, r2⟩
    obtain ⟨v, hv, r1, r2⟩ := hi
    refine .inr ⟨T.go i H v c hv, _, fun σ' H' z => ⟨rest.length, by simp, z⟩, fun y H' hy => ?_⟩
    obtain ⟨e1, e2⟩ := T.yld i H y H' v c hy hv
    subst e1
    subst e2
    refine GoodS.tgt r s r1 q fun δ1 h1 m1 H1 σ1 e1 s1 rr1 q1 => ?_
    refine ⟨δ1, m1, h1, rr1, s1, GoodS.loop q1 fun δ2 h2 m2 H2 σ2 e2 s2 rr2 q2 => ?_⟩
    exact ⟨δ2, m2, h2, rest, T.st _ _ (e1.trans e2).im c, rr2, s2, (e1.trans e2).rds r2, rfl, q2⟩
theorem for_live {k : Nat} {n : Nat} {m : Nat → Addr} {h : VH} {H : Hp} {δ : DS} {σ : L2.St} (hk : k < h.length) (r : RS X.K m h.length H δ σ) (s : Sim X.K g m h H)
    (q : GoodS X.K g W m h.length H D (forL k f sb n 0 δ h)) : ForW X.K g W own f sb D (Itl X.K (m k)) σ H := by
  refine ⟨fun i c σ H => ∃ δ m' h, k < h.length ∧ m' k = m k ∧ RS X.K m' h.length H δ σ ∧ Sim X.K g m' h H ∧ GoodS X.K g W m' h.length H D (forL k f sb c i δ h), ⟨n, δ, m, h, hk, rfl, r, s, q⟩, ?_⟩
  rintro i c σ H ⟨δ, m', h, hk, hm, r, s, q⟩
  cases c with
  | zero => exact q.elim
  | succ c =>
    unfold forL at q
    split at q
    · rename_i xs hx
      obtain ⟨_, vs, a1, b1⟩ := s.lst hx
      rw [hm] at a1
      cases hxi : xs[i]? with
      | none =>
        rw [hxi] at q
        have hl := b1.length
        have : xs.length ≤ i := List.getElem?_eq_none_iff.mp hxi
        exact .inl ⟨⟨vs, .of a1, by omega⟩, q m' H σ Ext.refl s r⟩
      | some x =>
        rw [hxi] at q
        obtain ⟨v, hv, r1⟩ := b1.get hxi
        refine .inr ⟨⟨vs, v, .of a1, hv⟩, _, fun σ' H' z => ⟨c, Nat.lt_succ_self _, z⟩, fun y H' hy => ?_⟩
        obtain ⟨e1, e2⟩ := hy
        subst e1
        have e3 := e2 vs (.of a1)
        rw [hv] at e3
        cases e3
        refine GoodS.tgt r s r1 q fun δ1 h1 m1 H1 σ1 e1 s1 rr1 q1 => ?_
        refine ⟨δ1, m1, h1, rr1, s1, GoodS.loop q1 fun δ2 h2 m2 H2 σ2 e2 s2 rr2 q2 => ?_⟩
        have e := e1.trans e2
        exact ⟨δ2, m2, h2, Nat.lt_of_lt_of_le hk e.le, (e.eq k hk).trans hm, rr2, s2, q2⟩
    · exact q.elim
variable {tg iter : Expr} {body : List Stmt} {pos : Pos} {fa : FE}
theorem fs_for (hp : PassesOwn (model X.prog X.w) X.A X.env X.xe) (hc : X.calm = true) (ha : PE X iter (rd X.K g W fa)) (hg : PG X tg (rg X.K g own f)) (hb : PSs X body (rs X.K g W sb)) (hs : ∀ x, foldedSetIterable iter X.env x = pure x := by intro _; rfl) :
    PS X (.For tg iter body [] pos) (rs X.K g W (FL.sFor fa f sb)) := ps_weak (ps_for hp hc (pi_or (pi_or (pi_or (pi_list ha) (pi_tup ha)) (pi_str ha)) (pi_keys ha)) hg hb hs) (by
  rintro D σ H ⟨δ, m, h, r, s, q⟩
  show ((iList X.K (rd X.K g W fa) σ H _ ∨ iTup X.K (rd X.K g W fa) σ H _) ∨ iStr (rd X.K g W fa) σ H _) ∨ iKeys (rd X.K g W fa) σ H _
  have q : GoodS X.K g W m h.length H D (thenS δ (fa δ h) fun x h => forX f sb x δ h) := q
  cases ea : fa δ h with
  | bad => rw [ea] at q; exact q.elim
  | err c p h1 =>
    rw [ea] at q
    refine .inl (.inr ⟨δ, m, h, r, s, ?_⟩)
    rw [ea]
    exact GoodS.thn (P := fun _ _ _ _ => True) r q (fun _ _ _ _ _ _ _ => trivial)
  | ok d h1 =>
    have go : ∀ {R : V → Hp → Prop}, (∀ m1 H1 v, Ext m h.length H m1 h1.length H1 → Sim X.K g m1 h1 H1 → RD X.K m1 h1.length H1 d v → GoodS X.K g W m1 h1.length H1 D (forX f sb d δ h1) → R v H1) → rd X.K g W fa σ H R := fun {R} hR => by
      refine ⟨δ, m, h, r, s, ?_⟩
      rw [ea] at q ⊢
      have q : GoodS X.K g W m h.length H D (forX f sb d δ h1) := q
      exact fun m1 H1 e1 s1 v r1 => hR m1 H1 v e1 s1 r1 (q.from e1)
    cases d with
    | tup xs =>
      refine .inl (.inl (.inr (go fun m1 H1 v e1 s1 r1 q1 => ?_)))
      cases r1 with
      | tup h2 h3 => exact ⟨_, rfl, ⟨_, h2.sq⟩, for_tree tree_tup h2 (e1.rs r) s1 h3 q1⟩
    | fls xs =>
      refine .inl (.inl (.inl (go fun m1 H1 v e1 s1 r1 q1 => ?_)))
      cases r1 with
      | fls h2 h3 => exact ⟨_, rfl, ⟨_, h2.seq⟩, for_tree tree_fls h2 (e1.rs r) s1 h3 q1⟩
    | str l =>
      refine .inl (.inr (go fun m1 H1 v e1 s1 r1 q1 => ?_))
      cases r1 with
      | str h2 => exact ⟨_, rfl, for_tree tree_str trivial (e1.rs r) s1 (sign_rel h2) q1⟩
    | fdc ks vs =>
      refine .inr (go fun m1 H1 v e1 s1 r1 q1 => ?_)
      cases r1 with
      | fdc h1 h2 h3 h4 =>
        subst h2
        exact ⟨_, _, rfl, .inl ⟨_, h1, for_tree tree_keys h1 (e1.rs r) s1 (keys_rel h3) q1⟩⟩
    | ref k =>
      refine .inl (.inl (.inl (go fun m1 H1 v e1 s1 r1 q1 => ?_)))
      cases r1 with
      | ref hk =>
        have q1 : GoodS X.K g W m1 h1.length H1 D (match h1[k]? with
          | some (.lst xs) => forL k f sb (xs.length + 1) 0 δ h1
          | _ => .bad) := q1
        split at q1
        · rename_i xs hx
          obtain ⟨_, vs, a1, b1⟩ := s1.lst hx
          exact ⟨_, rfl, ⟨vs, .of a1⟩, for_live hk (e1.rs r) s1 q1⟩
        · exact q1.elim
    | _ =>
      refine .inl (.inr (go fun m1 H1 v e1 s1 r1 q1 => ?_))
      exact q1.elim)
variable {r : FA} {a b : Expr}
theorem rEnds1 {xs : List FL.D} {i j : Int} {K : PySem.W.Frag} {m : Nat → Addr} {n : Nat} {H : Hp} {vs : List V} (h : RDs K m n H xs vs) (e : rEnds xs = some (i, j)) (hl : xs.length = 1) : vs = [.int j] ∧ i = 0 ∧ -(2 ^ 62) ≤ j ∧ j < 2 ^ 62 := by
  unfold rEnds at e
  split at e
  · obtain ⟨v, rfl, r1⟩ := rds1 h
    cases r1
    split at e
    · rename_i ho
      cases e
      unfold okR at ho
      have := of_decide_eq_true ho
      exact ⟨rfl, rfl, by omega, by omega⟩
    · cases e
  · cases hl
  · cases e
theorem rEnds2 {xs : List FL.D} {i j : Int} {K : PySem.W.Frag} {m : Nat → Addr} {n : Nat} {H : Hp} {vs : List V} (h : RDs K m n H xs vs) (e : rEnds xs = some (i, j)) (hl : xs.length = 2) : vs = [.int i, .int j] ∧ (-(2 ^ 62) ≤ i ∧ i < 2 ^ 62 ∧ -(2 ^ 62) ≤ j ∧ j < 2 ^ 62) := by
  unfold rEnds at e
  split at e
  · cases hl
  · obtain ⟨v, w, rfl, r1, r2⟩ := rds2 h
    cases r1
    cases r2
    split at e
    · rename_i ho
      cases e
      unfold okR at ho
      have := of_decide_eq_true ho
      exact ⟨rfl, by omega, by omega, by omega, by omega⟩
    · cases e
  · cases e
def ALen (r : FA) (n : Nat) : Prop := ∀ δ h xs h', r δ h = .ok xs h' → xs.length = n
theorem aLen_nil : ALen aNil 0 := fun δ h xs h' e => by cases e; rfl
theorem aLen_cons {n : Nat} {fa : FE} {r : FA} (hr : ALen r n) : ALen (aCons fa r) (n + 1) := fun δ h xs h' e => by
  unfold aCons at e
  cases ea : fa δ h with
  | ok x h1 =>
    rw [ea] at e
    simp only [Out.bind] at e
    cases er : r δ h1 with
    | ok ys h2 =>
      rw [er] at e
      cases e
      rw [List.length_cons, hr _ _ _ _ er]
    | err c p h2 => rw [er] at e; cases e
    | bad => rw [er] at e; cases e
  | err c p h1 => rw [ea] at e; cases e
  | bad => rw [ea] at e; cases e
theorem for_rng {δ : DS} {σ : L2.St} {m : Nat → Addr} {h : VH} {H : Hp} {n : Nat} (hn : ALen r n) (rr : RS X.K m h.length H δ σ) (s : Sim X.K g m h H) (q : GoodS X.K g W m h.length H D (FL.sForR r f sb δ h)) {R : List V → Hp → Prop}
    (hR : ∀ xs vs h1 m1 H1 i j, Ext m h.length H m1 h1.length H1 → Sim X.K g m1 h1 H1 → RDs X.K m1 h1.length H1 xs vs → xs.length = n → rEnds xs = some (i, j) → ForW X.K g W own f sb D (Itr i (j - i).toNat) σ H1 → R vs H1) : FL.ra X.K g W r σ H R := by
  have q : GoodS X.K g W m h.length H D (thenS δ (r δ h) fun xs h => match rEnds xs with
    | some (i, j) => forT f sb (rng i j) δ h
    | none => .bad) := q
  refine ⟨δ, m, h, rr, s, ?_⟩
  cases er : r δ h with
  | bad => rw [er] at q; exact q
  | err c p h1 =>
    rw [er] at q
    exact GoodS.thn (P := fun _ _ _ _ => True) rr q (fun _ _ _ _ _ _ _ => trivial)
  | ok xs h1 =>
    rw [er] at q
    intro m1 H1 e1 s1 vs r1
    have q : GoodS X.K g W m h.length H D (match rEnds xs with
      | some (i, j) => forT f sb (rng i j) δ h1
      | none => .bad) := q
    cases ee : rEnds xs with
    | none => rw [ee] at q; exact q.elim
    | some p =>
      obtain ⟨i, j⟩ := p
      rw [ee] at q
      exact hR xs vs h1 m1 H1 i j e1 s1 r1 (hn _ _ _ _ er) ee (for_tree tree_rng trivial (e1.rs rr) s1 (rng_rel i _) (q.from e1))
theorem fs_forR1 {p pos' : Pos} (hp : PassesOwn (model X.prog X.w) X.A X.env X.xe) (hc : X.calm = true) (hm : X.mg "range" = none) (ha : PA X [a] (FL.ra X.K g W r)) (hn : ALen r 1) (hg : PG X tg (rg X.K g own f)) (hb : PSs X body (rs X.K g W sb))
    (hgl : Gl X "range" := by rfl) (hst : starEach [a] X.env = [(false, eval a X.env)] := by rfl) (hs : ∀ x, foldedSetIterable (.Call (.Name "range" p) [a] [] pos') X.env x = pure x := by intro _; rfl) :
    PS X (.For tg (.Call (.Name "range" p) [a] [] pos') body [] pos) (rs X.K g W (FL.sForR r f sb)) := ps_weak (ps_for hp hc (pi_range1 hgl hm ha hst) hg hb hs) (by
  rintro D σ H ⟨δ, m, h, rr, s, q⟩
  refine for_rng (own := own) hn rr s q fun xs vs h1 m1 H1 i j e1 s1 r1 hl ee w => ?_
  obtain ⟨e2, e3, e4, e5⟩ := rEnds1 r1 ee hl
  subst e3
  exact ⟨j, e2, e4, e5, by simpa using w⟩)
end
end FL
set_option Elab.async false
set_option linter.all false
set_option maxRecDepth 100000
set_option maxHeartbeats 2000000
namespace FL
open PySem PySem.Spec PyProof.Rows L2
abbrev W0 : WX := fun _ _ _ _ => False
theorem wipeD_get {δ : DS} (j : Nat) : ∀ vs : List Nat, (FL.wipe δ vs)[j]? = if j ∈ vs then (if j < δ.length then some none else none) else δ[j]?
  | [] => by simp [FL.wipe]
  | v :: vs => by
    have hlen : ∀ ws : List Nat, (FL.wipe δ ws).length = δ.length := by
      intro ws
      induction ws with
      | nil => rfl
      | cons w ws ih => show ((FL.wipe δ ws).set w none).length = _; rw [List.length_set, ih]
    show ((FL.wipe δ vs).set v none)[j]? = _
    by_cases hj : v = j
    · subst hj
      rw [if_pos List.mem_cons_self]
      by_cases hl : v < δ.length
      · rw [if_pos hl, List.getElem?_set_self (by rw [hlen]; exact hl)]
      · rw [if_neg hl, List.getElem?_eq_none (by rw [List.length_set, hlen]; omega)]
    · rw [List.getElem?_set_ne hj, wipeD_get j vs]
      by_cases hm : j ∈ vs
      · rw [if_pos hm, if_pos (List.mem_cons_of_mem _ hm)]
      · rw [if_neg hm, if_neg (fun z => (List.mem_cons.mp z).elim (fun e => hj e.symm) hm)]
theorem wipeD_len (δ : DS) : ∀ vs : List Nat, (FL.wipe δ vs).length = δ.length
  | [] => rfl
  | v :: vs => by show ((FL.wipe δ vs).set v none).length = _; rw [List.length_set, wipeD_len δ vs]
theorem RS.wipe {K : PySem.W.Frag} {m : Nat → Addr} {n : Nat} {H : Hp} {δ : DS} {σ : L2.St} (r : RS K m n H δ σ) (own : List Nat) : RS K m n H (FL.wipe δ own) (L2.wipe σ own) := by
  refine ⟨by rw [wipeD_len, wipe_length]; exact r.1, fun i d hd => ?_⟩
  rw [wipeD_get] at hd
  by_cases hi : i ∈ own
  · rw [if_pos hi] at hd
    split at hd <;> cases hd
  · rw [if_neg hi] at hd
    obtain ⟨v, h1, h2⟩ := r.2 i d hd
    exact ⟨v, by rw [wipe_get, if_neg hi]; exact h1, h2⟩
theorem wipe_wipe (σ : L2.St) (own : List Nat) : L2.wipe (L2.wipe σ own) own = L2.wipe σ own := by
  refine List.ext_getElem? fun j => ?_
  rw [wipe_get, wipe_length]
  by_cases hj : j ∈ own
  · rw [if_pos hj, wipe_get, if_pos hj]
  · rw [if_neg hj]
theorem Sim.own {K : PySem.W.Frag} {g : Gc} {m : Nat → Addr} {h : VH} {H : Hp} {D : Addr} {ws : List V} (s : Sim K g m h H) (hD : H D = some (.lst ws)) (nD : ∀ k, k < h.length → m k ≠ D) (u : HO) : Imm H (upd H D u) ∧ Sim K g m h (upd H D u) := by
  have im : Imm H (upd H D u) := ⟨fun a xs e => by
    rw [upd_ne (fun z => by rw [z, hD] at e; cases e)]
    exact e, fun a o u e => by
    rw [upd_ne (fun z => by rw [z, hD] at e; cases e)]
    exact e, fun a q e => by
    rw [upd_ne (fun z => by rw [z, hD] at e; exact LamX_code_lst ws (Option.some.inj e).symm)]
    exact e⟩
  refine ⟨im, ⟨s.inj, fun i o hi => ?_, tabs_upd s.tab (fun ps z => by rw [hD] at z; cases z) (fun q z => by rw [hD] at z; exact LamX_code_lst ws (Option.some.inj z).symm)⟩⟩
  have hl := (List.getElem?_eq_some_iff.mp hi).1
  exact (s.obj i o hi).mono (Nat.le_refl _) (fun _ _ => rfl) im (upd_ne (nD i hl))
theorem Ext.own {m0 m : Nat → Addr} {n0 n : Nat} {H0 H : Hp} {D : Addr} (e : Ext m0 n0 H0 m n H) (h0 : H0 D = none) (u : HO) : Ext m0 n0 H0 m n (upd H D u) :=
  ⟨e.le, e.eq, ⟨fun a xs z => by
    rw [upd_ne (fun y => by rw [y, h0] at z; cases z)]
    exact e.im.tup a xs z, fun a o u z => by
    rw [upd_ne (fun y => by rw [y, h0] at z; cases z)]
    exact e.im.frz a o u z, fun a q z => by
    rw [upd_ne (fun y => by rw [y, h0] at z; cases z)]
    exact e.im.code a q z⟩, fun a o ha z hf => by
    rw [upd_ne (fun y => by rw [y, h0] at z; cases z)]
    exact e.fr a o ha z hf, e.nw, fun a z => by
    by_cases h : a = D
    · exact .non (by rw [h]; exact h0)
    · rw [upd_ne h] at z
      exact e.al a z⟩
structure Acc (K : PySem.W.Frag) (g : Gc) (m0 : Nat → Addr) (n0 : Nat) (H0 : Hp) (D : Addr) (m : Nat → Addr) (h : VH) (H : Hp) (acc : List FL.D) : Prop where
  ex : Ext m0 n0 H0 m h.length H
  sm : Sim K g m h H
  nD : ∀ k, k < h.length → m k ≠ D
  at_ : ∃ vs, H D = some (.lst vs) ∧ RDs K m h.length H acc vs
theorem Acc.from {K : PySem.W.Frag} {g : Gc} {m0 m m1 : Nat → Addr} {n0 : Nat} {H0 H H1 : Hp} {D : Addr} {h h1 : VH} {acc : List FL.D} (a : Acc K g m0 n0 H0 D m h H acc) (e : Ext m h.length H m1 h1.length H1) (s : Sim K g m1 h1 H1) : Acc K g m0 n0 H0 D m1 h1 H1 acc := by
  obtain ⟨vs, hD, r⟩ := a.at_
  refine ⟨a.ex.trans e, s, fun k hk z => ?_, vs, e.fr D _ a.nD hD trivial, e.rds r⟩
  by_cases hn : k < h.length
  · rw [e.eq k hn] at z
    exact a.nD k hn z
  · have := e.nw k (by omega) hk
    rw [z, hD] at this
    exact this.elim
theorem Acc.put {K : PySem.W.Frag} {g : Gc} {m0 m : Nat → Addr} {n0 : Nat} {H0 H : Hp} {D : Addr} {h : VH} {acc : List FL.D} {x : FL.D} {v : V} (a : Acc K g m0 n0 H0 D m h H acc) (h0 : H0 D = none) (r : RD K m h.length H x v) :
    ∃ vs, H D = some (.lst vs) ∧ acc.length = vs.length ∧ Imm H (upd H D (.lst (vs ++ [v]))) ∧ Acc K g m0 n0 H0 D m h (upd H D (.lst (vs ++ [v]))) (acc ++ [x]) := by
  obtain ⟨vs, hD, ra⟩ := a.at_
  obtain ⟨im, s⟩ := a.sm.own hD a.nD (.lst (vs ++ [v]))
  exact ⟨vs, hD, ra.length, im, a.ex.own h0 _, s, a.nD, vs ++ [v], upd_same, RDs.mono (Nat.le_refl _) (fun _ _ => rfl) im _ _ (ra.append (.cons r .nil))⟩
section
variable {X : Cx} {g : Gc} {f : FG} {ft : FT} {fe : FE} {own : List Nat} {δ : DS} {σ : L2.St} {D : Addr} {Q : VK} {m0 : Nat → Addr} {n0 : Nat} {H0 : Hp}
abbrev FinL (K : PySem.W.Frag) (g : Gc) (m0 : Nat → Addr) (n0 : Nat) (H0 : Hp) (Q : VK) (o : Out (List FL.D)) : Prop := GoodE K g (fun _ _ _ => False) m0 n0 H0 Q (lcEnd o)
def turnL (g : FG) (t : FT) (e : FE) (own : List Nat) (δ : DS) (x : FL.D) (h : VH) (acc : List FL.D) (go : VH → List FL.D → Out (List FL.D)) : Out (List FL.D) := match g x (FL.wipe δ own) h with
  | none => .bad
  | some (δ1, h) => match t δ1 h with
    | .ok false h => go h acc
    | .ok true h => match e δ1 h with
      | .ok y h => if acc.length < 16777216 then go h (acc ++ [y]) else .bad
      | _ => .bad
    | _ => .bad
theorem turn_ok {m : Nat → Addr} {h : VH} {H : Hp} {x : FL.D} {v : V} {acc : List FL.D} {go : VH → List FL.D → Out (List FL.D)} {Nx : Hp → Prop} (h0 : H0 D = none) (a : Acc X.K g m0 n0 H0 D m h H acc) (r : RS X.K m h.length H δ σ) (rx : RD X.K m h.length H x v) (q : FinL X.K g m0 n0 H0 Q (turnL f ft fe own δ x h acc go))
    (hN : ∀ h1 m1 H1 acc1, h.length ≤ h1.length → (∀ k, k < h.length → m1 k = m k) → Imm H H1 → Acc X.K g m0 n0 H0 D m1 h1 H1 acc1 → FinL X.K g m0 n0 H0 Q (go h1 acc1) → Nx H1) :
    rg X.K g own f v (L2.wipe σ own) H fun σ2 H2 => L2.wipe σ2 own = L2.wipe σ own ∧ rt X.K g W0 ft σ2 H2 fun b H3 =>
      if b = true then rd X.K g W0 fe σ2 H3 fun y H4 => ∃ acc, H4 D = some (.lst acc) ∧ acc.length < sizeLine ∧ Nx (upd H4 D (.lst (acc ++ [y]))) else Nx H3 := by
  refine ⟨FL.wipe δ own, m, h, x, r.wipe own, a.sm, rx, ?_⟩
  unfold turnL at q
  cases eg : f x (FL.wipe δ own) h with
  | none => rw [eg] at q; exact q
  | some p =>
    obtain ⟨δ1, h1⟩ := p
    rw [eg] at q
    intro m1 H1 σ1 e1 s1 r1 hw
    have a1 := a.from e1 s1
    refine ⟨hw.trans (wipe_wipe σ own), δ1, m1, h1, r1, s1, ?_⟩
    have q : FinL X.K g m0 n0 H0 Q (match ft δ1 h1 with
      | .ok false h => go h acc
      | .ok true h => match fe δ1 h with
        | .ok y h => if acc.length < 16777216 then go h (acc ++ [y]) else .bad
        | _ => .bad
      | _ => .bad) := q
    cases et : ft δ1 h1 with
    | bad => rw [et] at q; exact q
    | err c p h2 => rw [et] at q; exact q.elim
    | ok b h2 =>
      rw [et] at q
      intro m2 H2 e2 s2
      have a2 := a1.from e2 s2
      have e12 := e1.trans e2
      cases b with
      | false => exact hN h2 m2 H2 acc e12.le e12.eq e12.im a2 q
      | true =>
        show rd X.K g W0 fe _ H2 _
        refine ⟨δ1, m2, h2, e2.rs r1, s2, ?_⟩
        have q : FinL X.K g m0 n0 H0 Q (match fe δ1 h2 with
          | .ok y h => if acc.length < 16777216 then go h (acc ++ [y]) else .bad
          | _ => .bad) := q
        cases ee : fe δ1 h2 with
        | bad => rw [ee] at q; exact q
        | err c p h3 => rw [ee] at q; exact q.elim
        | ok y h3 =>
          rw [ee] at q
          intro m3 H3 e3 s3 w rw'
          have q : FinL X.K g m0 n0 H0 Q (if acc.length < 16777216 then go h3 (acc ++ [y]) else .bad) := q
          have a3 := a2.from e3 s3
          have e := e12.trans e3
          split at q
          · rename_i hz
            obtain ⟨vs, hD, hl, im, a4⟩ := a3.put h0 rw'
            exact ⟨vs, hD, by rw [sizeLine_eq, ← hl]; exact hz, hN h3 m3 _ _ e.le e.eq (e.im.trans im) a4 q⟩
          · exact q.elim
abbrev LcW (K : PySem.W.Frag) (g : Gc) (own : List Nat) (f : FG) (ft : FT) (fe : FE) (J : It) (σ : L2.St) (D : Addr) (Q : VK) (H1 : Hp) : Prop :=
  ∃ W : Nat → Nat → Hp → Prop, (∃ m, W 0 m (upd H1 D (.lst []))) ∧ ∀ i m H, W i m H →
    (J.stop i H ∧ Q (.ref D) H) ∨ (J.go i H ∧ ∃ Nx : Hp → Prop, (∀ H', Nx H' → ∃ m', m' < m ∧ W (i + 1) m' H') ∧ ∀ x H', J.yld i H x H' → rg K g own f x (L2.wipe σ own) H' fun σ2 H2 => L2.wipe σ2 own = L2.wipe σ own ∧ rt K g W0 ft σ2 H2 fun b H3 =>
      if b = true then rd K g W0 fe σ2 H3 fun y H4 => ∃ acc, H4 D = some (.lst acc) ∧ acc.length < sizeLine ∧ Nx (upd H4 D (.lst (acc ++ [y]))) else Nx H3)
theorem Acc.end {K : PySem.W.Frag} {m : Nat → Addr} {h : VH} {H : Hp} {acc : List FL.D} (h0 : H0 D = none) (a : Acc K g m0 n0 H0 D m h H acc) (q : FinL K g m0 n0 H0 Q (.ok acc h)) : FzQ Q (.ref D) H := by
  obtain ⟨vs, hD, r⟩ := a.at_
  refine .lock D (.lst vs) hD trivial fun o => .base ?_
  obtain ⟨im, s⟩ := a.sm.own hD a.nD (.frz o (.lst vs))
  exact q m _ (a.ex.own h0 _) s _ (.fls (.inl ⟨o, upd_same⟩) (RDs.mono (Nat.le_refl _) (fun _ _ => rfl) im _ _ r))
theorem Acc.new {K : PySem.W.Frag} {m : Nat → Addr} {h : VH} {H : Hp} (s : Sim K g m h H) (hD : H D = none) : Imm H (upd H D (.lst [])) ∧ Acc K g m h.length H D m h (upd H D (.lst [])) [] := by
  obtain ⟨e, s'⟩ := s.tup (o := .lst []) hD
  have nD : ∀ k, k < h.length → m k ≠ D := fun k hk z => by
    obtain ⟨u, hu, _⟩ := s.there hk
    rw [z, hD] at hu
    cases hu
  exact ⟨e.im, ⟨e, s', nD, [], upd_same, .nil⟩⟩
theorem lc_tree {J : It} {C : Hp → Prop} {vs : List V} {xs : List FL.D} {m : Nat → Addr} {h : VH} {H : Hp} (T : TreeIt J C vs) (c0 : C H) (hD : H D = none) (r : RS X.K m h.length H δ σ) (s : Sim X.K g m h H) (rx : RDs X.K m h.length H xs vs)
    (q : FinL X.K g m h.length H Q (lcT f ft fe own δ xs h [])) : LcW X.K g own f ft fe J σ D (FzQ Q) H := by
  obtain ⟨i0, a0⟩ := Acc.new (D := D) s hD
  have mo : ∀ {m1 : Nat → Addr} {h1 : VH} {H1 : Hp} {m2 : Nat → Addr} {h2 : VH} {H2 : Hp} {xs : List FL.D} {vs : List V}, h1.length ≤ h2.length → (∀ k, k < h1.length → m2 k = m1 k) → Imm H1 H2 → RDs X.K m1 h1.length H1 xs vs → RDs X.K m2 h2.length H2 xs vs := fun a b c d => RDs.mono a b c _ _ d
  have ms : ∀ {m1 : Nat → Addr} {h1 : VH} {H1 : Hp} {m2 : Nat → Addr} {h2 : VH} {H2 : Hp}, h1.length ≤ h2.length → (∀ k, k < h1.length → m2 k = m1 k) → Imm H1 H2 → RS X.K m1 h1.length H1 δ σ → RS X.K m2 h2.length H2 δ σ := fun a b c r => ⟨r.1, fun i d hd => let ⟨v, h1, h2⟩ := r.2 i d hd; ⟨v, h1, RD.mono a b c _ _ h2⟩⟩
  refine ⟨fun i c H1 => ∃ m1 h1 rest acc, C H1 ∧ RS X.K m1 h1.length H1 δ σ ∧ Acc X.K g m h.length H D m1 h1 H1 acc ∧ RDs X.K m1 h1.length H1 rest (vs.drop i) ∧ c = rest.length ∧ FinL X.K g m h.length H Q (lcT f ft fe own δ rest h1 acc), ⟨_, m, h, xs, [], T.st _ _ i0 c0, ms (Nat.le_refl _) (fun _ _ => rfl) i0 r, a0, mo (Nat.le_refl _) (fun _ _ => rfl) i0 rx, rfl, q⟩, ?_⟩
  rintro i c H1 ⟨m1, h1, rest, acc, hc, r, a, rx, rfl, q⟩
  cases rest with
  | nil =>
    have hl := rx.length
    rw [List.length_drop] at hl
    exact .inl ⟨T.stop i H1 hc (by simp at hl; omega), a.end hD q⟩
  | cons x rest =>
    have hi : ∃ v, vs[i]? = some v ∧ RD X.K m1 h1.length H1 x v ∧ RDs X.K m1 h1.length H1 rest (vs.drop (i + 1)) := by
      have hl := rx.length
      rw [List.length_drop] at hl
      have hlt : i < vs.length := by simp at hl; omega
      rw [List.drop_eq_getElem_cons hlt] at rx
      cases rx with
      | cons r1 r2 => exact ⟨vs[i], by simp [hlt], r1, r2⟩
    obtain ⟨v, hv, r1, r2⟩ := hi
    refine .inr ⟨T.go i H1 v hc hv, _, fun H' z => ⟨rest.length, by simp, z⟩, fun y H' hy => ?_⟩
    obtain ⟨e1, e2⟩ := T.yld i H1 y H' v hc hy hv
    subst e1
    subst e2
    refine turn_ok hD a r r1 (go := lcT f ft fe own δ rest) q fun h2 m2 H2 acc2 e1 e2 e3 a2 q2 => ?_
    exact ⟨m2, h2, rest, acc2, T.st _ _ e3 hc, ms e1 e2 e3 r, a2, mo e1 e2 e3 r2, rfl, q2⟩
theorem lc_live {j n : Nat} {m : Nat → Addr} {h : VH} {H : Hp} (hj : j < h.length) (hD : H D = none) (r : RS X.K m h.length H δ σ) (s : Sim X.K g m h H)
    (q : FinL X.K g m h.length H Q (lcL j f ft fe own δ n 0 h [])) : LcW X.K g own f ft fe (Itl X.K (m j)) σ D (FzQ Q) H := by
  obtain ⟨i0, a0⟩ := Acc.new (D := D) s hD
  have ms : ∀ {m1 : Nat → Addr} {h1 : VH} {H1 : Hp} {m2 : Nat → Addr} {h2 : VH} {H2 : Hp}, h1.length ≤ h2.length → (∀ k, k < h1.length → m2 k = m1 k) → Imm H1 H2 → RS X.K m1 h1.length H1 δ σ → RS X.K m2 h2.length H2 δ σ := fun a b c r => ⟨r.1, fun i d hd => let ⟨v, h1, h2⟩ := r.2 i d hd; ⟨v, h1, RD.mono a b c _ _ h2⟩⟩
  refine ⟨fun i c H1 => ∃ m1 h1 acc, j < h1.length ∧ m1 j = m j ∧ RS X.K m1 h1.length H1 δ σ ∧ Acc X.K g m h.length H D m1 h1 H1 acc ∧ FinL X.K g m h.length H Q (lcL j f ft fe own δ c i h1 acc), ⟨n, m, h, [], hj, rfl, ms (Nat.le_refl _) (fun _ _ => rfl) i0 r, a0, q⟩, ?_⟩
  rintro i c H1 ⟨m1, h1, acc, hj1, hmj, r, a, q⟩
  cases c with
  | zero => exact q.elim
  | succ c =>
    unfold lcL at q
    split at q
    · rename_i xs hx
      obtain ⟨_, vs, a1, b1⟩ := a.sm.lst hx
      rw [hmj] at a1
      cases hxi : xs[i]? with
      | none =>
        rw [hxi] at q
        have hl := b1.length
        have : xs.length ≤ i := List.getElem?_eq_none_iff.mp hxi
        exact .inl ⟨⟨vs, .of a1, by omega⟩, a.end hD q⟩
      | some x =>
        rw [hxi] at q
        obtain ⟨v, hv, r1⟩ := b1.get hxi
        refine .inr ⟨⟨vs, v, .of a1, hv⟩, _, fun H' z => ⟨c, Nat.lt_succ_self _, z⟩, fun y H' hy => ?_⟩
        obtain ⟨e1, e2⟩ := hy
        subst e1
        have e3 := e2 vs (.of a1)
        rw [hv] at e3
        cases e3
        refine turn_ok hD a r r1 (go := lcL j f ft fe own δ c (i + 1)) q fun h2 m2 H2 acc2 e1 e2 e3 a2 q2 => ?_
        exact ⟨m2, h2, acc2, Nat.lt_of_lt_of_le hj1 e1, (e2 j hj1).trans hmj, ms e1 e2 e3 r, a2, q2⟩
    · exact q.elim
end
section
variable {X : Cx} {g : Gc} {W : WX} {f : FG} {ft : FT} {fe fa : FE} {sl : List Nat} {elt tg iter : Expr} {ifs : List Expr} {scope : Scope} {own : List (Str × Nat)} {pos spos py : Pos} {r : FA}
theorem fts_nil {X : Cx} : PTs X [] (rt X.K g W tYes) := ⟨fun pins s σ H Q I h => by
  obtain ⟨δ, m, vh, rr, sm, q⟩ := h
  exact pts_nil.run pins s σ H Q I (q m H Ext.refl sm)⟩
theorem fts_one {X : Cx} {c : Expr} (h : PT X c (rt X.K g W ft)) : PTs X [c] (rt X.K g W ft) := pts_one h
structure LcP (X : Cx) (g : Gc) (elt tg : Expr) (ifs : List Expr) (scope : Scope) (own : List (Str × Nat)) (f : FG) (ft : FT) (fe : FE) : Prop where
  ok : BlkOk X.N X.env.scope scope own
  hg : ∀ (s : Shared) (H : Hp) (C : Addr) (cl : List (Str × Addr)) (fp : List Addr), PG (X.blk s H scope (compEnvC scope cl C X.env) fp) tg (rg X.K g (own.map (·.2)) f)
  ht : ∀ (s : Shared) (H : Hp) (C : Addr) (cl : List (Str × Addr)) (fp : List Addr), PTs (X.blk s H scope (compEnvC scope cl C X.env) fp) ifs (rt X.K g W0 ft)
  he : ∀ (s : Shared) (H : Hp) (C : Addr) (cl : List (Str × Addr)) (fp : List Addr), PE (X.blk s H scope (compEnvC scope cl C X.env) fp) elt (rd X.K g W0 fe)
theorem rd_lc : ∀ σ H Q, rd X.K g W (FL.eLc fa f ft fe sl) σ H Q →
    tLc (fun σ H R => ((iList X.K (rd X.K g W fa) σ H R ∨ iTup X.K (rd X.K g W fa) σ H R) ∨ iStr (rd X.K g W fa) σ H R) ∨ iKeys (rd X.K g W fa) σ H R) (rg X.K g sl f) (rt X.K g W0 ft) (rd X.K g W0 fe) sl σ H (FzQ Q) := by
  rintro σ H Q ⟨δ, m, h, r, s, q⟩
  have q : GoodE X.K g (fun c d H' => W c d σ H') m h.length H Q ((fa δ h).bind fun x h => lcX f ft fe sl δ x h) := q
  show ((iList X.K (rd X.K g W fa) σ H _ ∨ iTup X.K (rd X.K g W fa) σ H _) ∨ iStr (rd X.K g W fa) σ H _) ∨ iKeys (rd X.K g W fa) σ H _
  cases ea : fa δ h with
  | bad => rw [ea] at q; exact q.elim
  | err c p h1 =>
    rw [ea] at q
    refine .inl (.inr ⟨δ, m, h, r, s, ?_⟩)
    rw [ea]
    exact q
  | ok d h1 =>
    have go : ∀ {R : V → Hp → Prop}, (∀ m1 H1 v, Ext m h.length H m1 h1.length H1 → Sim X.K g m1 h1 H1 → RD X.K m1 h1.length H1 d v → GoodE X.K g (fun c d H' => W c d σ H') m1 h1.length H1 Q (lcX f ft fe sl δ d h1) → R v H1) → rd X.K g W fa σ H R := fun {R} hR => by
      refine ⟨δ, m, h, r, s, ?_⟩
      rw [ea] at q ⊢
      have q : GoodE X.K g (fun c d H' => W c d σ H') m h.length H Q (lcX f ft fe sl δ d h1) := q
      exact fun m1 H1 e1 s1 v r1 => hR m1 H1 v e1 s1 r1 (Gd.from e1 q)
    have fin : ∀ {m1 : Nat → Addr} {H1 : Hp} {o : Out (List FL.D)}, GoodE X.K g (fun c d H' => W c d σ H') m1 h1.length H1 Q (lcEnd o) → FinL X.K g m1 h1.length H1 Q o := fun {m1 H1 o} z => by
      cases o with
      | ok xs h' => exact z
      | _ => exact z
    cases d with
    | tup xs =>
      refine .inl (.inl (.inr (go fun m1 H1 v e1 s1 r1 q1 => ?_)))
      cases r1 with
      | tup h2 h3 => exact ⟨_, rfl, ⟨_, h2.sq⟩, fun D hD => lc_tree tree_tup h2 hD (e1.rs r) s1 h3 (fin q1)⟩
    | fls xs =>
      refine .inl (.inl (.inl (go fun m1 H1 v e1 s1 r1 q1 => ?_)))
      cases r1 with
      | fls h2 h3 => exact ⟨_, rfl, ⟨_, h2.seq⟩, fun D hD => lc_tree tree_fls h2 hD (e1.rs r) s1 h3 (fin q1)⟩
    | str l =>
      refine .inl (.inr (go fun m1 H1 v e1 s1 r1 q1 => ?_))
      cases r1 with
      | str h2 => exact ⟨_, rfl, fun D hD => lc_tree tree_str trivial hD (e1.rs r) s1 (sign_rel h2) (fin q1)⟩
    | fdc ks vs =>
      refine .inr (go fun m1 H1 v e1 s1 r1 q1 => ?_)
      cases r1 with
      | fdc h1 h2 h3 h4 =>
        subst h2
        exact ⟨_, _, rfl, .inl ⟨_, h1, fun D hD => lc_tree tree_keys h1 hD (e1.rs r) s1 (keys_rel h3) (fin q1)⟩⟩
    | ref k =>
      refine .inl (.inl (.inl (go fun m1 H1 v e1 s1 r1 q1 => ?_)))
      cases r1 with
      | ref hk =>
        have q1 : GoodE X.K g (fun c d H' => W c d σ H') m1 h1.length H1 Q (match h1[k]? with
          | some (.lst xs) => lcEnd (lcL k f ft fe sl δ (xs.length + 1) 0 h1 [])
          | _ => .bad) := q1
        split at q1
        · rename_i xs hx
          obtain ⟨_, vs, a1, b1⟩ := s1.lst hx
          exact ⟨_, rfl, ⟨vs, .of a1⟩, fun D hD => lc_live hk hD (e1.rs r) s1 (fin q1)⟩
        · exact q1.elim
    | _ =>
      refine .inl (.inr (go fun m1 H1 v e1 s1 r1 q1 => ?_))
      exact q1.elim
theorem fe_lc (hc : X.calm = true) (hN : X.N.Nodup) (ha : PE X iter (rd X.K g W fa)) (P : LcP X g elt tg ifs scope own f ft fe) (hsl : own.map (·.2) = sl := by rfl) (hs : ∀ x, foldedSetIterable iter X.env x = pure x := by intro _; rfl) :
    PE X (.ListComp elt [⟨tg, iter, ifs, 0⟩] scope pos) (rd X.K g W (FL.eLc fa f ft fe sl)) := by
  subst hsl
  exact pe_weak (pe_fz (pe_lc hc hN (pi_or (pi_or (pi_or (pi_list ha) (pi_tup ha)) (pi_str ha)) (pi_keys ha)) P.ok P.hg P.ht P.he hs)) rd_lc
theorem lc_rng {δ : DS} {σ : L2.St} {m : Nat → Addr} {h : VH} {H : Hp} {n : Nat} {Q : VK} (hn : ALen r n) (rr : RS X.K m h.length H δ σ) (s : Sim X.K g m h H) (q : GoodE X.K g (fun c d H' => W c d σ H') m h.length H Q (FL.eLcR r f ft fe sl δ h)) {R : List V → Hp → Prop}
    (hR : ∀ xs vs h1 m1 H1 i j, Ext m h.length H m1 h1.length H1 → Sim X.K g m1 h1 H1 → RDs X.K m1 h1.length H1 xs vs → xs.length = n → rEnds xs = some (i, j) → (∀ D, H1 D = none → LcW X.K g sl f ft fe (Itr i (j - i).toNat) σ D (FzQ Q) H1) → R vs H1) : FL.ra X.K g W r σ H R := by
  refine ⟨δ, m, h, rr, s, ?_⟩
  have q : GoodE X.K g (fun c d H' => W c d σ H') m h.length H Q ((r δ h).bind fun xs h => match rEnds xs with
    | some (i, j) => lcEnd (lcT f ft fe sl δ (rng i j) h [])
    | none => .bad) := q
  cases er : r δ h with
  | bad => rw [er] at q; exact q
  | err c p h1 => rw [er] at q; exact q
  | ok xs h1 =>
    rw [er] at q
    intro m1 H1 e1 s1 vs r1
    have q : GoodE X.K g (fun c d H' => W c d σ H') m h.length H Q (match rEnds xs with
      | some (i, j) => lcEnd (lcT f ft fe sl δ (rng i j) h1 [])
      | none => .bad) := q
    cases ee : rEnds xs with
    | none => rw [ee] at q; exact q.elim
    | some p =>
      obtain ⟨i, j⟩ := p
      rw [ee] at q
      refine hR xs vs h1 m1 H1 i j e1 s1 r1 (hn _ _ _ _ er) ee fun D hD => lc_tree tree_rng trivial hD (e1.rs rr) s1 (rng_rel i _) ?_
      have q : GoodE X.K g (fun c d H' => W c d σ H') m h.length H Q (lcEnd (lcT f ft fe sl δ (rng i j) h1 [])) := q
      have q2 := Gd.from e1 q
      cases eo : lcT f ft fe sl δ (rng i j) h1 [] with
      | ok xs h2 =>
        rw [eo] at q2
        show GoodE _ _ _ _ _ _ _ (lcEnd (lcT f ft fe sl δ (rng i j) h1 []))
        rw [eo]
        exact q2
      | _ => rw [eo] at q2; exact q2.elim
variable {a b : Expr}
theorem rd_lcR1 (hn : ALen r 1) : ∀ σ H Q, rd X.K g W (FL.eLcR r f ft fe sl) σ H Q → tLc (iRng1 (FL.ra X.K g W r)) (rg X.K g sl f) (rt X.K g W0 ft) (rd X.K g W0 fe) sl σ H (FzQ Q) := by
  rintro σ H Q ⟨δ, m, h, rr, s, q⟩
  refine lc_rng hn rr s q fun xs vs h1 m1 H1 i j e1 s1 r1 hl ee w => ?_
  obtain ⟨e2, e3, e4, e5⟩ := rEnds1 r1 ee hl
  subst e3
  exact ⟨j, e2, e4, e5, fun D hD => by simpa using w D hD⟩
theorem fe_lcR1 {p pos' : Pos} (hc : X.calm = true) (hN : X.N.Nodup) (hm : X.mg "range" = none) (ha : PA X [a] (FL.ra X.K g W r)) (hn : ALen r 1) (P : LcP X g elt tg ifs scope own f ft fe) (hsl : own.map (·.2) = sl := by rfl) (hgl : Gl X "range" := by rfl) (hst : starEach [a] X.env = [(false, eval a X.env)] := by rfl)
    (hs : ∀ x, foldedSetIterable (.Call (.Name "range" p) [a] [] pos') X.env x = pure x := by intro _; rfl) : PE X (.ListComp elt [⟨tg, .Call (.Name "range" p) [a] [] pos', ifs, 0⟩] scope pos) (rd X.K g W (FL.eLcR r f ft fe sl)) := by
  subst hsl
  exact pe_weak (pe_fz (pe_lc hc hN (pi_range1 hgl hm ha hst) P.ok P.hg P.ht P.he hs)) (rd_lcR1 hn)
end
end FL
set_option Elab.async false
set_option linter.all false
set_option maxRecDepth 100000
set_option maxHeartbeats 2000000
namespace FL
open PySem PySem.Spec PyProof.Rows L2
theorem spF_len {K : PySem.W.Frag} {g : Gc} {np n : Nat} {b : FSt} {vs : List V} {H : Hp} {Q : VK} {E : XK} (h : spF K g (runF np n b) vs H Q E) : vs.length = np := by
  obtain ⟨m, h, xs, s, r, q⟩ := h
  unfold runF at q
  split at q
  · rename_i hl
    rw [← hl, r.length]
  · exact q.elim
theorem GoodS.ofF {K : PySem.W.Frag} {g : Gc} {m : Nat → Addr} {n : Nat} {H : Hp} {Q : VK} {E : XK} {o : OutS} (q : GoodE K g (fun c d H' => E c d H') m n H Q (endF o)) : GoodS K g (fun c d _ H' => E c d H') m n H { nx := fun _ H' => Q .non H', rt := Q } o := by
  cases o with
  | nx δ h => exact fun m' H' σ e s r => q m' H' e s _ .non
  | ret d h => exact fun m' H' v e s r => q m' H' e s v r
  | brk d h => exact q.elim
  | ct d h => exact q.elim
  | err c p d h => exact fun m' H' σ cls dd e s r x => q m' H' cls dd e s x
  | bad => exact q.elim
theorem rs_run {K : PySem.W.Frag} {g : Gc} {np : Nat} {N : List Str} {b : FSt} {vs : List V} {H : Hp} {Q : VK} {E : XK} (h : spF K g (runF np N.length b) vs H Q E) :
    rs K g (fun c d _ H' => E c d H') b { nx := fun _ H' => Q .non H', rt := Q } (start N vs) H := by
  obtain ⟨m, h, xs, s, r, q⟩ := h
  unfold runF at q
  split at q
  · exact ⟨_, m, h, RS.start r, s, GoodS.ofF q⟩
  · exact q.elim
section
variable {P : Program} {w : World} {K : PySem.W.Frag} {mg : Str → Option Value} {base : Heap} {g : Gc} {k : Nat} {x : Str} {F F' : List D → VH → Out D}
theorem Df.mkD {st : Stmt} {f : Addr} {fd : FuncData} {N ps : List Str} {sb : FSt} (Fn : L2.Fun K x x st f fd) (S : FnScope N ps (defScope st)) (hm : mg x = some (.ref f)) (hb : Binds K fd ps [])
    (body : ∀ (cdv : Value) (A : Around) (outer : List Env) (s : Shared) (H : Hp) (E : XK), Room k (A.deeper (envOfC x (defScope st) s.heap.objs.size f cdv)) →
      PSs (cxOf (L2.CX P w) P w K mg base N x (defScope st) f cdv A outer s H E) (defBody st) (rs K g (fun c d _ H' => E c d H') sb)) : Df P w K mg base g (k + 1) x (runF ps.length N.length sb) :=
  ⟨f, fd, ps, hm, Fn.kp, hb, Fn.okX S (fun vs H Q E h => spF_len h) fun cdv A outer s H vs Q E hr h => ⟨_, body cdv A outer s H E hr, rs_run h⟩⟩
theorem Df.mkC {qual : Str} {f c : Addr} {params : Arguments} {bd : List Stmt} {scope : Scope} {dV kV doc pm ct oc : Value} {an od : Option Addr} {osl : Array (Option Value)} {N ps : List Str} {sb : FSt}
    (lk : K.lookup f = some ⟨oc, od, .func (PySem.W.fnOf x qual params bd scope dV kV doc pm an (.ref c) ct), osl⟩) (hcd : PySem.W.codeIn K (.ref c) qual = true) (S : FnScope N ps scope) (hm : mg x = some (.ref f)) (hk : PySem.W.keepIn K (.ref f) = true) (hb : Binds K (PySem.W.fnOf x qual params bd scope dV kV doc pm an (.ref c) ct) ps [])
    (body : ∀ (A : Around) (outer : List Env) (s : Shared) (H : Hp) (E : XK), Room k (A.deeper (envOfC qual scope s.heap.objs.size f (.ref c))) →
      PSs (cxOf (L2.CX P w) P w K mg base N qual scope f (.ref c) A outer s H E) bd (rs K g (fun c d _ H' => E c d H') sb)) : Df P w K mg base g (k + 1) x (runF ps.length N.length sb) :=
  ⟨f, _, ps, hm, hk, hb, fn_of lk hcd S (fun vs H Q E h => spF_len h) fun A outer s H vs Q E hr h => ⟨_, body A outer s H E hr, rs_run h⟩⟩
theorem FnOk.impS {CX : CXT} {f : Addr} {fd : FuncData} {ps : List Str} {sp sp' : Sp} (o : FnOk P w K mg base CX k f fd ps sp) (h : ∀ vs H Q E, sp' vs H Q E → sp vs H Q E) : FnOk P w K mg base CX k f fd ps sp' :=
  ⟨fun vs H Q E q => o.len _ _ _ _ (h _ _ _ _ q), fun A outer s H args us vs Q E hr e0 hb r q => o.run A outer s H args us vs Q E hr e0 hb r (h _ _ _ _ q)⟩
theorem Df.imp (d : Df P w K mg base g k x F) (h : ∀ vs H Q E, spF K g F' vs H Q E → spF K g F vs H Q E) : Df P w K mg base g k x F' := by
  obtain ⟨f, fd, ps, h1, h2, h3, h4⟩ := d.ex
  exact ⟨f, fd, ps, h1, h2, h3, FL.FnOk.impS h4 h⟩
theorem Df.mono (d : Df P w K mg base g k x F) {j : Nat} (h : k ≤ j) : Df P w K mg base g j x F := by
  obtain ⟨f, fd, ps, h1, h2, h3, h4⟩ := d.ex
  exact ⟨f, fd, ps, h1, h2, h3, h4.mono h⟩
theorem Df.bot {st : Stmt} {f : Addr} {fd : FuncData} {ps : List Str} (Fn : L2.Fun K x x st f fd) (hm : mg x = some (.ref f)) (hb : Binds K fd ps []) : Df P w K mg base g k x (fun _ _ => .bad) :=
  ⟨f, fd, ps, hm, Fn.kp, hb, ⟨fun vs H Q E ⟨m, h, xs, s, r, q⟩ => q.elim, fun A outer s H args us vs Q E hr e0 hb r ⟨m, h, xs, s, r', q⟩ => q.elim⟩⟩
end
mutual
/-- each object in d is one of the first n -/
def bnd (n : Nat) : D → Bool
  | .ref k => decide (k < n)
  | .tup xs => bnds n xs
  | .fls xs => bnds n xs
  | .fdc _ vs => bnds n vs
  | .clo _ vs => bnds n vs
  | _ => true
def bnds (n : Nat) : List D → Bool
  | [] => true
  | x :: xs => bnd n x && bnds n xs
end
mutual
/-- the objects' numbers changed -/
def ren (ρ : Nat → Nat) : D → D
  | .ref k => .ref (ρ k)
  | .tup xs => .tup (rens ρ xs)
  | .fls xs => .fls (rens ρ xs)
  | .fdc ks vs => .fdc ks (rens ρ vs)
  | .non => .non
  | .bl b => .bl b
  | .int i => .int i
  | .str s => .str s
  | .ty n => .ty n
  | .adr a => .adr a
  | .clo L vs => .clo L (rens ρ vs)
def rens (ρ : Nat → Nat) : List D → List D
  | [] => []
  | x :: xs => ren ρ x :: rens ρ xs
end
def bndO (n : Nat) : O → Bool
  | .lst xs => bnds n xs
  | .dct kvs => kvs.all fun p => bnd n p.2
  | .ins _ fs => fs.all fun p => bnd n p.2
  | .fdk kvs => kvs.all fun p => bnd n p.2
  | .nkd ks => bnds n ks
def renO (ρ : Nat → Nat) : O → O
  | .lst xs => .lst (rens ρ xs)
  | .dct kvs => .dct (kvs.map fun p => (p.1, ren ρ p.2))
  | .ins c fs => .ins c (fs.map fun p => (p.1, ren ρ p.2))
  | .fdk kvs => .fdk (kvs.map fun p => (p.1, ren ρ p.2))
  | .nkd ks => .nkd (rens ρ ks)
mutual
theorem nk_ren {ρ : Nat → Nat} : ∀ d : D, nkOf (ren ρ d) = nkOf d
  | .tup xs => by
    unfold ren nkOf
    rw [nks_ren xs]
  | .non => by unfold ren; rfl
  | .bl _ => by unfold ren; rfl
  | .int _ => by unfold ren; rfl
  | .str _ => by unfold ren; rfl
  | .ty _ => by unfold ren; rfl
  | .adr _ => by unfold ren; rfl
  | .clo _ _ => by unfold ren; simp [nkOf]
  | .ref _ => by unfold ren; simp [nkOf]
  | .fls _ => by unfold ren; simp [nkOf]
  | .fdc _ _ => by unfold ren; simp [nkOf]
theorem nks_ren {ρ : Nat → Nat} : ∀ d : List D, nksOf (rens ρ d) = nksOf d
  | [] => by unfold rens; rfl
  | x :: xs => by
    unfold rens nksOf
    rw [nk_ren x, nks_ren xs]
end
section
variable {K : PySem.W.Frag} {m : Nat → Addr} {n n2 : Nat} {H : Hp} {ρ : Nat → Nat}
mutual
theorem RD.ren : ∀ (d : D) (v : V), bnd n2 d = true → RD K m n H (FL.ren ρ d) v → RD K (fun k => m (ρ k)) n2 H d v
  | .non, _, _, h => by unfold FL.ren at h; cases h; exact .non
  | .bl _, _, _, h => by unfold FL.ren at h; cases h; exact .bl _
  | .int _, _, _, h => by unfold FL.ren at h; cases h; exact .int _
  | .str _, _, _, h => by unfold FL.ren at h; cases h with | str hl => exact .str hl
  | .tup xs, _, b, h => by
    unfold FL.ren at h
    unfold bnd at b
    cases h with
    | tup h1 h2 => exact .tup h1 (RDs.ren xs _ b h2)
  | .fls xs, _, b, h => by
    unfold FL.ren at h
    unfold bnd at b
    cases h with
    | fls h1 h2 => exact .fls h1 (RDs.ren xs _ b h2)
  | .fdc ks xs, _, b, h => by
    unfold FL.ren at h
    unfold bnd at b
    cases h with
    | fdc h1 h2 h3 h4 => exact .fdc h1 h2 h3 (RDs.ren xs _ b h4)
  | .ref k, _, b, h => by
    unfold FL.ren at h
    unfold bnd at b
    cases h with
    | ref hk => exact RD.ref (m := fun k => m (ρ k)) (of_decide_eq_true b)
  | .ty _, _, _, h => by unfold FL.ren at h; cases h; exact .ty _
  | .adr _, _, _, h => by unfold FL.ren at h; cases h; exact .adr _
  | .clo L xs, _, b, h => by
    unfold FL.ren at h
    unfold bnd at b
    cases h with
    | clo h1 h2 h3 h4 => exact .clo h1 h2 h3 (RDs.ren xs _ b h4)
theorem RDs.ren : ∀ (d : List D) (v : List V), bnds n2 d = true → RDs K m n H (rens ρ d) v → RDs K (fun k => m (ρ k)) n2 H d v
  | [], _, _, h => by unfold rens at h; cases h; exact .nil
  | x :: xs, _, b, h => by
    unfold rens at h
    unfold bnds at b
    rw [Bool.and_eq_true] at b
    cases h with
    | cons h1 h2 => exact .cons (RD.ren x _ b.1 h1) (RDs.ren xs _ b.2 h2)
end
theorem RKs.ren : ∀ (d : List (D × D)) (v : List (Key × V)), (d.all fun p => bnd n2 p.2) = true → RKs K m n H (d.map fun p => (p.1, FL.ren ρ p.2)) v → RKs K (fun k => m (ρ k)) n2 H d v
  | [], _, _, h => by cases h; exact .nil
  | (a, x) :: xs, _, b, h => by
    rw [List.all_cons, Bool.and_eq_true] at b
    rw [List.map_cons] at h
    cases h with
    | cons h0 h1 h2 => exact .cons h0 (RD.ren x _ b.1 h1) (RKs.ren xs _ b.2 h2)
theorem RFs.ren : ∀ (d : List (Str × D)) (v : List (Str × V)), (d.all fun p => bnd n2 p.2) = true → RFs K m n H (d.map fun p => (p.1, FL.ren ρ p.2)) v → RFs K (fun k => m (ρ k)) n2 H d v
  | [], _, _, h => by cases h; exact .nil
  | (a, x) :: xs, _, b, h => by
    rw [List.all_cons, Bool.and_eq_true] at b
    rw [List.map_cons] at h
    cases h with
    | cons h1 h2 => exact .cons (RD.ren x _ b.1 h1) (RFs.ren xs _ b.2 h2)
theorem RO.ren {g : Gc} {a : Addr} : ∀ (o : O), bndO n2 o = true → RO K g m n H a (renO ρ o) → RO K g (fun k => m (ρ k)) n2 H a o
  | .lst xs, b, ⟨vs, h1, h2⟩ => ⟨vs, h1, RDs.ren _ _ b h2⟩
  | .dct kvs, b, ⟨vs, h1, h2⟩ => ⟨vs, h1, RKs.ren _ _ b h2⟩
  | .ins c fs, b, ⟨C, dx, vs, h0, h1, h2⟩ => ⟨C, dx, vs, h0, h1, RFs.ren _ _ b h2⟩
  | .fdk kvs, b, ⟨o, vs, h1, h2⟩ => ⟨o, vs, h1, RKs.ren _ _ b h2⟩
  | .nkd ks, b, ⟨es, ep, xs, x⟩ => ⟨es, ep, xs, x.at_, x.sy, x.es_, (nks_ren ks).symm.trans x.nk, x.nd, x.tr, x.dp, RDs.ren _ _ b x.rd⟩
end
structure Kept (n : Nat) (ρ : Nat → Nat) (h1 h2 : VH) : Prop where
  lo : ∀ k, k < n → ρ k = k
  hi : ∀ k, n ≤ k → n ≤ ρ k
  lt : ∀ i, i < h2.length → ρ i < h1.length
  inj : ∀ i j, i < h2.length → j < h2.length → ρ i = ρ j → i = j
  ob : ∀ i o, h2[i]? = some o → h1[ρ i]? = some (renO ρ o) ∧ bndO h2.length o = true
  le : n ≤ h2.length
theorem Sim.kept {K : PySem.W.Frag} {g : Gc} {m : Nat → Addr} {h1 h2 : VH} {H : Hp} {n : Nat} {ρ : Nat → Nat} (k : Kept n ρ h1 h2) (s : Sim K g m h1 H) : Sim K g (fun i => m (ρ i)) h2 H :=
  ⟨fun i j hi hj e => k.inj i j hi hj (s.inj _ _ (k.lt i hi) (k.lt j hj) e), fun i o hi => RO.ren o (k.ob i o hi).2 (s.obj _ _ (k.ob i o hi).1), s.tab⟩
inductive Cl (n : Nat) : Out D → Out D → Prop
  | ok {ρ : Nat → Nat} {d : D} {h1 h2 : VH} : Kept n ρ h1 h2 → bnd h2.length d = true → Cl n (.ok (ren ρ d) h1) (.ok d h2)
  | err {ρ : Nat → Nat} {c : Nat} {p : Option D} {h1 h2 : VH} : Kept n ρ h1 h2 → (p.all fun d => bnd h2.length d) = true → Cl n (.err c (p.map (ren ρ)) h1) (.err c p h2)
  | bad {o : Out D} : Cl n o .bad
theorem Ext.kept {m m' : Nat → Addr} {H H' : Hp} {h1 h2 : VH} {n : Nat} {ρ : Nat → Nat} (k : Kept n ρ h1 h2) (e : Ext m n H m' h1.length H') : Ext m n H (fun i => m' (ρ i)) h2.length H' :=
  ⟨k.le, fun i hi => by
    show m' (ρ i) = m i
    rw [k.lo i hi]
    exact e.eq i hi, e.im, e.fr, fun i h1 h2 => e.nw _ (k.hi i h1) (k.lt i h2), e.al⟩
theorem Gd.cl {K : PySem.W.Frag} {g : Gc} {W : Value → Option Addr → Hp → Prop} {m : Nat → Addr} {n : Nat} {H : Hp} {Q : VK} {o1 o2 : Out D} (c : Cl n o1 o2) (q : GoodE K g W m n H Q o2) : GoodE K g W m n H Q o1 := by
  cases c with
  | ok k b => exact fun m' H' e s v r => q _ H' (e.kept k) (s.kept k) v (RD.ren _ _ b r)
  | err k b =>
    rename_i p h1 h2
    intro m' H' cls dd e s rx
    refine q _ H' cls dd (e.kept k) (s.kept k) ?_
    obtain ⟨C, hC, e1, e2, e3⟩ := rx
    refine ⟨C, hC, e1, fun d hd => ?_, fun hp => e3 (by rw [hp]; rfl)⟩
    subst hd
    obtain ⟨a, v, e4, e5, e6⟩ := e2 _ rfl
    exact ⟨a, v, e4, e5, RD.ren _ _ b e6⟩
  | bad => exact q.elim
def wf (h : VH) : Prop := ∀ o ∈ h, bndO h.length o = true
section
variable {K : PySem.W.Frag} {m : Nat → Addr} {n : Nat} {H : Hp}
mutual
theorem RD.bnd : ∀ (d : D) (v : V), RD K m n H d v → FL.bnd n d = true
  | .non, _, _ => rfl
  | .bl _, _, _ => rfl
  | .int _, _, _ => rfl
  | .str _, _, _ => rfl
  | .tup xs, _, h => by
    cases h with
    | tup h1 h2 => unfold FL.bnd; exact RDs.bnds xs _ h2
  | .fls xs, _, h => by
    cases h with
    | fls h1 h2 => unfold FL.bnd; exact RDs.bnds xs _ h2
  | .fdc ks xs, _, h => by
    cases h with
    | fdc h1 h2 h3 h4 => unfold FL.bnd; exact RDs.bnds xs _ h4
  | .ref k, _, h => by
    cases h with
    | ref hk => unfold FL.bnd; exact decide_eq_true hk
  | .ty _, _, _ => rfl
  | .adr _, _, _ => rfl
  | .clo L xs, _, h => by
    cases h with
    | clo h1 h2 h3 h4 => unfold FL.bnd; exact RDs.bnds xs _ h4
theorem RDs.bnds : ∀ (d : List D) (v : List V), RDs K m n H d v → FL.bnds n d = true
  | [], _, _ => rfl
  | x :: xs, _, h => by
    cases h with
    | cons h1 h2 =>
      unfold FL.bnds
      rw [RD.bnd x _ h1, RDs.bnds xs _ h2] <;> rfl
end
theorem RKs.bnds : ∀ {d : List (D × D)} {v : List (Key × V)}, RKs K m n H d v → (d.all fun p => FL.bnd n p.2) = true
  | _, _, .nil => rfl
  | _, _, .cons h0 h1 h2 => by
    rw [List.all_cons, RD.bnd _ _ h1, RKs.bnds h2] <;> rfl
theorem RFs.bnds : ∀ {d : List (Str × D)} {v : List (Str × V)}, RFs K m n H d v → (d.all fun p => FL.bnd n p.2) = true
  | _, _, .nil => rfl
  | _, _, .cons h1 h2 => by
    rw [List.all_cons, RD.bnd _ _ h1, RFs.bnds h2] <;> rfl
theorem RO.bnd {g : Gc} {a : Addr} : ∀ {o : O}, RO K g m n H a o → bndO n o = true
  | .lst xs, ⟨vs, h1, h2⟩ => RDs.bnds _ _ h2
  | .dct kvs, ⟨vs, h1, h2⟩ => RKs.bnds h2
  | .ins c fs, ⟨C, dx, vs, h0, h1, h2⟩ => RFs.bnds h2
  | .fdk kvs, ⟨o, vs, h1, h2⟩ => RKs.bnds h2
  | .nkd ks, ⟨es, ep, xs, x⟩ => RDs.bnds _ _ x.rd
theorem Sim.wf {g : Gc} {h : VH} (s : Sim K g m h H) : wf h := fun o ho => by
  obtain ⟨i, hi⟩ := List.getElem?_of_mem ho
  exact (s.obj i o hi).bnd
end
theorem Df.cln {P : Program} {w : World} {K : PySem.W.Frag} {mg : Str → Option Value} {base : Heap} {g : Gc} {k : Nat} {x : Str} {F F' : List D → VH → Out D} (d : Df P w K mg base g k x F) (h : ∀ xs h, wf h → bnds h.length xs = true → Cl h.length (F xs h) (F' xs h)) : Df P w K mg base g k x F' :=
  d.imp fun vs H Q E ⟨m, vh, xs, s, r, q⟩ => ⟨m, vh, xs, s, r, Gd.cl (h xs vh s.wf (RDs.bnds _ _ r)) q⟩
mutual
theorem bnd.mono {n n' : Nat} (hn : n ≤ n') : ∀ d : D, bnd n d = true → bnd n' d = true
  | .ref k, h => by
    unfold bnd at h ⊢
    exact decide_eq_true (Nat.lt_of_lt_of_le (of_decide_eq_true h) hn)
  | .tup xs, h => by unfold bnd at h ⊢; exact bnds.mono hn xs h
  | .fls xs, h => by unfold bnd at h ⊢; exact bnds.mono hn xs h
  | .fdc ks xs, h => by unfold bnd at h ⊢; exact bnds.mono hn xs h
  | .clo L xs, h => by unfold bnd at h ⊢; exact bnds.mono hn xs h
  | .non, _ => rfl
  | .bl _, _ => rfl
  | .int _, _ => rfl
  | .str _, _ => rfl
  | .ty _, _ => rfl
  | .adr _, _ => rfl
theorem bnds.mono {n n' : Nat} (hn : n ≤ n') : ∀ d : List D, bnds n d = true → bnds n' d = true
  | [], _ => rfl
  | x :: xs, h => by
    unfold bnds at h ⊢
    rw [Bool.and_eq_true] at h
    rw [bnd.mono hn x h.1, bnds.mono hn xs h.2] <;> rfl
theorem ren.id {n : Nat} {ρ : Nat → Nat} (hr : ∀ k, k < n → ρ k = k) : ∀ d : D, bnd n d = true → ren ρ d = d
  | .ref k, h => by
    unfold bnd at h
    unfold ren
    rw [hr k (of_decide_eq_true h)]
  | .tup xs, h => by unfold bnd at h; unfold ren; rw [rens.id hr xs h]
  | .fls xs, h => by unfold bnd at h; unfold ren; rw [rens.id hr xs h]
  | .fdc ks xs, h => by unfold bnd at h; unfold ren; rw [rens.id hr xs h]
  | .clo L xs, h => by unfold bnd at h; unfold ren; rw [rens.id hr xs h]
  | .non, _ => rfl
  | .bl _, _ => rfl
  | .int _, _ => rfl
  | .str _, _ => rfl
  | .ty _, _ => rfl
  | .adr _, _ => rfl
theorem rens.id {n : Nat} {ρ : Nat → Nat} (hr : ∀ k, k < n → ρ k = k) : ∀ d : List D, bnds n d = true → rens ρ d = d
  | [], _ => rfl
  | x :: xs, h => by
    unfold bnds at h
    rw [Bool.and_eq_true] at h
    unfold rens
    rw [ren.id hr x h.1, rens.id hr xs h.2]
end
theorem renO.id {n : Nat} {ρ : Nat → Nat} (hr : ∀ k, k < n → ρ k = k) : ∀ o : O, bndO n o = true → renO ρ o = o
  | .lst xs, h => by
    show O.lst (rens ρ xs) = _
    rw [rens.id hr xs h]
  | .dct kvs, h => by
    show O.dct (kvs.map fun p => (p.1, ren ρ p.2)) = _
    congr 1
    refine (List.map_congr_left fun p hp => ?_).trans (List.map_id _)
    rw [ren.id hr p.2 (List.all_eq_true.mp h p hp)] <;> rfl
  | .ins c kvs, h => by
    show O.ins c (kvs.map fun p => (p.1, ren ρ p.2)) = _
    congr 1
    refine (List.map_congr_left fun p hp => ?_).trans (List.map_id _)
    rw [ren.id hr p.2 (List.all_eq_true.mp h p hp)] <;> rfl
  | .fdk kvs, h => by
    show O.fdk (kvs.map fun p => (p.1, ren ρ p.2)) = _
    congr 1
    refine (List.map_congr_left fun p hp => ?_).trans (List.map_id _)
    rw [ren.id hr p.2 (List.all_eq_true.mp h p hp)] <;> rfl
  | .nkd ks, h => by
    show O.nkd (rens ρ ks) = _
    rw [rens.id hr ks h]
theorem Kept.cut {n : Nat} {h g : VH} (hn : n ≤ h.length) (w : wf h) : Kept n _root_.id (h ++ g) h :=
  ⟨fun _ _ => rfl, fun _ h => h, fun i hi => by simp; omega, fun _ _ _ _ e => e, fun i o hi => by
    have hl := (List.getElem?_eq_some_iff.mp hi).1
    have b := w o (List.mem_of_getElem? hi)
    refine ⟨?_, b⟩
    have e : renO _root_.id o = o := renO.id (n := h.length) (fun _ _ => rfl) o b
    rw [e]
    exact (List.getElem?_append_left hl).trans hi, hn⟩
theorem Cl.v {h g : VH} {d : D} (w : wf h) (b : bnd h.length d = true) : Cl h.length (.ok d (h ++ g)) (.ok d h) := by
  have e : ren _root_.id d = d := ren.id (n := h.length) (fun _ _ => rfl) d b
  have q : Cl h.length (.ok (ren _root_.id d) (h ++ g)) (.ok d h) := .ok (Kept.cut (Nat.le_refl _) w) b
  rw [e] at q
  exact q
theorem Cl.e {h g : VH} {c : Nat} (w : wf h) : Cl h.length (.err c none (h ++ g)) (.err c none h) := .err (p := none) (ρ := _root_.id) (Kept.cut (Nat.le_refl _) w) rfl
theorem Cl.o {h g : VH} {j : Nat} {o : O} (w : wf h) (hj : g[j]? = some o) (b : bndO h.length o = true) : Cl h.length (.ok (.ref (h.length + j)) (h ++ g)) (.ok (.ref h.length) (h ++ [o])) := by
  let ρ : Nat → Nat := fun k => if k = h.length then h.length + j else k
  have r1 : ∀ k, k < h.length → ρ k = k := fun k hk => if_neg (Nat.ne_of_lt hk)
  have r2 : ρ h.length = h.length + j := if_pos rfl
  have hjl : j < g.length := (List.getElem?_eq_some_iff.mp hj).1
  have bO : ∀ o' : O, bndO h.length o' = true → bndO (h.length + 1) o' = true := fun o' b' => by
    cases o' with
    | lst xs => exact bnds.mono (Nat.le_succ _) _ b'
    | dct kvs => exact List.all_eq_true.mpr fun p hp => bnd.mono (Nat.le_succ _) _ (List.all_eq_true.mp b' p hp)
    | ins c kvs => exact List.all_eq_true.mpr fun p hp => bnd.mono (Nat.le_succ _) _ (List.all_eq_true.mp b' p hp)
    | fdk kvs => exact List.all_eq_true.mpr fun p hp => bnd.mono (Nat.le_succ _) _ (List.all_eq_true.mp b' p hp)
    | nkd ks => exact bnds.mono (Nat.le_succ _) _ b'
  have k : Kept h.length ρ (h ++ g) (h ++ [o]) := by
    refine ⟨r1, fun i hi => ?_, fun i hi => ?_, fun a c ha hc e => ?_, fun i u hi => ?_, by simp⟩
    · show h.length ≤ if i = h.length then h.length + j else i
      split <;> omega
    · rw [List.length_append]
      have hi' : i < h.length + 1 := by simpa using hi
      by_cases hh : i = h.length
      · rw [hh, r2]; omega
      · rw [r1 i (by omega)]; omega
    · have ha' : a < h.length + 1 := by simpa using ha
      have hc' : c < h.length + 1 := by simpa using hc
      by_cases h1 : a = h.length
      · by_cases h2 : c = h.length
        · rw [h1, h2]
        · rw [h1, r2, r1 c (by omega)] at e; omega
      · by_cases h2 : c = h.length
        · rw [h2, r2, r1 a (by omega)] at e; omega
        · rw [r1 a (by omega), r1 c (by omega)] at e; exact e
    · rw [List.length_append, List.length_singleton]
      by_cases hh : i < h.length
      · rw [List.getElem?_append_left hh] at hi
        have b' := w u (List.mem_of_getElem? hi)
        refine ⟨?_, bO u b'⟩
        rw [r1 i hh, List.getElem?_append_left hh, renO.id r1 u b']
        exact hi
      · have hl := (List.getElem?_eq_some_iff.mp hi).1
        have hi2 : i = h.length := by
          have : i < h.length + 1 := by simpa using hl
          omega
        subst hi2
        simp at hi
        subst hi
        refine ⟨?_, bO o b⟩
        rw [r2, List.getElem?_append_right (by omega), Nat.add_sub_cancel_left, hj, renO.id r1 o b]
  have q : Cl h.length (.ok (ren ρ (.ref h.length)) (h ++ g)) (.ok (.ref h.length) (h ++ [o])) := .ok k (by unfold bnd; simp)
  unfold ren at q
  rw [r2] at q
  exact q
end FL
set_option Elab.async false
set_option linter.all false
set_option maxRecDepth 100000
set_option maxHeartbeats 2000000
namespace FL
open PySem PySem.Spec PyProof.Rows L2
structure Er (K : PySem.W.Frag) (mg : Str → Option Value) (g : Gc) (c : Nat) (x : Str) : Prop where
  ex : ∃ C, g.cs[c]? = some C ∧ mg x = some (.ref C) ∧ PySem.W.keepIn K (.ref C) = true ∧ PySem.W.excIn K C [.type "ValueError", .type "Exception", .type "BaseException", .type "object"] "ValueError.__new__" = true ∧
    PySem.W.subIn K (.ref C) (.type "BaseException") = some true ∧ PySem.W.typeIn K (.ref C) = some (.type "type")
section
variable {X : Cx} {g : Gc} {W : WX} {a b e : Expr} {es : List Expr} {fa fb fc : FE} {r : FA} {pos : Pos}
theorem fs_raise {c : Nat} {x mm : Str} {j : Nat} {p p2 pos2 : Pos} (er : Er X.K X.mg g c x) (hc : X.calm = true) (tk : Takes X W) (hg : Gl X x := by rfl) (hdb : (x == ("__debug__" : Str)) = false := by decide) :
    PS X (.Raise (some (.Call (.Name x p) [.Constant (.str mm) j p2] [] pos)) none pos2) (rs X.K g W (sRaise c)) := by
  obtain ⟨C, h1, h2, h3, h4, h5, h6⟩ := er.ex
  refine ps_weak (ps_raise hc tk (pmk_own PySem.F.excBase_ValueError h4 h2 h3 (raises_own h5 h6) hg hdb)) ?_
  rintro D σ H ⟨δ, m, h, r, s, q⟩
  exact q m H σ _ none Ext.refl s r ⟨C, h1, rfl, fun d z => by simp at z, fun _ => rfl⟩
def Subs (K : PySem.W.Frag) (g : Gc) (sub : Nat → Nat → Bool) : Prop := ∀ (c k : Nat) (C CS : Addr), g.cs[c]? = some C → g.cs[k]? = some CS → PySem.W.exmOne K (.ref C) (.ref CS) = some (sub c k)
def tellH (sub : Nat → Nat → Bool) (c : Nat) (h : VH) : List (Nat × List Nat) → Out FL.D
  | [] => .bad
  | (k, s) :: r => if sub c k = true then .ok (.str s) h else tellH sub c h r
def eTold (sub : Nat → Nat → Bool) (l : List (Nat × List Nat)) (f : FE) : FE := fun δ h => match f δ h with
  | .ok d h => .ok d h
  | .err c _ h => tellH sub c h l
  | .bad => .bad
theorem Ext_of {K : PySem.W.Frag} {m : Nat → Addr} {h : VH} {H H1 : Hp} (s : Sim K g m h H) (e : LamX.ExtN H H1) (t : LamX.Tabs g.T H1) : Ext m h.length H m h.length H1 ∧ Sim K g m h H1 := by
  have im : Imm H H1 := ⟨fun a xs z => e a _ z (fun ps q => by cases q), fun a o u z => e a _ z (fun ps q => by cases q), fun a q z => e a _ z (fun ps y => LamX.codeO_ne ps y)⟩
  refine ⟨⟨Nat.le_refl _, fun _ _ => rfl, im, fun a o _ z hf => e a o z (fun ps q => by rw [q] at hf; exact hf), fun k h1 h2 => by omega, fun a z => by
    cases ha : H a with
    | none => trivial
    | some o =>
      by_cases ht : ∃ ps, o = .tbl ps
      · obtain ⟨ps, rfl⟩ := ht
        trivial
      · rw [e a o ha (fun ps q => ht ⟨ps, q⟩)] at z
        exact z⟩, ⟨s.inj, fun i o hi => ?_, t⟩⟩
  have hl := (List.getElem?_eq_some_iff.mp hi).1
  have ro := s.obj i o hi
  have q : ∀ {u : HO}, (∀ ps, u ≠ .tbl ps) → H (m i) = some u → H1 (m i) = some u := fun n z => e _ _ z n
  cases o with
  | lst xs =>
    obtain ⟨vs, a1, a2⟩ := ro
    exact ⟨vs, q (fun ps z => by cases z) a1, RDs.mono (Nat.le_refl _) (fun _ _ => rfl) im _ _ a2⟩
  | dct kvs =>
    obtain ⟨vs, a1, a2⟩ := ro
    exact ⟨vs, q (fun ps z => by cases z) a1, a2.mono (Nat.le_refl _) (fun _ _ => rfl) im⟩
  | ins c fs =>
    obtain ⟨C, dx, vs, a0, a1, a2⟩ := ro
    exact ⟨C, dx, vs, a0, q (fun ps z => by cases z) a1, a2.mono (Nat.le_refl _) (fun _ _ => rfl) im⟩
  | fdk kvs =>
    obtain ⟨o, vs, a1, a2⟩ := ro
    exact ⟨o, vs, q (fun ps z => by cases z) a1, a2.mono (Nat.le_refl _) (fun _ _ => rfl) im⟩
  | nkd ks =>
    obtain ⟨es, ep, xs, x⟩ := ro
    exact ⟨es, ep, xs, q (fun ps z => by unfold RawD at z; cases z) x.at_, x.sy, x.es_, x.nk, x.nd, x.tr, x.dp, RDs.mono (Nat.le_refl _) (fun _ _ => rfl) im _ _ x.rd⟩
def tyN (x : FL.D) (h : VH) : Option String := match x with
  | .non => some "NoneType"
  | .bl _ => some "bool"
  | .int _ => some "int"
  | .str _ => some "str"
  | .tup _ => some "tuple"
  | .fls _ => some "list"
  | .fdc _ _ => some "dict"
  | .ref k => match h[k]? with
    | some (.lst _) => some "list"
    | some (.dct _) => some "dict"
    | _ => none
  | _ => none
def isiN (a b : String) : Option Bool := if a ∈ ["NoneType", "bool", "int", "str", "tuple", "list", "dict"] ∧ b ∈ ["bool", "int", "str", "tuple", "list", "dict"] then some (a == b || (a == "bool" && b == "int")) else none
theorem isiN_kit {a b : String} {r : Bool} (h : isiN a b = some r) : kitB a b = some r := by
  unfold isiN at h
  split at h
  · rename_i hc
    obtain ⟨h1, h2⟩ := hc
    simp only [List.mem_cons, List.not_mem_nil, or_false] at h1 h2
    rcases h1 with rfl | rfl | rfl | rfl | rfl | rfl | rfl <;> rcases h2 with rfl | rfl | rfl | rfl | rfl | rfl <;> (cases h; decide +kernel)
  · cases h
def bIsi : List FL.D → VH → Option (FL.D × VH)
  | [x, .ty n], h => match tyN x h with
    | some t => match isiN t n with
      | some b => some (.bl b, h)
      | none => none
    | none => none
  | _, _ => none
theorem tyX_of {K : PySem.W.Frag} {m : Nat → Addr} {h : VH} {H : Hp} {x : FL.D} {v : V} {t : String} (s : Sim K g m h H) (r : RD K m h.length H x v) (e : tyN x h = some t) : TyX K H v (.type t) := by
  cases r with
  | non => cases e; exact .base .non
  | bl b => cases e; exact .base (.bl b)
  | int i => cases e; exact .base (.int i)
  | str hl => cases e; exact .base (.str _)
  | tup h1 h2 =>
    cases e
    rcases h1 with ⟨o, h1, _⟩ | ⟨o, its, n, h1, h2, _⟩
    · exact .fTuple h1
    · exact .kTuple h1 h2
  | fls h1 h2 =>
    cases e
    rcases h1 with ⟨o, h1⟩ | ⟨o, its, n, h1, h2, _⟩
    · exact .base (.frz h1)
    · exact .kList h1 h2
  | fdc h1 _ _ _ => cases e; exact .fDict h1
  | ref hk =>
    simp only [tyN] at e
    split at e
    · rename_i xs hx
      cases e
      obtain ⟨_, vs, a1, _⟩ := s.lst hx
      exact .base (.lst a1)
    · rename_i xs hx
      cases e
      obtain ⟨vs, a1, _⟩ := s.obj _ _ hx
      exact .base (.dK a1)
    · cases e
  | ty _ => cases e
  | adr _ => cases e
  | clo _ _ _ _ => cases e
theorem cr_isi : CallR X (.builtin "isinstance") (rB X.K g bIsi) := callr_weak call_isi (by
  rintro vs H Q ⟨m, h, xs, s, rs, q⟩
  unfold bIsi at q
  split at q
  · rename_i x n
    obtain ⟨v, w, rfl, r1, r2⟩ := rds2 rs
    cases r2
    split at q
    · rename_i t ht
      split at q
      · rename_i b hb
        exact ⟨v, .ty n, .type t, .type n, b, rfl, .ty n, tyX_of s r1 ht, kit_ty (isiN_kit hb), q m H _ Ext.refl s (.bl b)⟩
      · exact q.elim
    · exact q.elim
  · exact q.elim)
theorem fe_ty {x : Str} {n : String} {pos : Pos} (hm : X.mg x = none) (hg : Gl X x := by rfl) (hv : bootBuiltins x = some (.type n) := by decide +kernel) (hn : x ≠ "__name__" := by decide) (hd : (x == ("__debug__" : Str)) = false := by decide) : PE X (.Name x pos) (rd X.K g W (eC (.ty n))) :=
  pe_weak (pe_bltn (v := .ty n) hg hm hv rfl hn hd) (rd_c fun _ _ _ => .ty n)
def oNeg : Op1
  | .int i, h => some (.int (-i), h)
  | _, _ => none
theorem fe_neg (ha : PE X a (rd X.K g W fa)) : PE X (.UnaryOp .USub a pos) (rd X.K g W (e1 oNeg fa)) := pe_weak (pe_un un_neg ha) (by
  rintro σ H Q ⟨δ, m, h, r, s, q⟩
  refine ⟨δ, m, h, r, s, Gd.bind q fun x h1 m1 H1 e1 s1 q1 v r1 => ?_⟩
  cases r1 with
  | int i => exact ⟨i, rfl, q1 m1 H1 Ext.refl s1 _ (.int _)⟩
  | _ => exact q1.elim)
def eDct : FE := fun _ h => .ok (.ref h.length) (h ++ [.dct []])
theorem Sim.alloc_dct {K : PySem.W.Frag} {m : Nat → Addr} {h : VH} {H : Hp} (s : Sim K g m h H) {p : Addr} (hp : H p = none) :
    ∃ m', Ext m h.length H m' (h ++ [O.dct []]).length (upd H p (.dK [])) ∧ Sim K g m' (h ++ [O.dct []]) (upd H p (.dK [])) ∧ RD K m' (h ++ [O.dct []]).length (upd H p (.dK [])) (.ref h.length) (.ref p) :=
  s.alloc hp fun m' hm => ⟨[], upd_same, .nil⟩
theorem fe_dct : PE X (.Dict [] [] pos) (rd X.K g W eDct) := pe_weak pe_dnewK (by
  rintro σ H Q ⟨δ, m, h, r, s, q⟩ p hp
  obtain ⟨m2, e2, s2, r2⟩ := s.alloc_dct hp
  exact q m2 _ e2 s2 _ r2)
def sPar3 (i j l : Nat) (r : FA) : FSt := fun δ h => thenS δ (r δ h) fun xs h => match xs with
  | [x, y, z] => .nx (((δ.set i (some x)).set j (some y)).set l (some z)) h
  | _ => .bad
end
end FL
set_option Elab.async false
set_option linter.all false
set_option maxRecDepth 100000
set_option maxHeartbeats 2000000
namespace FL
open PySem PySem.Spec PyProof.Rows L2
section
variable {K : PySem.W.Frag} {m : Nat → Addr} {n : Nat} {H : Hp}
def StD (K : PySem.W.Frag) (m : Nat → Addr) (n : Nat) (H : Hp) (v : Value) (b : FL.D × PyData) : Prop := ∃ y, RelV y v ∧ RD K m n H b.1 y
theorem each_rds : ∀ {out : List Value} {bs : List (FL.D × PyData)}, PySem.W.EachIs (StD K m n H) out bs → ∃ ys, Vals ys out ∧ RDs K m n H (bs.map (·.1)) ys
  | _, _, .nil => ⟨[], .nil, .nil⟩
  | _, _, .cons ⟨y, h1, h2⟩ t => by
    obtain ⟨ys, h3, h4⟩ := each_rds t
    exact ⟨y :: ys, .cons h1 h3, .cons h2 h4⟩
theorem each_std : ∀ {xs : List FL.D} {vs : List V} {us : List Value} {l : List PyData}, RDs K m n H xs vs → Vals vs us → l.length = xs.length → PySem.W.EachIs (StD K m n H) us (xs.zip l)
  | _, _, _, l, .nil, .nil, hl => by
    cases l with
    | nil => exact .nil
    | cons _ _ => simp at hl
  | _, _, _, l, .cons r1 r2, .cons h1 h2, hl => by
    cases l with
    | nil => simp at hl
    | cons a l => exact .cons ⟨_, h1, r1⟩ (each_std r2 h2 (by simpa using hl))
theorem allS_len {α β : Type} {f : α → Option β} : ∀ {xs : List α} {l : List β}, allS (xs.map f) = some l → l.length = xs.length
  | [], l, e => by
    simp only [List.map_nil, allS, Option.some.injEq] at e
    subst e
    rfl
  | x :: xs, l, e => by
    rw [List.map_cons] at e
    obtain ⟨a, l', e1, e2, rfl⟩ := allS_cons e
    rw [List.length_cons, List.length_cons, allS_len e2]
theorem zip_snd {α β : Type} : ∀ {xs : List α} {l : List β}, l.length = xs.length → (xs.zip l).map (·.2) = l
  | [], [], _ => rfl
  | [], _ :: _, h => by simp at h
  | _ :: _, [], h => by simp at h
  | x :: xs, a :: l, h => by
    rw [List.zip_cons_cons, List.map_cons, zip_snd (by simpa using h)]
theorem alikes_all {l : List PyData} (h : alikes l = true) : PySem.W.AllAlike l := fun d hd e he => by
  unfold alikes at h
  exact List.all_eq_true.mp (List.all_eq_true.mp h d hd) e he
theorem sortable_of {l : List PyData} (h : sortable l = true) : PySem.W.Sortable l := by
  unfold sortable at h
  rw [Bool.or_eq_true] at h
  rcases h with h | h
  · refine .inl fun d hd => ?_
    have z := List.all_eq_true.mp h d hd
    unfold isTupC at z
    split at z
    · exact ⟨_, _, rfl⟩
    · cases z
  · refine .inr fun d hd => ?_
    have z := List.all_eq_true.mp h d hd
    unfold isFlat at z
    refine ⟨fun e => ?_, fun xs e => ?_⟩
    · subst e; cases z
    · subst e; cases z
end
section
variable {X : Cx} {g : Gc}
theorem each_read {m : Nat → Addr} {h : VH} {H : Hp} {pins : List (Addr × Obj)} {σ : L2.St} {s : Shared} (I : Inv X pins σ H s) (sm : Sim X.K g m h H) : ∀ {xs : List FL.D} {vs : List V} {us : List Value} {l : List PyData}, RDs X.K m h.length H xs vs → Vals vs us → allS (xs.map (toP deep h)) = some l →
    PySem.W.EachIs (fun v (b : FL.D × PyData) => ∃ as, Reads s.heap v b.2 as) us (xs.zip l) ∧ ∀ b ∈ xs.zip l, b.2.depth ≤ deep
  | _, _, _, l, .nil, .nil, e => by
    simp only [List.map_nil, allS, Option.some.injEq] at e
    subst e
    exact ⟨.nil, fun b hb => by simp at hb⟩
  | _, _, _, l, .cons r1 r2, .cons h1 h2, e => by
    rw [List.map_cons] at e
    obtain ⟨a, l', e1, e2, rfl⟩ := allS_cons e
    obtain ⟨k1, k2⟩ := each_read I sm r2 h2 e2
    obtain ⟨d1, _, d3⟩ := dp_of sm deep _ _ a r1 e1
    refine ⟨.cons (d1.reads I _ _ _ h1) k1, fun b hb => ?_⟩
    rw [List.zip_cons_cons] at hb
    rcases List.mem_cons.mp hb with rfl | hb
    · exact d3
    · exact k2 b hb
theorem sort_rds {m : Nat → Addr} {n : Nat} {H : Hp} {out : List Value} {bs : List (FL.D × PyData)} (e : PySem.W.EachIs (StD X.K m n H) out (bs.mergeSort (PySem.W.dataLe false (·.2)))) : ∃ ys, Vals ys out ∧ RDs X.K m n H (sortD bs) ys := each_rds e
end
end FL
set_option Elab.async false
set_option linter.all false
set_option maxRecDepth 100000
set_option maxHeartbeats 2000000
namespace FL
open PySem PySem.Spec PyProof.Rows L2
theorem u1 {k : Nat} {A : Around} (r : Room k A) : A.units + 1 < cLine := by have := r.un; omega
theorem u64 {k : Nat} {A : Around} (r : Room k A) : A.units + 64 < cLine := by have := r.un; omega
theorem u65 {k : Nat} {A : Around} (r : Room k A) : A.units + 65 < cLine := by have := r.un; omega
theorem cst_mk {K : PySem.W.Frag} {mg : Str → Option Value} {x : Str} {d : FL.D} {v : V} {u : Value} (hm : mg x = some u) (r : RelV v u) (c : IsC K d v) : Cst K mg x d := ⟨⟨v, u, hm, r, c⟩⟩
inductive KV0 (K : PySem.W.Frag) : FL.D → Value → Prop
  | int (i : Int) (t : Tok) : KV0 K (.int i) (.int i t)
  | str {x : Str} {l : List Nat} {t : Tok} : x.cps.toList = l → okS l = true → KV0 K (.str l) (.str x t)
  | bl (b : Bool) : KV0 K (.bl b) (.bool b)
  | non : KV0 K .non .none
inductive KVs (K : PySem.W.Frag) : List FL.D → List Value → Prop
  | nil : KVs K [] []
  | cons {d : FL.D} {u : Value} {ds : List FL.D} {us : List Value} (h : ∃ v, RelV v u ∧ IsC K d v) (t : KVs K ds us) : KVs K (d :: ds) (u :: us)
theorem KV0.ex {K : PySem.W.Frag} {d : FL.D} {u : Value} (h : KV0 K d u) : ∃ v, RelV v u ∧ IsC K d v := by
  cases h with
  | int i t => exact ⟨.int i, ⟨t, rfl⟩, fun _ _ _ => .int i⟩
  | str hl ho => exact ⟨.str _, ⟨_, rfl⟩, isC_str hl ho⟩
  | bl b => exact ⟨.bl b, rfl, fun _ _ _ => .bl b⟩
  | non => exact ⟨.non, rfl, fun _ _ _ => .non⟩
theorem KVs.all {K : PySem.W.Frag} : ∀ {ds : List FL.D} {us : List Value}, KVs K ds us → ∃ vs, Vals vs us ∧ ∀ m n H, RDs K m n H ds vs
  | _, _, .nil => ⟨[], .nil, fun _ _ _ => .nil⟩
  | _, _, .cons ⟨v, h1, h2⟩ t => by
    obtain ⟨vs, h3, h4⟩ := KVs.all t
    exact ⟨v :: vs, .cons h1 h3, fun m n H => .cons (h2 m n H) (h4 m n H)⟩
theorem kv_tup {K : PySem.W.Frag} {a : Addr} {ds : List FL.D} {its : Array Value} {n : Nat} {sl : Array (Option Value)} (l : K.lookup a = some ⟨.type "tuple", none, .seq its n, sl⟩) (h : KVs K ds its.toList) (hz : its.size ≤ 1000) : ∃ v, RelV v (.ref a) ∧ IsC K (.tup ds) v := by
  obtain ⟨vs, h1, h2⟩ := h.all
  refine ⟨.ref a, rfl, fun m n H => .tup (.inr ⟨_, its, _, l, rfl, rfl, rfl, ?_, h1⟩) (h2 m n H)⟩
  rw [sizeLine_eq]
  omega
theorem cst_of {K : PySem.W.Frag} {mg : Str → Option Value} {x : Str} {d : FL.D} {u : Value} (hm : mg x = some u) (h : ∃ v, RelV v u ∧ IsC K d v) : Cst K mg x d := by
  obtain ⟨v, h1, h2⟩ := h
  exact cst_mk hm h1 h2
section
variable {P : Program} {w : World} {K : PySem.W.Frag} {mg : Str → Option Value} {base : Heap}
theorem tkF {N : List Str} {x : Str} {sc : Scope} {f : Addr} {cdv : Value} {A : Around} {outer : List Env} {s : Shared} {H : Hp} {E : XK} : Takes (cxOf (L2.CX P w) P w K mg base N x sc f cdv A outer s H E) (fun c d _ H' => E c d H') := takes_of rfl rfl rfl rfl
theorem poF {N : List Str} {x : Str} {sc : Scope} {f : Addr} {cdv : Value} {A : Around} {outer : List Env} {s : Shared} {H : Hp} {E : XK} : PassesOwn (model P w) (cxOf (L2.CX P w) P w K mg base N x sc f cdv A outer s H E).A (cxOf (L2.CX P w) P w K mg base N x sc f cdv A outer s H E).env (cxOf (L2.CX P w) P w K mg base N x sc f cdv A outer s H E).xe := passes_of rfl
theorem tkL {X : Cx} {A : Around} {outer : List Env} {s : Shared} {H : Hp} {E : XK} {scope : Scope} {f c' : Addr} : Takes (LamX.lamCx X A outer s H E scope f c') (fun c d _ H' => E c d H') := takes_of rfl rfl rfl rfl
end
def blkC (N : List Str) (sc scope : Scope) (own : List (Str × Nat)) : Bool :=
  decide (scope.kind = .function) && (scope.names.all fun y => decide (scope.names.lookup y.1 = some y.2)) && (own.all fun p => decide (N[p.2]? = some p.1)) &&
  (scope.names.all fun y => !decide (y.2 = .free) || decide (sc.names.lookup y.1 = some .cell) || decide (sc.names.lookup y.1 = some .free)) &&
  (scope.names.all fun y => !(decide (y.2 = .local) || decide (y.2 = .cell)) || decide (y.1 ∈ own.map (·.1)) || !decide (y.1 ∈ N))
theorem blk_by {N : List Str} {sc scope : Scope} {own : List (Str × Nat)} (h : blkC N sc scope own = true) : BlkOk N sc scope own := by
  unfold blkC at h
  simp only [Bool.and_eq_true, Bool.or_eq_true, Bool.not_eq_true', decide_eq_true_eq, decide_eq_false_iff_not, List.all_eq_true, Bool.or_eq_false_iff] at h
  obtain ⟨⟨⟨⟨h1, h2⟩, h3⟩, h4⟩, h5⟩ := h
  refine ⟨h1, h2, h3, fun y hy e => ?_, fun y hy e => ?_⟩
  · rcases h4 y hy with (z | z) | z
    · exact absurd e z
    · exact .inl z
    · exact .inr z
  · rcases h5 y hy with (z | z) | z
    · exact absurd e (fun q => q.elim z.1 z.2)
    · exact .inl z
    · exact .inr z
def oIadd : Op2 := fun x y h => match x, y with
    | .int _, .int _ => oAdd x y h
    | .str _, .str _ => oAdd x y h
    | _, _ => none
end FL
set_option Elab.async false
set_option linter.all false
set_option maxRecDepth 100000
set_option maxHeartbeats 2000000
namespace FL
open PySem PySem.Spec PyProof.Rows L2
section
variable {P : Program} {w : World} {K : PySem.W.Frag} {mg : Str → Option Value} {base : Heap} {g : Gc} {k : Nat}
theorem mkC {name qual : Str} {f c : Addr} {params : Arguments} {bd : List Stmt} {scope : Scope} {dV kV doc pm ct oc : Value} {an od : Option Addr} {osl : Array (Option Value)} {N ps : List Str} {sb : FSt}
    (lk : K.lookup f = some ⟨oc, od, .func (PySem.W.fnOf name qual params bd scope dV kV doc pm an (.ref c) ct), osl⟩) (hcd : PySem.W.codeIn K (.ref c) qual = true) (S : FnScope N ps scope)
    (body : ∀ (A : Around) (outer : List Env) (s : Shared) (H : Hp) (E : XK), Room k (A.deeper (envOfC qual scope s.heap.objs.size f (.ref c))) →
      PSs (cxOf (L2.CX P w) P w K mg base N qual scope f (.ref c) A outer s H E) bd (rs K g (fun c d _ H' => E c d H') sb)) :
    FnOk P w K mg base (L2.CX P w) (k + 1) f (PySem.W.fnOf name qual params bd scope dV kV doc pm an (.ref c) ct) ps (spF K g (runF ps.length N.length sb)) :=
  fn_of lk hcd S (fun vs H Q E h => spF_len h) fun A outer s H vs Q E hr h => ⟨_, body A outer s H E hr, rs_run h⟩
theorem sqL_cases {H : Hp} {a : Addr} {vs : List V} (h : SqL K H a vs) : H a = some (.lst vs) ∨ Frz K H a vs := by
  rcases h with (h | h) | h
  · exact .inl h
  · exact .inr (.inl h)
  · exact .inr (.inr h)
theorem rds_ints {m : Nat → Addr} {n : Nat} {H : Hp} (ns : List Int) : RDs K m n H (ns.map FL.D.int) (ns.map V.int) := RDs.ints ns
theorem sp_law {F : List FL.D → VH → Out FL.D} {ns : List Int} {H : Hp} {a : Addr} (hT : ∀ p ∈ g.T, H p.1 = some (.tbl #[])) (hS : SqL K H a (ns.map V.int)) (h1 : ∃ h', F [.fls (ns.map FL.D.int)] [] = .ok (.bl true) h') (h2 : ∃ h', F [.ref 0] [.lst (ns.map FL.D.int)] = .ok (.bl true) h') :
    spF K g F [.ref a] H (fun v _ => v = .bl true) fun _ _ _ => False := by
  have tab : LamX.Tabs g.T H := fun p hp => LamX.TabS.nil (hT p hp)
  rcases sqL_cases hS with e | e
  · obtain ⟨h', e2⟩ := h2
    refine ⟨fun _ => a, [.lst (ns.map FL.D.int)], [.ref 0], ⟨fun i j hi hj _ => ?_, fun i o hi => ?_, tab⟩, .cons (.ref (m := fun _ => a) (Nat.lt_succ_self 0)) .nil, ?_⟩
    · simp at hi hj; omega
    · cases i with
      | zero =>
        simp at hi
        subst hi
        exact ⟨_, e, rds_ints ns⟩
      | succ i => simp at hi
    · rw [e2]
      intro m' H' e1 s1 v r
      cases r
      rfl
  · obtain ⟨h', e2⟩ := h1
    refine ⟨fun _ => a, [], [.fls (ns.map FL.D.int)], ⟨fun i j hi hj _ => by simp at hi, fun i o hi => by simp at hi, tab⟩, .cons (.fls e (rds_ints ns)) .nil, ?_⟩
    rw [e2]
    intro m' H' e1 s1 v r
    cases r
    rfl
theorem exm_of {C S : Addr} {b : Bool} (h1 : PySem.W.subIn K (.ref S) (.type "BaseException") = some true) (h2 : PySem.W.isClsIn K S = true) (h3 : PySem.W.typeIn K (.ref S) = some (.type "type")) (h4 : PySem.W.subIn K (.ref C) (.ref S) = some b) : PySem.W.exmOne K (.ref C) (.ref S) = some b := by
  have e1 : (PySem.W.subIn K (.ref S) (.type "BaseException") == some true) = true := by rw [h1] <;> rfl
  have e2 : ((PySem.W.clsIn K S).isSome && PySem.W.typeIn K (.ref S) == some (.type "type")) = true := by
    have h2' : (PySem.W.clsIn K S).isSome = true := h2
    rw [h2', h3] <;> rfl
  show (if (PySem.W.subIn K (.ref S) (.type "BaseException") == some true) = true then (if ((PySem.W.clsIn K S).isSome && PySem.W.typeIn K (.ref S) == some (.type "type")) = true then PySem.W.subIn K (.ref C) (.ref S) else none) else none) = some b
  rw [if_pos e1, if_pos e2]
  exact h4
theorem subs_mk {sub : Nat → Nat → Bool} (h : ∀ C ∈ g.cs, PySem.W.subIn K (.ref C) (.type "BaseException") = some true ∧ PySem.W.isClsIn K C = true ∧ PySem.W.typeIn K (.ref C) = some (.type "type")) (hs : ∀ (i j : Nat) (C D : Addr), g.cs[i]? = some C → g.cs[j]? = some D → PySem.W.subIn K (.ref C) (.ref D) = some (sub i j)) : Subs K g sub :=
  fun c k C CS h1 h2 => exm_of (h CS (List.mem_of_getElem? h2)).1 (h CS (List.mem_of_getElem? h2)).2.1 (h CS (List.mem_of_getElem? h2)).2.2 (hs c k C CS h1 h2)
theorem f_mk {x : Str} {st : Stmt} {f : Addr} {ps : List Str} {oc : Value} {od an : Option Addr} {osl : Array (Option Value)} {kV doc pm cdv ct : Value} (m : mg x = some (.ref f)) (l : K.lookup f = some ⟨oc, od, .func (PySem.W.fnOf x x (defArgs st) (defBody st) (defScope st) .none kV doc pm an cdv ct), osl⟩)
    (c : PySem.W.codeIn K cdv x = true) (k : PySem.W.keepIn K (.ref f) = true) (b : ∀ (kV doc pm : Value) (an : Option Addr) (cdv ct : Value) (us : List Value), us.length = ps.length → bindArgs (PySem.W.fnOf x x (defArgs st) (defBody st) (defScope st) .none kV doc pm an cdv ct) ⟨us, []⟩ = pure (ps.zip us)) :
    ∃ f fd, L2.Fun K x x st f fd ∧ mg x = some (.ref f) ∧ Binds K fd ps [] := ⟨f, _, fun_mk l c k, m, (fun_mk l c k).binds b⟩
theorem er_mk {c : Nat} {x : Str} {C : Addr} (h0 : g.cs[c]? = some C) (m : mg x = some (.ref C)) (k : PySem.W.keepIn K (.ref C) = true) (q : PySem.W.excIn K C [.type "ValueError", .type "Exception", .type "BaseException", .type "object"] "ValueError.__new__" = true)
    (b : PySem.W.subIn K (.ref C) (.type "BaseException") = some true) (t : PySem.W.typeIn K (.ref C) = some (.type "type")) : Er K mg g c x := ⟨C, h0, m, k, q, b, t⟩
theorem cx_end {Pr : Program} (w : World) (H : Hp) (s : Shared) (e : Value) (s' : Shared) (h : L2.CX Pr w [] H s (fun _ _ _ => False) e s') : False := by
  obtain ⟨_, _, _, _, _, _, _, _, _, _, _, _, z⟩ := h
  exact z.elim
end
end FL
set_option Elab.async false
set_option linter.all false
set_option maxRecDepth 100000
set_option maxHeartbeats 2000000
namespace FL
open PySem
section
variable {α β : Type} {δ : DS} {h : VH} {a b c : FE} {r : FA} {x y z : D} {xs ys : List D} {s t : FSt} {ta tb : FT}
@[simp] theorem ap_eC : eC x δ h = .ok x h := (rfl)
def vK : Option (Option D) → VH → Out D
  | some (some d), h => .ok d h
  | _, _ => .bad
@[simp] theorem vK_some : vK (some (some x)) h = .ok x h := (rfl)
@[simp] theorem vK_none : vK (some none) h = .bad := (rfl)
@[simp] theorem ap_eV {i : Nat} : eV i δ h = vK δ[i]? h := by
  unfold eV vK
  split <;> simp_all
def bK : D → VH → Out Bool
  | .bl b, h => .ok b h
  | _, _ => .bad
@[simp] theorem bK_bl {b : Bool} : bK (.bl b) h = .ok b h := (rfl)
def iK : D → VH → Out (Option Int)
  | .int i, h => .ok (some i) h
  | _, _ => .bad
@[simp] theorem iK_int {i : Int} : iK (.int i) h = .ok (some i) h := (rfl)
def trK : Option Bool → VH → Out Bool
  | some b, h => .ok b h
  | none, _ => .bad
@[simp] theorem trK_some {b : Bool} : trK (some b) h = .ok b h := (rfl)
def chK (c : VH → Out D) (p : D → VH → Option (D × VH)) : Option (D × VH) → Out D
  | some (.bl true, h) => (c h).bind fun z h => Out.of (p z h)
  | some (.bl false, h) => .ok (.bl false) h
  | _ => .bad
@[simp] theorem chK_t {c : VH → Out D} {p : D → VH → Option (D × VH)} : chK c p (some (.bl true, h)) = (c h).bind fun z h => Out.of (p z h) := (rfl)
@[simp] theorem chK_f {c : VH → Out D} {p : D → VH → Option (D × VH)} : chK c p (some (.bl false, h)) = .ok (.bl false) h := (rfl)
@[simp] theorem chK_d {c : VH → Out D} {p : D → VH → Option (D × VH)} {b : Bool} : chK c p (some (.bl b, h)) = if b = true then (c h).bind fun z h => Out.of (p z h) else .ok (.bl false) h := by
  cases b <;> rfl
def anK (b : VH → Out D) : D → VH → Out D
  | .bl true, h => b h
  | .bl false, h => .ok (.bl false) h
  | _, _ => .bad
@[simp] theorem anK_bl {b : VH → Out D} {c : Bool} : anK b (.bl c) h = if c = true then b h else .ok (.bl false) h := by cases c <;> rfl
def orK (b : VH → Out D) : D → VH → Out D
  | .bl true, h => .ok (.bl true) h
  | .bl false, h => b h
  | _, _ => .bad
@[simp] theorem orK_bl {b : VH → Out D} {c : Bool} : orK b (.bl c) h = if c = true then .ok (.bl true) h else b h := by cases c <;> rfl
def noK : D → VH → Out D
  | .bl b, h => .ok (.bl (!b)) h
  | _, _ => .bad
@[simp] theorem noK_bl {c : Bool} : noK (.bl c) h = .ok (.bl (!c)) h := (rfl)
def toK (sub : Nat → Nat → Bool) (l : List (Nat × List Nat)) : Out D → Out D
  | .ok d h => .ok d h
  | .err c _ h => tellH sub c h l
  | .bad => .bad
@[simp] theorem toK_ok {sub : Nat → Nat → Bool} {l : List (Nat × List Nat)} : toK sub l (.ok x h) = .ok x h := (rfl)
@[simp] theorem toK_err {sub : Nat → Nat → Bool} {l : List (Nat × List Nat)} {n : Nat} {p : Option D} : toK sub l (.err n p h) = tellH sub n h l := (rfl)
def p2K (δ : DS) (i j : Nat) : List D → VH → OutS
  | [x, y], h => .nx ((δ.set i (some x)).set j (some y)) h
  | _, _ => .bad
@[simp] theorem p2K_2 {i j : Nat} : p2K δ i j [x, y] h = .nx ((δ.set i (some x)).set j (some y)) h := (rfl)
def p3K (δ : DS) (i j l : Nat) : List D → VH → OutS
  | [x, y, z], h => .nx (((δ.set i (some x)).set j (some y)).set l (some z)) h
  | _, _ => .bad
@[simp] theorem p3K_3 {i j l : Nat} : p3K δ i j l [x, y, z] h = .nx (((δ.set i (some x)).set j (some y)).set l (some z)) h := (rfl)
def stK (δ : DS) : Option VH → OutS
  | some h => .nx δ h
  | none => .bad
@[simp] theorem stK_some : stK δ (some h) = .nx δ h := (rfl)
def auK (δ : DS) (i : Nat) : Option (D × VH) → OutS
  | some (z, h) => .nx (δ.set i (some z)) h
  | none => .bad
@[simp] theorem auK_some {i : Nat} : auK δ i (some (z, h)) = .nx (δ.set i (some z)) h := (rfl)
def agK (δ : DS) (i : Nat) (o : Op2) (a : VH → Out D) : Option (Option D) → VH → OutS
  | some (some x), h => thenS δ (a h) fun y h => auK δ i (o x y h)
  | _, _ => .bad
@[simp] theorem agK_some {i : Nat} {o : Op2} {a : VH → Out D} : agK δ i o a (some (some x)) h = thenS δ (a h) fun y h => auK δ i (o x y h) := (rfl)
def gcK (gs : FGs) (xs : List D) : Option (DS × VH) → Option (DS × VH)
  | some (δ, h) => gs xs δ h
  | none => none
@[simp] theorem gcK_some {gs : FGs} : gcK gs xs (some (δ, h)) = gs xs δ h := (rfl)
def gtK (n : Nat) (gs : FGs) (δ : DS) (h : VH) : Option (List D) → Option (DS × VH)
  | some xs => if xs.length = n then gs xs δ h else none
  | none => none
@[simp] theorem gtK_some {n : Nat} {gs : FGs} : gtK n gs δ h (some xs) = if xs.length = n then gs xs δ h else none := (rfl)
def frK (g : FG) (s : FSt) (k : Nat) (δ : DS) (h : VH) : Option O → OutS
  | some (.lst xs) => forL k g s (xs.length + 1) 0 δ h
  | _ => .bad
@[simp] theorem frK_lst {g : FG} {k : Nat} : frK g s k δ h (some (.lst xs)) = forL k g s (xs.length + 1) 0 δ h := (rfl)
def lrK (g : FG) (t : FT) (e : FE) (own : List Nat) (δ : DS) (j : Nat) (h : VH) : Option O → Out D
  | some (.lst xs) => lcEnd (lcL j g t e own δ (xs.length + 1) 0 h [])
  | _ => .bad
@[simp] theorem lrK_lst {g : FG} {own : List Nat} {j : Nat} : lrK g ta a own δ j h (some (.lst xs)) = lcEnd (lcL j g ta a own δ (xs.length + 1) 0 h []) := (rfl)
@[simp] theorem bind_ok {f : α → VH → Out β} {q : α} : (Out.ok q h).bind f = f q h := (rfl)
@[simp] theorem bind_err {f : α → VH → Out β} {k : Nat} {p : Option D} : (Out.err k p h : Out α).bind f = .err k p h := (rfl)
@[simp] theorem bind_bad {f : α → VH → Out β} : (Out.bad : Out α).bind f = .bad := (rfl)
@[simp] theorem ap_e1 {o : Op1} : e1 o a δ h = (a δ h).bind fun x h => Out.of (o x h) := (rfl)
@[simp] theorem ap_e2 {o : Op2} : e2 o a b δ h = (a δ h).bind fun x h => (b δ h).bind fun y h => Out.of (o x y h) := (rfl)
@[simp] theorem ap_eIf : eIf ta a b δ h = (ta δ h).bind fun c h => if c = true then a δ h else b δ h := (rfl)
@[simp] theorem ap_aNil : aNil δ h = .ok [] h := (rfl)
@[simp] theorem ap_aCons : aCons a r δ h = (a δ h).bind fun x h => (r δ h).bind fun xs h => .ok (x :: xs) h := (rfl)
@[simp] theorem ap_eTup : eTup r δ h = (r δ h).bind fun xs h => if xs.length ≤ 16777216 then .ok (.tup xs) h else .bad := (rfl)
@[simp] theorem ap_eFl : eFl r δ h = (r δ h).bind fun xs h => if xs.length ≤ 16777216 then .ok (.fls xs) h else .bad := (rfl)
@[simp] theorem ap_eLst : eLst r δ h = (r δ h).bind fun xs h => if xs.length ≤ 16777216 then .ok (.ref h.length) (h ++ [.lst xs]) else .bad := (rfl)
@[simp] theorem ap_eB {o : List D → VH → Option (D × VH)} : eB o r δ h = (r δ h).bind fun xs h => Out.of (o xs h) := (rfl)
@[simp] theorem ap_eF {F : List D → VH → Out D} : eF F r δ h = (r δ h).bind F := (rfl)
@[simp] theorem ap_eM {ty : D → VH → Bool} {o : D → List D → VH → Option (D × VH)} : eM ty o a r δ h = (a δ h).bind fun x h => if ty x h = true then (r δ h).bind fun xs h => Out.of (o x xs h) else .bad := (rfl)
@[simp] theorem ap_pNo : pNo δ h = .ok none h := (rfl)
@[simp] theorem ap_pSo : pSo a δ h = (a δ h).bind iK := by
  unfold pSo
  congr
  funext x h
  cases x <;> rfl
@[simp] theorem ap_eSl {lo hi : FO} : eSl a lo hi δ h = (a δ h).bind fun x h => (lo δ h).bind fun l h => (hi δ h).bind fun u h => Out.of (oSl x l u h) := (rfl)
@[simp] theorem ap_eCh {o p : Op2} : eCh o p a b c δ h = (a δ h).bind fun x h => (b δ h).bind fun y h => chK (c δ) (p y) (o x y h) := by
  unfold eCh
  congr
@[simp] theorem ap_tV : tV a δ h = (a δ h).bind bK := by
  unfold tV
  congr
  funext x h
  cases x <;> rfl
@[simp] theorem ap_tTr : tTr a δ h = (a δ h).bind fun x h => trK (tru x h) h := by
  unfold tTr
  congr
  funext x h
  cases tru x h <;> rfl
@[simp] theorem ap_tAnd : tAnd ta tb δ h = (ta δ h).bind fun c h => if c = true then tb δ h else .ok false h := (rfl)
@[simp] theorem ap_tOr : tOr ta tb δ h = (ta δ h).bind fun c h => if c = true then .ok true h else tb δ h := (rfl)
@[simp] theorem ap_tNot : tNot ta δ h = (ta δ h).bind fun c h => .ok (!c) h := (rfl)
@[simp] theorem ap_tYes : tYes δ h = .ok true h := (rfl)
@[simp] theorem ap_eAnd : eAnd a b δ h = (a δ h).bind (anK (b δ)) := by
  unfold eAnd
  congr
  funext x h
  cases x with
  | bl b => cases b <;> rfl
  | _ => rfl
@[simp] theorem ap_eOr : eOr a b δ h = (a δ h).bind (orK (b δ)) := by
  unfold eOr
  congr
  funext x h
  cases x with
  | bl b => cases b <;> rfl
  | _ => rfl
@[simp] theorem ap_eNot : eNot a δ h = (a δ h).bind noK := by
  unfold eNot
  congr
  funext x h
  cases x <;> rfl
@[simp] theorem ap_eDct : eDct δ h = .ok (.ref h.length) (h ++ [.dct []]) := (rfl)
@[simp] theorem ap_eTold {sub : Nat → Nat → Bool} {l : List (Nat × List Nat)} : eTold sub l a δ h = toK sub l (a δ h) := by
  unfold eTold
  cases a δ h <;> rfl
@[simp] theorem thenS_ok {k : α → VH → OutS} {q : α} : thenS δ (.ok q h) k = k q h := (rfl)
@[simp] theorem thenS_err {k : α → VH → OutS} {n : Nat} {p : Option D} : thenS δ (.err n p h : Out α) k = .err n p δ h := (rfl)
@[simp] theorem thenS_bad {k : α → VH → OutS} : thenS δ (.bad : Out α) k = .bad := (rfl)
@[simp] theorem nextS_nx {k : DS → VH → OutS} : nextS (.nx δ h) k = k δ h := (rfl)
@[simp] theorem nextS_ret {k : DS → VH → OutS} : nextS (.ret x h) k = .ret x h := (rfl)
@[simp] theorem nextS_brk {k : DS → VH → OutS} : nextS (.brk δ h) k = .brk δ h := (rfl)
@[simp] theorem nextS_ct {k : DS → VH → OutS} : nextS (.ct δ h) k = .ct δ h := (rfl)
@[simp] theorem nextS_err {k : DS → VH → OutS} {n : Nat} {p : Option D} : nextS (.err n p δ h) k = .err n p δ h := (rfl)
@[simp] theorem nextS_bad {k : DS → VH → OutS} : nextS .bad k = .bad := (rfl)
@[simp] theorem loopS_nx {k : DS → VH → OutS} : loopS (.nx δ h) k = k δ h := (rfl)
@[simp] theorem loopS_ret {k : DS → VH → OutS} : loopS (.ret x h) k = .ret x h := (rfl)
@[simp] theorem loopS_brk {k : DS → VH → OutS} : loopS (.brk δ h) k = .nx δ h := (rfl)
@[simp] theorem loopS_ct {k : DS → VH → OutS} : loopS (.ct δ h) k = k δ h := (rfl)
@[simp] theorem loopS_err {k : DS → VH → OutS} {n : Nat} {p : Option D} : loopS (.err n p δ h) k = .err n p δ h := (rfl)
@[simp] theorem loopS_bad {k : DS → VH → OutS} : loopS .bad k = .bad := (rfl)
@[simp] theorem tgS_some {k : DS → VH → OutS} : tgS (some (δ, h)) k = k δ h := (rfl)
@[simp] theorem tgS_none {k : DS → VH → OutS} : tgS none k = .bad := (rfl)
@[simp] theorem ap_sNil : sNil δ h = .nx δ h := (rfl)
@[simp] theorem ap_sSeq : sSeq s t δ h = nextS (s δ h) t := (rfl)
@[simp] theorem ap_sEx : sEx a δ h = thenS δ (a δ h) fun _ h => .nx δ h := (rfl)
@[simp] theorem ap_sRet : sRet a δ h = thenS δ (a δ h) fun x h => .ret x h := (rfl)
@[simp] theorem ap_sRetN : sRetN δ h = .ret .non h := (rfl)
@[simp] theorem ap_sAs {g : FG} : sAs a g δ h = thenS δ (a δ h) fun x h => tgS (g x δ h) fun δ h => .nx δ h := (rfl)
@[simp] theorem ap_sIf : sIf ta s t δ h = thenS δ (ta δ h) fun c h => if c = true then s δ h else t δ h := (rfl)
@[simp] theorem ap_sCt : sCt δ h = .ct δ h := (rfl)
@[simp] theorem ap_sBr : sBr δ h = .brk δ h := (rfl)
@[simp] theorem ap_sRaise {n : Nat} : sRaise n δ h = .err n none δ h := (rfl)
@[simp] theorem ap_gN {i : Nat} : gN i x δ h = some (δ.set i (some x), h) := (rfl)
@[simp] theorem ap_gNil0 : gNil [] δ h = some (δ, h) := (rfl)
@[simp] theorem ap_gNil1 : gNil (x :: xs) δ h = none := (rfl)
@[simp] theorem ap_gCons1 {g : FG} {gs : FGs} : gCons g gs (x :: xs) δ h = gcK gs xs (g x δ h) := by
  have e : gCons g gs (x :: xs) δ h = (match g x δ h with
    | some (δ, h) => gs xs δ h
    | none => none) := rfl
  rw [e]
  cases g x δ h <;> rfl
@[simp] theorem ap_gCons0 {g : FG} {gs : FGs} : gCons g gs [] δ h = none := (rfl)
@[simp] theorem ap_gT {n : Nat} {gs : FGs} : gT n gs x δ h = gtK n gs δ h (seqOf x h) := by
  unfold gT
  cases seqOf x h <;> rfl
@[simp] theorem ap_sPar {i j : Nat} : sPar i j r δ h = thenS δ (r δ h) (p2K δ i j) := by
  unfold sPar
  congr
  funext xs h
  match xs with
  | [] => rfl
  | [_] => rfl
  | [_, _] => rfl
  | _ :: _ :: _ :: _ => rfl
@[simp] theorem ap_sPar3 {i j l : Nat} : sPar3 i j l r δ h = thenS δ (r δ h) (p3K δ i j l) := by
  unfold sPar3
  congr
  funext xs h
  match xs with
  | [] => rfl
  | [_] => rfl
  | [_, _] => rfl
  | [_, _, _] => rfl
  | _ :: _ :: _ :: _ :: _ => rfl
@[simp] theorem ap_sAug {i : Nat} {o : Op2} : sAug i o a δ h = agK δ i o (a δ) δ[i]? h := by
  have key : ∀ q : Option (D × VH), (match q with
      | some (z, h) => OutS.nx (δ.set i (some z)) h
      | none => OutS.bad) = auK δ i q := by
    intro q
    cases q <;> rfl
  unfold sAug
  cases δ[i]? with
  | none => rfl
  | some d =>
    cases d with
    | none => rfl
    | some d =>
      show thenS δ (a δ h) _ = thenS δ (a δ h) _
      congr
@[simp] theorem ap_sSub {f : D → D → D → VH → Option VH} : sSub f a b c δ h = thenS δ (a δ h) fun x h => thenS δ (b δ h) fun y h => thenS δ (c δ h) fun z h => stK δ (f y z x h) := by
  unfold sSub
  congr
@[simp] theorem ap_sFor {g : FG} : sFor a g s δ h = thenS δ (a δ h) fun x h => forX g s x δ h := (rfl)
theorem ap_sForR {g : FG} : sForR r g s δ h = thenS δ (r δ h) fun xs h => match rEnds xs with
  | some (i, j) => forT g s (rng i j) δ h
  | none => .bad := (rfl)
@[simp] theorem forX_tup {g : FG} : forX g s (.tup xs) δ h = forT g s xs δ h := (rfl)
@[simp] theorem forX_fls {g : FG} : forX g s (.fls xs) δ h = forT g s xs δ h := (rfl)
@[simp] theorem forX_str {g : FG} {l : List Nat} : forX g s (.str l) δ h = forT g s (l.map fun c => .str [c]) δ h := (rfl)
@[simp] theorem forX_fdc {g : FG} {vs : List D} : forX g s (.fdc xs vs) δ h = forT g s xs δ h := (rfl)
@[simp] theorem forX_ref {g : FG} {k : Nat} : forX g s (.ref k) δ h = frK g s k δ h h[k]? := by
  have e : forX g s (.ref k) δ h = (match h[k]? with
    | some (.lst xs) => forL k g s (xs.length + 1) 0 δ h
    | _ => .bad) := rfl
  rw [e]
  cases h[k]? with
  | none => rfl
  | some o => cases o <;> rfl
@[simp] theorem forT_nil {g : FG} : forT g s [] δ h = .nx δ h := (rfl)
@[simp] theorem forT_cons {g : FG} : forT g s (x :: xs) δ h = tgS (g x δ h) fun δ h => loopS (s δ h) (forT g s xs) := (rfl)
@[simp] theorem ap_eLc {g : FG} {own : List Nat} : eLc a g ta b own δ h = (a δ h).bind fun x h => lcX g ta b own δ x h := (rfl)
@[simp] theorem lcX_ref {g : FG} {own : List Nat} {j : Nat} : lcX g ta b own δ (.ref j) h = lrK g ta b own δ j h h[j]? := by
  have e : lcX g ta b own δ (.ref j) h = (match h[j]? with
    | some (.lst xs) => lcEnd (lcL j g ta b own δ (xs.length + 1) 0 h [])
    | _ => .bad) := rfl
  rw [e]
  cases h[j]? with
  | none => rfl
  | some o => cases o <;> rfl
@[simp] theorem lcX_tup {g : FG} {own : List Nat} : lcX g ta b own δ (.tup xs) h = lcEnd (lcT g ta b own δ xs h []) := (rfl)
@[simp] theorem lcX_fls {g : FG} {own : List Nat} : lcX g ta b own δ (.fls xs) h = lcEnd (lcT g ta b own δ xs h []) := (rfl)
@[simp] theorem lcX_fdc {g : FG} {own : List Nat} {vs : List D} : lcX g ta b own δ (.fdc xs vs) h = lcEnd (lcT g ta b own δ xs h []) := (rfl)
@[simp] theorem lcX_str {g : FG} {own : List Nat} {l : List Nat} : lcX g ta b own δ (.str l) h = lcEnd (lcT g ta b own δ (l.map fun c => .str [c]) h []) := (rfl)
@[simp] theorem lcEnd_ok : lcEnd (.ok xs h) = .ok (.fls xs) h := (rfl)
@[simp] theorem of_some {q : D × VH} : Out.of (some q) = .ok q.1 q.2 := (rfl)
@[simp] theorem of_none : (Out.of none : Out D) = .bad := (rfl)
@[simp] theorem endF_ret : endF (.ret x h) = .ok x h := (rfl)
@[simp] theorem endF_nx : endF (.nx δ h) = .ok .non h := (rfl)
@[simp] theorem endF_err {n : Nat} {p : Option D} : endF (.err n p δ h) = .err n p h := (rfl)
@[simp] theorem endF_bad : endF .bad = .bad := (rfl)
end
@[simp] theorem hp_at0 {h g : VH} : (h ++ g)[h.length]? = g[0]? := by rw [List.getElem?_append_right (Nat.le_refl _), Nat.sub_self]
@[simp] theorem hp_at {h g : VH} {k : Nat} : (h ++ g)[h.length + k]? = g[k]? := by rw [List.getElem?_append_right (Nat.le_add_right _ _), Nat.add_sub_cancel_left]
@[simp] theorem hp_set0 {h g : VH} {o : O} : (h ++ g).set h.length o = h ++ g.set 0 o := by rw [List.set_append_right _ _ (Nat.le_refl _), Nat.sub_self]
@[simp] theorem hp_set {h g : VH} {k : Nat} {o : O} : (h ++ g).set (h.length + k) o = h ++ g.set k o := by rw [List.set_append_right _ _ (Nat.le_add_right _ _), Nat.add_sub_cancel_left]
theorem hp_old {h g : VH} {k : Nat} {o : O} (e : h[k]? = some o) : (h ++ g)[k]? = some o := by
  rw [List.getElem?_append_left (List.getElem?_eq_some_iff.mp e).1, e]
theorem hp_lt {h : VH} {k : Nat} {o : O} (e : h[k]? = some o) : k < h.length := (List.getElem?_eq_some_iff.mp e).1
def Pre (h h1 : VH) : Prop := ∃ g, h1 = h ++ g
theorem Pre.refl (h : VH) : Pre h h := ⟨[], by simp⟩
theorem Pre.trans {a b c : VH} (p : Pre a b) (q : Pre b c) : Pre a c := by
  obtain ⟨g, rfl⟩ := p
  obtain ⟨g', rfl⟩ := q
  exact ⟨g ++ g', by simp⟩
theorem Pre.set {h h1 : VH} {k : Nat} {o : O} (p : Pre h h1) (hk : h.length ≤ k) : Pre h (h1.set k o) := by
  obtain ⟨g, rfl⟩ := p
  exact ⟨g.set (k - h.length) o, List.set_append_right _ _ hk⟩
theorem Pre.at {h h1 : VH} (p : Pre h h1) {k : Nat} {o : O} (e : h[k]? = some o) : h1[k]? = some o := by
  obtain ⟨g, rfl⟩ := p
  exact hp_old e
theorem Pre.len {h h1 : VH} (p : Pre h h1) : h.length ≤ h1.length := by
  obtain ⟨g, rfl⟩ := p
  simp
theorem Cl.v' {h h1 : VH} {d : D} (w : wf h) (b : bnd h.length d = true) (p : Pre h h1) : Cl h.length (.ok d h1) (.ok d h) := by
  obtain ⟨g, rfl⟩ := p
  exact .v w b
theorem Cl.e' {h h1 : VH} {c : Nat} (w : wf h) (p : Pre h h1) : Cl h.length (.err c none h1) (.err c none h) := by
  obtain ⟨g, rfl⟩ := p
  exact .e w
theorem Cl.o' {h h1 : VH} {j : Nat} {o : O} (w : wf h) (p : Pre h h1) (hj : h.length ≤ j) (e : h1[j]? = some o) (b : bndO h.length o = true) : Cl h.length (.ok (.ref j) h1) (.ok (.ref h.length) (h ++ [o])) := by
  obtain ⟨g, rfl⟩ := p
  obtain ⟨k, rfl⟩ := Nat.le.dest hj
  rw [hp_at] at e
  exact .o w e b
theorem Df.eqv {P : Program} {w : World} {K : PySem.W.Frag} {mg : Str → Option Value} {base : Heap} {g : Gc} {k : Nat} {x : Str} {F F' : List D → VH → Out D} (d : Df P w K mg base g k x F) (h : ∀ xs h, F' xs h = .bad ∨ F xs h = F' xs h) : Df P w K mg base g k x F' :=
  d.imp fun vs H Q E ⟨m, vh, xs, s, r, q⟩ => ⟨m, vh, xs, s, r, by
    rcases h xs vh with e | e
    · rw [e] at q; exact q.elim
    · rw [e]; exact q⟩
section
variable {i j : Int} {a b : List Nat} {p q : Bool} {h : VH} {xs ys : List D} {x y : D} {k n : Nat}
@[simp] theorem oAdd_ii : oAdd (.int i) (.int j) h = some (.int (i + j), h) := (rfl)
@[simp] theorem oAdd_ss : oAdd (.str a) (.str b) h = if a.length + b.length ≤ 16777216 then some (.str (a ++ b), h) else none := (rfl)
@[simp] theorem oAdd_tt : oAdd (.tup xs) (.tup ys) h = if xs.length + ys.length ≤ 16777216 then some (.tup (xs ++ ys), h) else none := (rfl)
@[simp] theorem lsOf_f : lsOf (.fls xs) h = some xs := (rfl)
@[simp] theorem lsOf_r : lsOf (.ref k) h = match h[k]? with
    | some (.lst xs) => some xs
    | _ => none := (rfl)
@[simp] theorem oAdd_ff : oAdd (.fls xs) (.fls ys) h = if xs.length + ys.length ≤ 16777216 then some (.fls (xs ++ ys), h) else none := (rfl)
@[simp] theorem oMul_fi : oMul (.fls xs) (.int i) h = if -9223372036854775808 ≤ i ∧ i < 9223372036854775808 ∧ xs.length * i.toNat ≤ 16777216 then some (.fls (List.replicate i.toNat xs).flatten, h) else none := (rfl)
@[simp] theorem oSub_ii : oSub (.int i) (.int j) h = some (.int (i - j), h) := (rfl)
@[simp] theorem oMul_ii : oMul (.int i) (.int j) h = if (-18446744073709551616 < i ∧ i < 18446744073709551616) ∨ (-18446744073709551616 < j ∧ j < 18446744073709551616) then some (.int (i * j), h) else none := (rfl)
@[simp] theorem oFdv_ii : oFdv (.int i) (.int j) h = if 0 < j ∧ j < 1073741824 then some (.int (i / j), h) else none := (rfl)
@[simp] theorem oMod_ii : oMod (.int i) (.int j) h = if 0 < j then some (.int (i % j), h) else none := (rfl)
@[simp] theorem oIadd_ii : oIadd (.int i) (.int j) h = some (.int (i + j), h) := (rfl)
@[simp] theorem oIadd_ss : oIadd (.str a) (.str b) h = if a.length + b.length ≤ 16777216 then some (.str (a ++ b), h) else none := (rfl)
@[simp] theorem oNeg_i : oNeg (.int i) h = some (.int (-i), h) := (rfl)
@[simp] theorem cEq_ii : cEq (.int i) (.int j) h = some (.bl (decide (i = j)), h) := (rfl)
@[simp] theorem cEq_ss : cEq (.str a) (.str b) h = some (.bl (decide (a = b)), h) := (rfl)
@[simp] theorem cEq_bb : cEq (.bl p) (.bl q) h = some (.bl (decide (p = q)), h) := (rfl)
@[simp] theorem cNe_ii : cNe (.int i) (.int j) h = some (.bl (!decide (i = j)), h) := (rfl)
@[simp] theorem cNe_ss : cNe (.str a) (.str b) h = some (.bl (!decide (a = b)), h) := (rfl)
@[simp] theorem cNe_bb : cNe (.bl p) (.bl q) h = some (.bl (!decide (p = q)), h) := (rfl)
@[simp] theorem cLt_ii : cLt (.int i) (.int j) h = some (.bl (decide (i < j)), h) := (rfl)
@[simp] theorem cLe_ii : cLe (.int i) (.int j) h = some (.bl (decide (i ≤ j)), h) := (rfl)
@[simp] theorem cGt_ii : cGt (.int i) (.int j) h = some (.bl (decide (j < i)), h) := (rfl)
@[simp] theorem cGe_ii : cGe (.int i) (.int j) h = some (.bl (decide (j ≤ i)), h) := (rfl)
@[simp] theorem cIs_n : cIs x .non h = some (.bl (isNon x), h) := (rfl)
@[simp] theorem cIsn_n : cIsn x .non h = some (.bl (!isNon x), h) := (rfl)
@[simp] theorem oIx_t : oIx (.tup xs) (.int i) h = match atI xs i with
    | some d => some (d, h)
    | none => none := (rfl)
@[simp] theorem oIx_f : oIx (.fls xs) (.int i) h = match atI xs i with
    | some d => some (d, h)
    | none => none := (rfl)
@[simp] theorem oIx_r : oIx (.ref k) x h = match oIxR h[k]? x with
    | some d => some (d, h)
    | none => none := (rfl)
@[simp] theorem oIxR_l : oIxR (some (.lst xs)) (.int i) = atI xs i := (rfl)
@[simp] theorem bLen_s : bLen [.str a] h = if a.length ≤ 16777216 then some (.int a.length, h) else none := (rfl)
@[simp] theorem bLen_t : bLen [.tup xs] h = some (.int xs.length, h) := (rfl)
@[simp] theorem bLen_f : bLen [.fls xs] h = some (.int xs.length, h) := (rfl)
@[simp] theorem bLen_r : bLen [.ref k] h = match h[k]? with
    | some (.lst xs) => some (.int xs.length, h)
    | some (.dct xs) => some (.int xs.length, h)
    | _ => none := (rfl)
@[simp] theorem bInt_i : bInt [.int i] h = some (.int i, h) := (rfl)
@[simp] theorem bInt_b : bInt [.bl p] h = some (.int (if p = true then 1 else 0), h) := (rfl)
@[simp] theorem bAbs_i : bAbs [.int i] h = some (.int (if i < 0 then -i else i), h) := (rfl)
@[simp] theorem bMax2_i : bMax2 [.int i, .int j] h = some (.int (if j > i then j else i), h) := (rfl)
@[simp] theorem bMin2_i : bMin2 [.int i, .int j] h = some (.int (if j < i then j else i), h) := (rfl)
@[simp] theorem isL_r : isL (.ref k) h = match h[k]? with
    | some (.lst _) => true
    | _ => false := (rfl)
@[simp] theorem isLs_f : isLs (.fls xs) h = true := (rfl)
@[simp] theorem isLs_r : isLs (.ref k) h = (match h[k]? with
    | some (.lst xs) => some xs
    | _ => none).isSome := (rfl)
@[simp] theorem isT_t : isT (.tup xs) h = true := (rfl)
@[simp] theorem isS_s : isS (.str a) h = true := (rfl)
@[simp] theorem mAppend_r : mAppend (.ref k) [y] h = match h[k]? with
    | some (.lst xs) => if xs.length < 16777216 then some (.non, h.set k (.lst (xs ++ [y]))) else none
    | _ => none := (rfl)
@[simp] theorem seqOf_t : seqOf (.tup xs) h = some xs := (rfl)
@[simp] theorem seqOf_f : seqOf (.fls xs) h = some xs := (rfl)
@[simp] theorem seqOf_r : seqOf (.ref k) h = match h[k]? with
    | some (.lst xs) => some xs
    | _ => none := (rfl)
@[simp] theorem setL_r : setL (.ref k) (.int i) x h = match h[k]? with
    | some (.lst xs) => match ixN xs.length i with
      | some j => some (h.set k (.lst (xs.set j x)))
      | none => none
    | _ => none := (rfl)
@[simp] theorem bTup_r : bTup [.ref k] h = match h[k]? with
    | some (.lst xs) => some (.tup xs, h)
    | _ => none := by
  rw [show bTup [.ref k] h = (match seqOf (.ref k) h with | some xs => some (.tup xs, h) | none => none) from rfl, seqOf_r]
  cases h[k]? with
  | none => rfl
  | some o => cases o <;> rfl
@[simp] theorem mSplit_s {c : Nat} : mSplit (.str a) [.str [c]] h = if c < 256 ∧ a.length + 2 ≤ 16777216 then some (.fls ((splitC c a).map D.str), h) else none := (rfl)
@[simp] theorem mJoin_s : mJoin (.str a) [x] h = match seqOf x h with
    | some xs => match allT xs with
      | some l => if (l.map (·.length)).sum + l.length * a.length ≤ 16777216 then some (.str (joinL a l), h) else none
      | none => none
    | none => none := (rfl)
@[simp] theorem oSl_s {lo hi : Option Int} : oSl (.str a) lo hi h = if a.length ≤ 16777216 then some (.str (cut a lo hi), h) else none := (rfl)
@[simp] theorem oSl_t {lo hi : Option Int} : oSl (.tup xs) lo hi h = some (.tup (cut xs lo hi), h) := (rfl)
@[simp] theorem oSl_f {lo hi : Option Int} : oSl (.fls xs) lo hi h = some (.fls (cut xs lo hi), h) := (rfl)
@[simp] theorem oSl_r {lo hi : Option Int} : oSl (.ref k) lo hi h = match lsOf (.ref k) h with
    | some xs => some (.fls (cut xs lo hi), h)
    | none => none := (rfl)
@[simp] theorem bTup_f : bTup [.fls xs] h = some (.tup xs, h) := (rfl)
@[simp] theorem bTup_t : bTup [.tup xs] h = some (.tup xs, h) := (rfl)
@[simp] theorem bList_f : bList [.fls xs] h = some (.fls xs, h) := (rfl)
@[simp] theorem bList_t : bList [.tup xs] h = some (.fls xs, h) := (rfl)
@[simp] theorem bIsi_x {s : String} : bIsi [x, .ty s] h = match tyN x h with
    | some t => match isiN t s with
      | some b => some (.bl b, h)
      | none => none
    | none => none := (rfl)
@[simp] theorem tyN_i : tyN (.int i) h = some "int" := (rfl)
@[simp] theorem tyN_b : tyN (.bl p) h = some "bool" := (rfl)
@[simp] theorem tyN_s : tyN (.str a) h = some "str" := (rfl)
@[simp] theorem tyN_n : tyN .non h = some "NoneType" := (rfl)
@[simp] theorem tyN_t : tyN (.tup xs) h = some "tuple" := (rfl)
@[simp] theorem tyN_f : tyN (.fls xs) h = some "list" := (rfl)
@[simp] theorem isi_ii : isiN "int" "int" = some true := by decide
@[simp] theorem isi_ib : isiN "int" "bool" = some false := by decide
@[simp] theorem isi_is : isiN "int" "str" = some false := by decide
@[simp] theorem isi_it : isiN "int" "tuple" = some false := by decide
@[simp] theorem isi_bi : isiN "bool" "int" = some true := by decide
@[simp] theorem isi_bb : isiN "bool" "bool" = some true := by decide
@[simp] theorem isi_bs : isiN "bool" "str" = some false := by decide
@[simp] theorem isi_bt : isiN "bool" "tuple" = some false := by decide
@[simp] theorem isi_si : isiN "str" "int" = some false := by decide
@[simp] theorem isi_sb : isiN "str" "bool" = some false := by decide
@[simp] theorem isi_ss : isiN "str" "str" = some true := by decide
@[simp] theorem isi_st : isiN "str" "tuple" = some false := by decide
@[simp] theorem isi_ni : isiN "NoneType" "int" = some false := by decide
@[simp] theorem isi_nb : isiN "NoneType" "bool" = some false := by decide
@[simp] theorem isi_ns : isiN "NoneType" "str" = some false := by decide
@[simp] theorem isi_nt : isiN "NoneType" "tuple" = some false := by decide
@[simp] theorem isi_ti : isiN "tuple" "int" = some false := by decide
@[simp] theorem isi_tb : isiN "tuple" "bool" = some false := by decide
@[simp] theorem isi_ts : isiN "tuple" "str" = some false := by decide
@[simp] theorem isi_tt : isiN "tuple" "tuple" = some true := by decide
end
@[simp] theorem atI_0 {α : Type} {a : α} {l : List α} : atI (a :: l) 0 = some a := by
  have : ixN (l.length + 1) 0 = some 0 := by
    unfold ixN
    rw [if_pos (by omega), if_pos (by omega)] <;> rfl
  unfold atI
  rw [List.length_cons, this] <;> rfl
theorem atI_nat {α : Type} {l : List α} {i : Nat} : atI l (i : Int) = l[i]? := by
  unfold atI ixN
  rw [if_pos (by omega)]
  by_cases h : i < l.length
  · rw [if_pos (by omega)]
    simp
  · rw [if_neg (by omega)]
    simp at h
    exact (List.getElem?_eq_none_iff.mpr h).symm
inductive OkS (P : DS → VH → Prop) : OutS → Prop
  | mk {δ : DS} {h : VH} : P δ h → OkS P (.nx δ h)
inductive OkT (P : DS → VH → Prop) : OutS → Prop
  | mk {δ : DS} {h : VH} : P δ h → OkT P (.nx δ h)
  | ct {δ : DS} {h : VH} : P δ h → OkT P (.ct δ h)
theorem OkS.ex {P : DS → VH → Prop} {o : OutS} (q : OkS P o) : ∃ δ h, o = .nx δ h ∧ P δ h := by
  cases q with
  | mk q => exact ⟨_, _, rfl, q⟩
theorem OkS.seq {P : DS → VH → Prop} {s t : FSt} {δ δ1 : DS} {h h1 : VH} (e : s δ h = .nx δ1 h1) (q : OkS P (t δ1 h1)) : OkS P (sSeq s t δ h) := by
  rw [ap_sSeq, e, nextS_nx]
  exact q
theorem OkT.of {P : DS → VH → Prop} {o : OutS} (q : OkS P o) : OkT P o := by
  cases q with
  | mk q => exact .mk q
theorem OkT.nx {P : DS → VH → Prop} {o : OutS} {δ : DS} {h : VH} (e : o = .nx δ h) (p : P δ h) : OkT P o := by rw [e]; exact .mk p
theorem OkS.nx {P : DS → VH → Prop} {o : OutS} {δ : DS} {h : VH} (e : o = .nx δ h) (p : P δ h) : OkS P o := by rw [e]; exact .mk p
theorem OkT.loop {P Q : DS → VH → Prop} {o : OutS} {k : DS → VH → OutS} (q : OkT P o) (hk : ∀ δ h, P δ h → OkS Q (k δ h)) : OkS Q (loopS o k) := by
  cases q with
  | mk q => exact hk _ _ q
  | ct q => exact hk _ _ q
abbrev Dc := Int × Int × Int
def dO (s : Dc) : O := .lst [.int s.1, .int s.2.1, .int s.2.2]
def asD : O → Option Dc
  | .lst [.int a, .int b, .int c] => some (a, b, c)
  | _ => none
@[simp] theorem asD_dO (s : Dc) : asD (dO s) = some s := (rfl)
theorem asD_some {o : O} {s : Dc} (e : asD o = some s) : o = dO s := by
  unfold asD at e
  split at e
  · cases e; rfl
  · cases e
def isM (s : Dc) : Bool := decide (s.2.2 = 2) || (decide (s.2.2 = 1) && decide (0 < s.1))
def dNext (s : Dc) (m : Int) : Dc := if isM s = true then (s.1 / m, s.2.1, s.2.2) else ((s.1 * 48271 + s.2.1 * 69621 + 11) % 2147483647, s.2.1 + 1, 0)
def dVal (s : Dc) (m : Int) : Int := if isM s = true then s.1 % m else ((s.1 * 48271 + s.2.1 * 69621 + 11) % 2147483647 / 7 + (s.1 * 48271 + s.2.1 * 69621 + 11) % 2147483647) % m
theorem dVal_lo {s : Dc} {m : Int} (h : 0 < m) : 0 ≤ dVal s m := by
  unfold dVal
  split
  · exact Int.emod_nonneg _ (by omega)
  · exact Int.emod_nonneg _ (by omega)
theorem dVal_hi {s : Dc} {m : Int} (h : 0 < m) : dVal s m < m := by
  unfold dVal
  split
  · exact Int.emod_lt_of_pos _ h
  · exact Int.emod_lt_of_pos _ h
def rollS : List D → VH → Out D
  | [.ref d, .int m], h => if 0 < m ∧ m < 1073741824 then (match h[d]? with
    | some o => match asD o with
      | some s => .ok (.int (dVal s m)) (h.set d (dO (dNext s m)))
      | none => .bad
    | none => .bad) else .bad
  | _, _ => .bad
theorem rollS_ok {d : Nat} {m : Int} {h : VH} {s : Dc} (hm : 0 < m) (hm2 : m < 1073741824) (e : h[d]? = some (dO s)) : rollS [.ref d, .int m] h = .ok (.int (dVal s m)) (h.set d (dO (dNext s m))) := by
  simp only [rollS, hm, hm2, and_self, if_true, e, asD_dO]
def b_law_dice : FSt :=
  (sSeq (sIf (tV (eCh cLt cLt (e2 oSub (eC (.int 0)) (eC (.int 10))) (eV 0) (eC (.int 10)))) (sRet (eLst (aCons (eB bAbs (aCons (eV 0) aNil)) (aCons (eC (.int 0)) (aCons (eC (.int 2)) aNil))))) sNil)
  (sRet (eLst (aCons (eV 0) (aCons (e2 oAdd (eC (.int 1)) (e2 oMod (eB bInt (aCons (eV 0) aNil)) (eC (.int 1009)))) (aCons (eB bInt (aCons (e2 cGe (eV 0) (e2 oPow (eC (.int 10)) (eC (.int 18)))) aNil)) aNil))))))
def b_law_roll : FSt :=
  (sSeq (sIf (tOr (tV (e2 cEq (e2 oIx (eV 0) (eC (.int 2))) (eC (.int 2)))) (tAnd (tV (e2 cEq (e2 oIx (eV 0) (eC (.int 2))) (eC (.int 1)))) (tV (e2 cGt (e2 oIx (eV 0) (eC (.int 0))) (eC (.int 0)))))) (sSeq (sAs (e2 oMod (eB bInt (aCons (e2 oIx (eV 0) (eC (.int 0))) aNil)) (eV 1)) (gN 2))
  (sSeq (sSub setL (e2 oFdv (e2 oIx (eV 0) (eC (.int 0))) (eV 1)) (eV 0) (eC (.int 0)))
  (sRet (eV 2)))) sNil)
  (sSeq (sSub setL (eC (.int 0)) (eV 0) (eC (.int 2)))
  (sSeq (sSub setL (e2 oMod (eB bInt (aCons (e2 oAdd (e2 oAdd (e2 oMul (e2 oIx (eV 0) (eC (.int 0))) (eC (.int 48271))) (e2 oMul (e2 oIx (eV 0) (eC (.int 1))) (eC (.int 69621)))) (eC (.int 11))) aNil)) (eC (.int 2147483647))) (eV 0) (eC (.int 0)))
  (sSeq (sSub setL (e2 oAdd (e2 oIx (eV 0) (eC (.int 1))) (eC (.int 1))) (eV 0) (eC (.int 1)))
  (sRet (e2 oMod (eB bInt (aCons (e2 oAdd (e2 oFdv (e2 oIx (eV 0) (eC (.int 0))) (eC (.int 7))) (e2 oIx (eV 0) (eC (.int 0)))) aNil)) (eV 1)))))))
def b_law_rounds (F_law_dice : List FL.D → VH → Out FL.D) : FSt :=
  (sSeq (sAs (eSl (eV 0) pNo (pSo (eV 1))) (gN 2))
  (sSeq (sIf (tV (e2 cEq (eV 2) (eFl aNil))) (sAs (eFl (aCons (eC (.int 0)) aNil)) (gN 2)) sNil)
  (sRet (FL.eLc (eV 2) (gN 3) tYes (eF F_law_dice (aCons (eV 3) aNil)) [3]))))
theorem atI_1 {α : Type} {a b c : α} : atI [a, b, c] 0 = some a ∧ atI [a, b, c] 1 = some b ∧ atI [a, b, c] 2 = some c := by
  refine ⟨rfl, rfl, rfl⟩
theorem roll_eq (xs : List D) (h : VH) : rollS xs h = .bad ∨ runF 2 3 b_law_roll xs h = rollS xs h := by
  unfold rollS
  split
  · rename_i d m
    split
    · rename_i hm
      cases e : h[d]? with
      | none => exact .inl rfl
      | some o =>
        dsimp only
        cases ea : asD o with
        | none => exact .inl rfl
        | some s =>
          right
          have eo := asD_some ea
          subst eo
          obtain ⟨a, b, c⟩ := s
          have hs : ∀ o', (h.set d o')[d]? = some o' := fun o' => List.getElem?_set_self (hp_lt e)
          have e' : h[d]? = some (.lst [.int a, .int b, .int c]) := e
          have hc : c = 2 ∨ (c = 1 ∧ 0 < a) ∨ (c = 1 ∧ ¬ 0 < a) ∨ (¬ c = 2 ∧ ¬ c = 1) := by omega
          rcases hc with h2 | ⟨h2, h0⟩ | ⟨h2, h0⟩ | ⟨h2, h1⟩
          · subst h2
            simp [runF, b_law_roll, e', hs, atI_1, ixN, hm.1, hm.2, dVal, dNext, isM, dO]
          · subst h2
            simp [runF, b_law_roll, e', hs, atI_1, ixN, hm.1, hm.2, dVal, dNext, isM, dO, h0]
          · subst h2
            simp [runF, b_law_roll, e', hs, atI_1, ixN, hm.1, hm.2, dVal, dNext, isM, dO, h0]
          · simp [runF, b_law_roll, e', hs, atI_1, ixN, hm.1, hm.2, dVal, dNext, isM, dO, h1, h2]
    · exact .inl rfl
  · exact .inl rfl
end FL
set_option Elab.async false
set_option linter.all false
set_option maxRecDepth 100000
set_option maxHeartbeats 2000000
namespace FL
open PySem
@[simp] theorem eqv_ss (a b : List Nat) : PyData.eqv (.str ⟨a.toArray⟩) (.str ⟨b.toArray⟩) = decide (a = b) := by
  by_cases e : a = b
  · subst e; simp [PyData.eqv]
  · simp [PyData.eqv, e]
@[simp] theorem eqv_ii (a b : Int) : PyData.eqv (.int a) (.int b) = decide (a = b) := by
  by_cases e : a = b
  · subst e; simp [PyData.eqv]
  · simp [PyData.eqv, e]
theorem allS_map {α β γ : Type} {f : α → β} {g : β → Option γ} {u : α → γ} (e : ∀ a, g (f a) = some (u a)) : ∀ l : List α, allS ((l.map f).map g) = some (l.map u)
  | [] => rfl
  | a :: l => by
    rw [List.map_cons, List.map_cons, e a, List.map_cons]
    simp only [allS, allS_map e l]
theorem toP_str {n : Nat} {h : VH} (a : List Nat) : toP (n + 1) h (.str a) = some (.str ⟨a.toArray⟩) := rfl
theorem toP_int {n : Nat} {h : VH} (a : Int) : toP (n + 1) h (.int a) = some (.int a) := rfl
theorem toPs_str {n : Nat} {h : VH} (l : List (List Nat)) : allS ((l.map D.str).map (toP (n + 1) h)) = some (l.map fun a => .str ⟨a.toArray⟩) := allS_map (fun a => toP_str a) l
theorem toPs_int {n : Nat} {h : VH} (l : List Int) : allS ((l.map D.int).map (toP (n + 1) h)) = some (l.map .int) := allS_map (fun a => toP_int a) l
theorem any_strs (l : List (List Nat)) (a : List Nat) : ((l.map fun a => PyData.str ⟨a.toArray⟩).any fun z => PyData.eqv z (.str ⟨a.toArray⟩)) = decide (a ∈ l) := by
  induction l with
  | nil => simp
  | cons b l ih =>
    rw [List.map_cons, List.any_cons, ih, eqv_ss]
    by_cases e : b = a
    · subst e; simp
    · have e' : ¬ a = b := fun z => e z.symm
      simp [e, e']
theorem any_ints (l : List Int) (a : Int) : ((l.map PyData.int).any fun z => PyData.eqv z (.int a)) = decide (a ∈ l) := by
  induction l with
  | nil => simp
  | cons b l ih =>
    rw [List.map_cons, List.any_cons, ih, eqv_ii]
    by_cases e : b = a
    · subst e; simp
    · have e' : ¬ a = b := fun z => e z.symm
      simp [e, e']
theorem inD_strT {a : List Nat} {l : List (List Nat)} {h : VH} : inD (.str a) (.tup (l.map D.str)) h = some (decide (a ∈ l)) := by
  have e : inD (.str a) (.tup (l.map D.str)) h = (match toP deep h (.str a), allS ((l.map D.str).map (toP deep h)) with
    | some a, some l => some (l.any fun z => PyData.eqv z a)
    | _, _ => none) := by
    unfold inD
    split
    · rename_i heq; cases heq
    · rename_i heq; cases heq; rfl
    · rename_i heq; cases heq
    · rename_i heq; cases heq
    · rename_i heq; cases heq
    · rename_i h1 h2 h3 h4 h5; exact (h1 _ rfl).elim
  rw [e, show deep = 11 + 1 from rfl, toP_str, toPs_str]
  exact congrArg some (any_strs l a)
theorem inD_intT {a : Int} {l : List Int} {h : VH} : inD (.int a) (.tup (l.map D.int)) h = some (decide (a ∈ l)) := by
  have e : inD (.int a) (.tup (l.map D.int)) h = (match toP deep h (.int a), allS ((l.map D.int).map (toP deep h)) with
    | some a, some l => some (l.any fun z => PyData.eqv z a)
    | _, _ => none) := rfl
  rw [e, show deep = 11 + 1 from rfl, toP_int, toPs_int]
  exact congrArg some (any_ints l a)
theorem find_strs (l : List (List Nat)) (a : List Nat) : findE (l.map fun a => PyData.str ⟨a.toArray⟩) (.str ⟨a.toArray⟩) = l.findIdx? (fun b => decide (b = a)) := by
  unfold findE
  induction l with
  | nil => rfl
  | cons b l ih =>
    rw [List.map_cons, List.findIdx?_cons, List.findIdx?_cons, ih, eqv_ss]
theorem mIndexT_strs {a : List Nat} {l : List (List Nat)} {h : VH} : mIndexT (.tup (l.map D.str)) [.str a] h = match l.findIdx? (fun b => decide (b = a)) with
    | some j => some (.int j, h)
    | none => none := by
  have e : mIndexT (.tup (l.map D.str)) [.str a] h = (match (match toP deep h (.str a), allS ((l.map D.str).map (toP deep h)) with
    | some a, some l => findE l a
    | _, _ => none) with
    | some j => some (.int j, h)
    | none => none) := rfl
  rw [e, show deep = 11 + 1 from rfl, toP_str, toPs_str]
  dsimp only
  rw [find_strs]
theorem allI_ints : ∀ l : List Int, allI (l.map D.int) = some l
  | [] => rfl
  | a :: l => by
    rw [List.map_cons]
    simp only [allI, allI_ints l]
def dice0 (c : Int) : Dc := if -10 < c ∧ c < 10 then ((if c < 0 then -c else c), 0, 2) else (c, 1 + c % 1009, if 1000000000000000000 ≤ c then 1 else 0)
def diceS : List D → VH → Out D
  | [.int c], h => .ok (.ref h.length) (h ++ [dO (dice0 c)])
  | _, _ => .bad
theorem dice_eq (xs : List D) (h : VH) : diceS xs h = .bad ∨ runF 1 1 b_law_dice xs h = diceS xs h := by
  unfold diceS
  split
  · rename_i c
    right
    have hp : oPow (.int 10) (.int 18) h = some (.int 1000000000000000000, h) := by
      show (if (0 : Int) ≤ 18 ∧ (18 : Int) ≤ 1000000 ∧ (10 : Int).natAbs < 18446744073709551616 then some (D.int ((10 : Int) ^ (18 : Int).toNat), h) else none) = _
      rw [if_pos (by decide)]
      rfl
    by_cases h1 : -10 < c
    · by_cases h2 : c < 10
      · simp [runF, b_law_dice, dice0, h1, h2, dO]
      · simp [runF, b_law_dice, dice0, h1, h2, hp, dO]
    · simp [runF, b_law_dice, dice0, h1, hp, dO]
  · exact .inl rfl
theorem map_cut {α β : Type} (f : α → β) (l : List α) (lo hi : Option Int) : cut (l.map f) lo hi = (cut l lo hi).map f := by
  unfold cut
  rw [List.length_map, ← List.map_drop, ← List.map_take]
theorem eqD_ls {x y : D} {h : VH} {xs ys : List D} {l l' : List PyData} (hx : lsOf x h = some xs) (hy : lsOf y h = some ys) (e1 : allS (xs.map (toP 11 h)) = some l) (e2 : allS (ys.map (toP 11 h)) = some l') : eqD x y h = some (PyData.eqv (.list l) (.list l')) := by
  have key : ∀ {z : D} {zs : List D} {k : List PyData}, lsOf z h = some zs → allS (zs.map (toP 11 h)) = some k → toP deep h z = some (.list k) := by
    intro z zs k hz e
    cases z with
    | fls us =>
      cases hz
      show (match allS (zs.map (toP 11 h)) with
        | some l => some (PyData.list l)
        | none => none) = _
      rw [e]
    | ref n =>
      have q : toP deep h (.ref n) = (match h[n]? with
        | some (.lst xs) => match allS (xs.map (toP 11 h)) with
          | some l => some (PyData.list l)
          | none => none
        | _ => none) := rfl
      rw [q]
      rw [lsOf_r] at hz
      revert hz
      generalize h[n]? = o
      intro hz
      match o, hz with
      | some (.lst us), hz =>
        cases hz
        dsimp only
        rw [e]
      | some (.dct _), hz => cases hz
      | some (.ins _ _), hz => cases hz
      | none, hz => cases hz
    | _ => cases hz
  unfold eqD
  rw [key hx e1, key hy e2]
theorem eqv_nil (l : List Int) : PyData.eqv (.list (l.map .int)) (.list []) = l.isEmpty := by
  cases l <;> simp [PyData.eqv, PyData.eqvAll]
def cellsN (ns : List Int) (m : Int) : List Int := if (cut ns none (some m)).isEmpty = true then [0] else cut ns none (some m)
theorem lc_dice {δ : DS} (hδ : 3 < δ.length) : ∀ (cs : List Int) (h : VH) (acc : List D), acc.length + cs.length ≤ 16777216 → lcT (gN 3) tYes (eF diceS (aCons (eV 3) aNil)) [3] δ (cs.map D.int) h acc = .ok (acc ++ (List.range cs.length).map fun i => D.ref (h.length + i)) (h ++ cs.map fun c => dO (dice0 c))
  | [], h, acc, _ => by simp [lcT]
  | c :: cs, h, acc, hl => by
    have h3 : ((wipe δ [3]).set 3 (some (D.int c)))[3]? = some (some (.int c)) := by
      have : (wipe δ [3]).set 3 (some (D.int c)) = ((δ.set 3 none).set 3 (some (D.int c))) := rfl
      rw [this, List.getElem?_set_self (by rw [List.length_set]; omega)]
    have hl' : acc.length < 16777216 := by rw [List.length_cons] at hl; omega
    rw [List.map_cons]
    unfold lcT
    simp only [ap_gN, ap_tYes, ap_eF, ap_aCons, ap_eV, vK_some, h3, bind_ok, ap_aNil, diceS, hl', if_true]
    rw [lc_dice hδ cs _ _ (by simp at hl ⊢; omega)]
    rw [List.length_cons, List.range_succ_eq_map]
    simp [Function.comp_def, Nat.add_assoc, Nat.add_comm 1]
theorem rounds_ok {x : D} {m : Int} {h : VH} {ns : List Int} (hx : lsOf x h = some (ns.map D.int)) (hsl : ∀ lo hi, oSl x lo hi h = some (.fls (cut (ns.map D.int) lo hi), h)) (hl : ns.length ≤ 1000) :
    runF 2 4 (b_law_rounds diceS) [x, .int m] h = .ok (.fls ((List.range (cellsN ns m).length).map fun i => .ref (h.length + i))) (h ++ (cellsN ns m).map fun c => dO (dice0 c)) := by
  have hcl : (cut ns none (some m)).length ≤ 1000 := by
    unfold cut
    exact Nat.le_trans (List.length_take_le' _ _) (Nat.le_trans (by rw [List.length_drop]; omega) hl)
  have run : runF 2 4 (b_law_rounds diceS) [x, .int m] h = endF (b_law_rounds diceS [some x, some (.int m), none, none] h) := rfl
  rw [run]
  have e1 : cut (ns.map D.int) none (some m) = (cut ns none (some m)).map D.int := map_cut _ _ _ _
  have ee : cEq (.fls ((cut ns none (some m)).map D.int)) (.fls []) h = some (.bl (cut ns none (some m)).isEmpty, h) := by
    have := eqD_ls (h := h) (x := .fls ((cut ns none (some m)).map D.int)) (y := .fls []) rfl rfl (toPs_int _) rfl
    rw [eqv_nil] at this
    show (match eqD (.fls ((cut ns none (some m)).map D.int)) (.fls []) h with
      | some b => some (D.bl b, h)
      | none => none) = _
    rw [this]
  cases hc : (cut ns none (some m)).isEmpty with
  | true =>
    have ec : cellsN ns m = [0] := by unfold cellsN; rw [hc] <;> rfl
    rw [ec]
    rw [hc] at ee
    have L := lc_dice (δ := [some x, some (.int m), some (.fls [.int 0]), none]) (by simp) [0] h [] (by decide)
    simp only [List.map_cons, List.map_nil, List.nil_append] at L
    simp [b_law_rounds, hsl, e1, ee, L, -ap_eLc]
    simp [L]
  | false =>
    have ec : cellsN ns m = cut ns none (some m) := by unfold cellsN; rw [hc] <;> rfl
    rw [ec]
    rw [hc] at ee
    have L := lc_dice (δ := [some x, some (.int m), some (.fls ((cut ns none (some m)).map D.int)), none]) (by simp) (cut ns none (some m)) h [] (by simp; omega)
    simp [b_law_rounds, hsl, e1, ee, L]
end FL
set_option Elab.async false
set_option linter.all false
set_option maxRecDepth 100000
set_option maxHeartbeats 2000000
namespace FL
open PySem
theorem cut_init {α : Type} (l : List α) (n : Nat) (hn : 0 < n) (h : n ≤ l.length) : cut l none (some (-(n : Int))) = l.take (l.length - n) := by
  unfold cut sIx
  have h0 : -(n : Int) < 0 := by omega
  simp only [h0, if_true, Nat.sub_zero, List.drop_zero]
  congr 1
  omega
theorem rng0 (n : Nat) : rng 0 (n : Int) = (List.range n).map fun (k : Nat) => D.int k := by
  unfold rng
  rw [Int.sub_zero, Int.toNat_natCast]
  simp
theorem okR_nat {a b : Nat} (ha : a ≤ 1000000000) (hb : b ≤ 1000000000) : okR a b = true := by
  unfold okR
  apply decide_eq_true
  omega
theorem rEnds_1 {n : Nat} (h : n ≤ 1000000000) : rEnds [.int (n : Int)] = some (0, (n : Int)) := by
  have : okR 0 (n : Int) = true := okR_nat (a := 0) (by decide) h
  simp only [rEnds, this, if_true]
theorem forR_1 {r : FA} {g : FG} {s : FSt} {δ : DS} {h h1 : VH} {n : Nat} (e : r δ h = .ok [.int (n : Int)] h1) (hn : n ≤ 1000000000) : sForR r g s δ h = forT g s ((List.range n).map fun (k : Nat) => D.int k) δ h1 := by
  rw [ap_sForR, e, thenS_ok, ← rng0]
  have := rEnds_1 hn
  generalize rEnds [.int (n : Int)] = o at *
  subst this
  rfl
theorem lcT_mapE {α : Type} {g : FG} {t : FT} {e : FE} {own : List Nat} {δ : DS} {h : VH} (en : α → D) (p : α → Bool) (f : α → D) : ∀ (xs : List α) (acc : List D), acc.length + xs.length ≤ 16777216 →
    (∀ x ∈ xs, ∃ δ1, g (en x) (wipe δ own) h = some (δ1, h) ∧ t δ1 h = .ok (p x) h ∧ (p x = true → e δ1 h = .ok (f x) h)) → lcT g t e own δ (xs.map en) h acc = .ok (acc ++ (xs.filter p).map f) h
  | [], acc, _, _ => by simp [lcT]
  | x :: xs, acc, hl, H => by
    obtain ⟨δ1, e1, e2, e3⟩ := H x List.mem_cons_self
    have hl' : acc.length + xs.length + 1 ≤ 16777216 := by rw [List.length_cons] at hl; omega
    rw [List.map_cons]
    unfold lcT
    simp only [e1, e2]
    cases hp : p x with
    | false =>
      dsimp only
      rw [lcT_mapE en p f xs acc (by omega) fun y hy => H y (List.mem_cons_of_mem _ hy), List.filter_cons, hp] <;> rfl
    | true =>
      dsimp only
      rw [e3 hp]
      dsimp only
      rw [if_pos (by omega), lcT_mapE en p f xs _ (by simp; omega) fun y hy => H y (List.mem_cons_of_mem _ hy), List.filter_cons, hp]
      simp
theorem seq_nx {s t : FSt} {δ δ1 : DS} {h h1 : VH} (e : s δ h = .nx δ1 h1) : sSeq s t δ h = t δ1 h1 := by rw [ap_sSeq, e, nextS_nx]
theorem seq_err {s t : FSt} {δ δ1 : DS} {h h1 : VH} {c : Nat} {p : Option D} (e : s δ h = .err c p δ1 h1) : sSeq s t δ h = .err c p δ1 h1 := by rw [ap_sSeq, e, nextS_err]
theorem run_nx {s t : FSt} {δ δ1 : DS} {h h1 : VH} {o : Out D} (e : s δ h = .nx δ1 h1) (q : endF (t δ1 h1) = o) : endF (sSeq s t δ h) = o := by rw [seq_nx e, q]
def ins {α : Type} [DecidableEq α] (l : List α) (x : α) : List α := if x ∈ l then l else l ++ [x]
theorem ins_mem {α : Type} [DecidableEq α] {l : List α} {x y : α} : y ∈ ins l x ↔ y ∈ l ∨ y = x := by
  unfold ins
  split
  · rename_i h
    constructor
    · exact .inl
    · rintro (h' | rfl)
      · exact h'
      · exact h
  · simp
theorem ins_nodup {α : Type} [DecidableEq α] {l : List α} {x : α} (h : l.Nodup) : (ins l x).Nodup := by
  unfold ins
  split
  · exact h
  · rename_i hx
    rw [List.nodup_append]
    refine ⟨h, by simp, fun a ha b hb => ?_⟩
    rw [List.mem_singleton.mp hb]
    intro e
    exact hx (e ▸ ha)
@[simp] theorem setD_r {k : Nat} {i v : D} {h : VH} : setD (.ref k) i v h = match h[k]? with
    | some (.dct kvs) => if isKey i = true ∧ kvs.length < 16777216 then some (h.set k (.dct (dPut kvs i v))) else none
    | _ => none := rfl
end FL
set_option Elab.async false
set_option linter.all false
set_option maxRecDepth 100000
set_option maxHeartbeats 2000000
namespace FL
open PySem
theorem allI_some : ∀ {xs : List D} {l : List Int}, allI xs = some l → xs = l.map D.int
  | [], l, e => by
    simp only [allI, Option.some.injEq] at e
    subst e
    rfl
  | x :: xs, l, e => by
    cases x with
    | int i =>
      simp only [allI] at e
      split at e
      · rename_i l' hl
        cases e
        rw [List.map_cons, ← allI_some hl]
      · cases e
    | _ => simp [allI] at e
def refsN (k n : Nat) : List D := (List.range n).map fun i => .ref (k + i)
def roundsS : List D → VH → Out D
  | [x, .int m], h => match lsOf x h with
    | some xs => match allI xs with
      | some ns => if ns.length ≤ 1000 then .ok (.fls (refsN h.length (cellsN ns m).length)) (h ++ (cellsN ns m).map fun c => dO (dice0 c)) else .bad
      | none => .bad
    | none => .bad
  | _, _ => .bad
theorem rounds_eq (xs : List D) (h : VH) : roundsS xs h = .bad ∨ runF 2 4 (b_law_rounds diceS) xs h = roundsS xs h := by
  unfold roundsS
  split
  · rename_i x m
    cases hx : lsOf x h with
    | none => exact .inl rfl
    | some xs =>
      dsimp only
      cases ha : allI xs with
      | none => exact .inl rfl
      | some ns =>
        dsimp only
        split
        · rename_i hl
          right
          have e := allI_some ha
          subst e
          refine rounds_ok hx (fun lo hi => ?_) hl
          cases x with
          | fls ys => cases hx; rfl
          | ref k =>
            rw [oSl_r, hx]
          | _ => cases hx
        · exact .inl rfl
  · exact .inl rfl
theorem rollS_set {j : Nat} {m : Int} {h : VH} {s : Dc} (hj : j < h.length) (hm : 0 < m) (hm2 : m < 1073741824) : rollS [.ref j, .int m] (h.set j (dO s)) = .ok (.int (dVal s m)) (h.set j (dO (dNext s m))) := by
  rw [rollS_ok hm hm2 (List.getElem?_set_self hj), List.set_set]
theorem law_both {F : List D → VH → Out D} (H : ∀ (x : D) (h : VH) (ns : List Int), lsOf x h = some (ns.map D.int) → ns.length ≤ 63 → ∃ h', F [x] h = .ok (.bl true) h') (ns : List Int) (hl : ns.length ≤ 63) : (∃ h', F [.fls (ns.map D.int)] [] = .ok (.bl true) h') ∧ ∃ h', F [.ref 0] [.lst (ns.map D.int)] = .ok (.bl true) h' :=
  ⟨H _ _ ns rfl hl, H _ _ ns rfl hl⟩
end FL
set_option Elab.async false
set_option linter.all false
set_option maxRecDepth 100000
set_option maxHeartbeats 2000000
namespace FL
open PySem PySem.Spec PyProof.Rows L2
structure CloS (N : List Str) (sc scope : Scope) (own : List (Str × Nat)) : Prop where
  kind : scope.kind = .function
  co : scope.isCoroutine = false
  uniq : ∀ y ∈ scope.names, scope.names.lookup y.1 = some y.2
  ix : ∀ p ∈ own, N[p.2]? = some p.1
  cell : ∀ y ∈ scope.names, y.2 ≠ .cell
  free : ∀ y ∈ scope.names, y.2 = .free → sc.names.lookup y.1 = some .cell ∨ sc.names.lookup y.1 = some .free
  own : ∀ y ∈ scope.names, y.2 = .local → y.1 ∈ own.map (·.1) ∨ y.1 ∉ N
def cloC (N : List Str) (sc scope : Scope) (own : List (Str × Nat)) : Bool :=
  decide (scope.kind = .function) && !scope.isCoroutine && (scope.names.all fun y => decide (scope.names.lookup y.1 = some y.2)) && (own.all fun p => decide (N[p.2]? = some p.1)) &&
  (scope.names.all fun y => !decide (y.2 = .cell)) &&
  (scope.names.all fun y => !decide (y.2 = .free) || decide (sc.names.lookup y.1 = some .cell) || decide (sc.names.lookup y.1 = some .free)) &&
  (scope.names.all fun y => !decide (y.2 = .local) || decide (y.1 ∈ own.map (·.1)) || !decide (y.1 ∈ N))
theorem clo_by {N : List Str} {sc scope : Scope} {own : List (Str × Nat)} (h : cloC N sc scope own = true) : CloS N sc scope own := by
  unfold cloC at h
  simp only [Bool.and_eq_true, Bool.or_eq_true, Bool.not_eq_true', decide_eq_true_eq, decide_eq_false_iff_not, List.all_eq_true] at h
  obtain ⟨⟨⟨⟨⟨⟨h1, h2⟩, h3⟩, h4⟩, h5⟩, h6⟩, h7⟩ := h
  refine ⟨h1, h2, h3, h4, h5, fun y hy e => ?_, fun y hy e => ?_⟩
  · rcases h6 y hy with (z | z) | z
    · exact absurd e z
    · exact .inl z
    · exact .inr z
  · rcases h7 y hy with (z | z) | z
    · exact absurd e z
    · exact .inl z
    · exact .inr z
def cloCx (X : Cx) (A : Around) (cenv : Env) (s : Shared) (H : Hp) (fp : List Addr) (xe : Value → Shared → Prop) : Cx :=
  { prog := X.prog, w := X.w, K := X.K, mg := X.mg, base := X.base, A := A.deeper cenv, N := X.N, s_0 := s, H_0 := H, env := cenv, outer := X.stack, stack := cenv :: X.stack, ex := fp, fn := fun _ => false, calm := true, pn := [], xe := xe }
section
variable {X : Cx} {pins : List (Addr × Obj)} {σ τ : L2.St} {H : Hp} {s : Shared} {g : Gc}
theorem CloS.has {scope : Scope} {own : List (Str × Nat)} (C : CloS X.N X.env.scope scope own) (ok : X.Ok) : ∀ y ∈ scope.names, y.2 = .free → ∃ c, X.env.cells.lookup y.1 = some c := fun y hy e => by
  rcases C.free y hy e with k | k
  · exact ok.has _ (.inl k)
  · exact ok.has _ (.inr k)
theorem clo_start {A : Around} {scope : Scope} {own : List (Str × Nat)} {cenv : Env} {fp : List Addr} {xe : Value → Shared → Prop} {h₁ : Heap} {tk : Nat} {gs : Array GenState} {mp : Str → Option Value} (I : Inv X pins σ H s) (C : CloS X.N X.env.scope scope own) (hN : X.N.Nodup) (hd : A.handled = none) (hf : A.frames = some X.stack)
    (e1 : cenv.scope = scope) (e2 : cenv.globals = mainGlobals) (e3 : cenv.builtins = builtinsNs) (e4 : cenv.cells = cloFrom X.env.cells scope.names []) (e5 : cenv.locals = s.heap.objs.size) (e6 : cenv.frame = some cenv.locals) (hb : AllBare gs)
    (hfp : ∀ b ∈ fp, FpOk X pins H b ∧ b < s.heap.objs.size) (hns : h₁.Ns s.heap.objs.size mp) (kp : ∀ b o, s.heap.get? b = some o → h₁.get? b = some o) (hl : τ.length = σ.length)
    (hτ : ∀ (i : Nat) (y : Str) (v : V), X.N[i]? = some y → τ[i]? = some (some v) → (L2.wipe σ (own.map (·.2)))[i]? = some (some v) ∨ (scope.names.lookup y = some .local ∧ ∃ u, RelV v u ∧ mp y = some u)) :
    Inv (cloCx X A cenv s H fp xe) [] τ H { s with heap := h₁, toks := tk, gens := gs } := by
  have hfree := C.has I.ok
  have cm : ∀ {y c}, cenv.cells.lookup y = some c → X.env.cells.lookup y = some c := fun {y c} e => by
    rw [e4] at e
    rcases cloFrom_mem (PySem.mem_of_lookup e) with hm | ⟨h1, h2⟩
    · cases hm
    · obtain ⟨c1, hc⟩ := hfree _ h1 rfl
      have hc : X.env.cells.lookup y = some c1 := hc
      have z : c = c1 := by
        rw [h2, hc] <;> rfl
      rw [z]
      exact hc
  have look : ∀ {y}, scope.names.lookup y = some .free → ∃ c, cenv.cells.lookup y = some c := fun {y} hl => by
    have hy : (y, NameKind.free) ∈ scope.names := PySem.mem_of_lookup hl
    rw [e4]
    exact mem_lookup (cloFrom_has (cells := X.env.cells) (acc := []) hy)
  have cellK : ∀ {c : Addr} {v : Option Value}, s.heap.IsCell c v → h₁.IsCell c v := fun {c v} ⟨o, ho, hd⟩ => ⟨o, kp _ _ ho, hd⟩
  have okB : (cloCx X A cenv s H fp xe).Ok := by
    refine ⟨I.ok.mod, ?_, e2, e3, ?_, fun y z c h1 h2 => I.ok.inj y z c (cm h1) (cm h2), fun y hy => ?_, fun y c z _ => ?_, fun _ => hd, Around.frames_deeper hf, .inr ⟨rfl, e6⟩, fun b hb => ⟨?_, fun y c e z => ?_⟩, I.bs, Nat.le_trans I.ok.bsz I.sz, fun b o e hb => ?_, fun b hb z => ?_, I.stack, I.stkFree⟩
    · show cenv.scope.kind = _
      rw [e1]
      exact C.kind
    · show s.heap.objs.size ≤ cenv.locals
      rw [e5]
      exact Nat.le_refl _
    · have hy : cenv.scope.names.lookup y = some .cell ∨ cenv.scope.names.lookup y = some .free := hy
      rw [e1] at hy
      rcases hy with hy | hy
      · exact absurd rfl (C.cell _ (PySem.mem_of_lookup hy))
      · exact look hy
    · have z : false = true := z
      cases z
    · show b ≠ cenv.locals
      rw [e5]
      exact Nat.ne_of_lt (hfp b hb).2
    · exact (hfp b hb).1.2.2.2.2.1 y c (cm e) z
    · rcases (hfp b hb).1.2.2.2.1 with z | z
      · exact I.ok.noex b o e z
      · exact absurd (Nat.lt_of_lt_of_le (Heap.lt_size e) (Nat.le_trans I.ok.bsz z)) (Nat.lt_irrefl _)
    · rcases List.mem_cons.mp (I.stkSub b z) with z | z
      · exact (hfp b hb).1.2.1 z
      · exact (hfp b hb).1.2.2.1 z
  refine ⟨okB, rfl, hb, Un.kept kp, ⟨mp, ?_, fun i y v h1 h2 h3 => ?_⟩, fun y c e => ?_, ?_, fun y c e => ?_, fun q hq => absurd (show q ∈ ([] : List (Addr × Obj)) ++ [] from hq) (by simp), I.hok.kept kp, hl.trans I.len⟩
  · show h₁.Ns cenv.locals _
    rw [e5]
    exact hns
  · have h3 : Vis cenv.scope y := h3
    rw [e1] at h3
    rcases hτ i y v h1 h2 with h4 | ⟨h4, u, h5, h6⟩
    · obtain ⟨h4, hne⟩ := wipe_some h4
      rcases h3 with k | k | k
      · rcases C.own _ (PySem.mem_of_lookup k) rfl with z | z
        · obtain ⟨p, hp, hpy⟩ := List.mem_map.mp z
          have q := C.ix p hp
          have hpy : p.1 = y := hpy
          rw [hpy] at q
          exact absurd (List.mem_map.mpr ⟨p, hp, nodup_ix hN q h1⟩) hne
        · exact absurd (List.mem_of_getElem? h1) z
      · exact absurd rfl (C.cell _ (PySem.mem_of_lookup k))
      · obtain ⟨m, hn, hlk⟩ := I.loc
        have hvis : Vis X.env.scope y := (C.free _ (PySem.mem_of_lookup k) rfl).elim (fun k => .inr (.inl k)) (fun k => .inr (.inr k))
        obtain ⟨w', r, q⟩ := hlk i y v h1 h4 hvis
        obtain ⟨c2, hc2⟩ := look k
        refine ⟨w', r, .inr ⟨.inr ?_, c2, hc2, ?_⟩⟩
        · show cenv.scope.names.lookup y = _
          rw [e1]
          exact k
        have c1 := cm hc2
        rcases q with ⟨k', _⟩ | ⟨_, c3, e', z⟩
        · have k' : X.env.scope.names.lookup y = some .local := k'
          rcases C.free _ (PySem.mem_of_lookup k) rfl with k2 | k2 <;> rw [show X.env.scope.names.lookup y = _ from k2] at k' <;> cases k'
        · rw [c1] at e'
          cases e'
          exact cellK z
    · refine ⟨u, h5, .inl ⟨?_, h6⟩⟩
      show cenv.scope.names.lookup y = _
      rw [e1]
      exact h4
  · obtain ⟨w', z⟩ := I.cell y c (cm e)
    exact ⟨w', cellK z⟩
  · show H cenv.locals = none
    rw [e5]
    exact I.hok.fresh (Nat.le_refl _)
  · exact I.freeC y c (cm e)
structure LamF (X : Cx) (g : Gc) (k : Nat) (params : Arguments) (body : Expr) (scope : Scope) (own : List (Str × Nat)) (i : Nat) (fe : FE) : Prop where
  C : CloS X.N X.env.scope scope own
  gen : scope.isGenerator = false
  par : ∃ a, X.N[i]? = some a ∧ scope.names.lookup a = some .local ∧ ∀ (q : Str) (cl : List (Str × Addr)) (pm cv ctv u : Value), bindArgs (PySem.W.kla_fn "<lambda>" q params body scope cl pm cv ctv) ⟨[u], []⟩ = pure [(a, u)]
  body : ∀ (A : Around) (s : Shared) (H : Hp) (L f c' : Addr), Room k (A.deeper (LamX.lamEnv X scope L f c')) → PE (cloCx X A (LamX.lamEnv X scope L f c') s H [] (fun _ _ => False)) body (rd X.K g W0 fe)
theorem lam_call {k i : Nat} {params : Arguments} {body : Expr} {scope : Scope} {own : List (Str × Nat)} {fe : FE} {A : Around} {f c' : Addr} {pm ctv v : Value} {x : V} {Q : VK} (F : LamF X g k params body scope own i fe) (hN : X.N.Nodup) (I : Inv X pins σ H s)
    (hf : s.heap.get? f = some (PySem.W.kla_obj "<lambda>" (X.env.qual ++ "<lambda>") params body scope (cloFrom X.env.cells scope.names []) pm c' ctv)) (hc : H c' = some (LamX.CodeO c' (X.env.qual ++ "<lambda>"))) (hr : Room (k + 1) A) (hA : A.frames = some X.stack) (rx : RelV x v)
    (h : rd X.K g W0 fe ((L2.wipe σ (own.map (·.2))).set i (some x)) H Q) :
    wpAny (model X.prog X.w) A (call (.ref f) [v]) (EP X pins σ Q) (fun _ _ => False) s := by
  obtain ⟨a, ha, hal, hbind⟩ := F.par
  obtain ⟨⟨oc, vs, t, hoc, hdc, hvc⟩, _, _⟩ := I.hok c' _ hc
  have rc : codeAny (model X.prog X.w) A (.call (.ref f) ⟨[v], []⟩) (CR C8.CX0 X.stack X.prog X.w H s Q C8.E0) s := by
    refine PySem.W.kla_callFunE hr.depth hf rfl F.C.co F.gen rfl ⟨c', oc, vs, t, rfl, hoc, hdc, hvc⟩ ?_
    rw [hbind]
    refine wpAny_pure (wpAny_newFunctionEnv (fun y hy => F.C.cell y hy) (fun y hy => by
      rw [List.mem_singleton.mp hy]
      exact hal) (fun h₁ hns hsb => ⟨I.nolimit.fresh _ hsb, ?_⟩) F.C.kind)
    show codeAny _ _ (.expr body (LamX.lamEnv X scope s.heap.objs.size f c')) _ _
    have kp : ∀ b o, s.heap.get? b = some o → h₁.get? b = some o := fun b o e => hsb.extBut b o (Nat.ne_of_lt (Heap.lt_size e)) (Heap.get?_push_of_some _ e)
    have hlen : (L2.wipe σ (own.map (·.2))).length = σ.length := L2.wipe_length ..
    have J : Inv (cloCx X A (LamX.lamEnv X scope s.heap.objs.size f c') s H [] (fun _ _ => False)) [] ((L2.wipe σ (own.map (·.2))).set i (some x)) H { s with heap := h₁, toks := s.toks + ([(a, v)] : List (Str × Value)).length, gens := s.gens } := by
      refine clo_start I F.C hN hr.hd hA rfl rfl rfl rfl rfl rfl I.bare (fun b hb => absurd hb (by simp)) hns kp (by rw [List.length_set]; exact hlen) fun j y w hy hw => ?_
      by_cases hij : i = j
      · subst hij
        by_cases hl : i < (L2.wipe σ (own.map (·.2))).length
        · rw [List.getElem?_set_self hl] at hw
          cases hw
          rw [ha] at hy
          cases hy
          exact .inr ⟨hal, v, rx, by simp⟩
        · rw [List.getElem?_eq_none (by rw [List.length_set]; omega)] at hw
          cases hw
      · rw [List.getElem?_set_ne hij] at hw
        exact .inl hw
    refine PySem.W.kla_codeExpr (wpAny_mono ((F.body A s H _ f c' (hr.deeper _)).run [] _ _ H Q J h) (fun v s' hq => ?_) fun e s' hq => hq.elim)
    obtain ⟨w', H', J', rv, q⟩ := hq
    exact ⟨w', H', J'.os, J'.bare, J'.base, J'.hok, rv, q⟩
  refine wpAny_call (codeAny_mono rc fun r s2 hq => ?_)
  cases r with
  | error e => exact (show False from hq).elim
  | ok fl =>
    cases fl with
    | ret u => exact I.after hq
    | next => exact False.elim hq
    | brk => exact False.elim hq
    | cont => exact False.elim hq
end
end FL
set_option Elab.async false
set_option linter.all false
set_option maxRecDepth 100000
set_option maxHeartbeats 2000000
namespace FL
open PySem PySem.Spec PyProof.Rows L2
theorem allS_imp {α β : Type} {f f' : α → Option β} : ∀ {xs : List α} {l : List β}, (∀ x ∈ xs, ∀ b, f x = some b → f' x = some b) → allS (xs.map f) = some l → allS (xs.map f') = some l
  | [], l, _, e => e
  | x :: xs, l, h, e => by
    rw [List.map_cons] at e
    obtain ⟨a, l', e1, e2, rfl⟩ := allS_cons e
    rw [List.map_cons, h x List.mem_cons_self a e1]
    show (match allS (xs.map f') with | some l => some (a :: l) | none => none) = _
    rw [allS_imp (fun y hy => h y (List.mem_cons_of_mem _ hy)) e2]
theorem toP_nil : ∀ (n : Nat) (h : VH) (y : FL.D) (p : PyData), toP n [] y = some p → toP n h y = some p
  | 0, _, _, _, e => by cases e
  | n + 1, h, .tup xs, p, e => by
    unfold toP at e ⊢
    split at e
    · rename_i l hl
      rw [allS_imp (fun x _ b hb => toP_nil n h x b hb) hl]
      exact e
    · cases e
  | n + 1, h, .fls xs, p, e => by
    unfold toP at e ⊢
    split at e
    · rename_i l hl
      rw [allS_imp (fun x _ b hb => toP_nil n h x b hb) hl]
      exact e
    · cases e
  | n + 1, h, .ref k, p, e => by
    unfold toP at e
    simp at e
  | n + 1, h, .non, p, e => e
  | n + 1, h, .bl _, p, e => e
  | n + 1, h, .int _, p, e => e
  | n + 1, h, .str _, p, e => e
  | n + 1, h, .fdc _ _, p, e => by unfold toP at e; cases e
  | n + 1, h, .ty _, p, e => by unfold toP at e; cases e
  | n + 1, h, .adr _, p, e => by unfold toP at e; cases e
  | n + 1, h, .clo _ _, p, e => by unfold toP at e; cases e
noncomputable def keyC (own : List Nat) (i : Nat) (fe : FE) (δ : DS) (h : VH) (x : FL.D) : Option (FL.D × PyData) := match fe ((FL.wipe δ own).set i (some x)) h with
  | .ok y h' => open Classical in if h' = h then (match toP deep [] y with
    | some p => some (y, p)
    | none => none) else none
  | _ => none
theorem keyC_some {own : List Nat} {i : Nat} {fe : FE} {δ : DS} {h : VH} {x : FL.D} {y : FL.D} {p : PyData} (e : keyC own i fe δ h x = some (y, p)) : fe ((FL.wipe δ own).set i (some x)) h = .ok y h ∧ toP deep [] y = some p := by
  unfold keyC at e
  split at e
  · rename_i y' h' he
    split at e
    · rename_i hh
      subst hh
      split at e
      · rename_i p' hp
        cases e
        exact ⟨he, hp⟩
      · cases e
    · cases e
  · cases e
section
variable {X : Cx} {pins : List (Addr × Obj)} {σ : L2.St} {H : Hp} {s : Shared} {g : Gc}
theorem Inv.adopt {h' : Heap} {t' : Nat} {gs' : Array GenState} {ch : List Addr} {a : Addr} {o : HO} (I : Inv X pins σ H s) (hch : ∀ b ∈ ch, FpOk X pins H b) (ha : a ∈ ch) (hg : AllBare gs')
    (k : ∀ b u, b ∉ ch → s.heap.get? b = some u → h'.get? b = some u) (new : ObjOk X.prog X.w (upd H a o) h' a o) (hi : ∀ b, o ≠ .own b) : Inv X pins σ (upd H a o) { s with heap := h', toks := t', gens := gs' } := by
  have nA : H a = none := (hch a ha).1
  have hn : ∀ b u, H b = some u → b ∉ ch := fun b u e z => by
    rw [(hch b z).1] at e
    cases e
  have hne : ∀ b u, H b = some u → b ≠ a := fun b u e => ne_of_none e nA
  refine I.call (g' := gs') (d' := s.drawn) (t' := t') (ch := ch) ⟨fun b u e n _ hx => k b u hx e, fun b u e n _ hx => ⟨u.slots, k b u hx e⟩, fun b u e n hx => ?_, fun b u e hx => ⟨u, k b u hx e⟩, fun b xs e => ?_, fun b ob xs e => ?_, fun b ps e => ⟨#[], ?_⟩⟩ (fun b u e => ?_) hg (fun b hb => ?_)
  · rw [upd_ne (fun z => hx (by rw [z]; exact ha))]
    exact n
  · rw [upd_ne (hne b _ e)]
    exact e
  · rw [upd_ne (hne b _ e)]
    exact e
  · rw [upd_ne (hne b _ e), e]
    simp
  · by_cases hb : b = a
    · subst hb
      rw [upd_same] at e
      cases e
      exact new
    · rw [upd_ne hb] at e
      refine (I.hok b u e).stay (fun d v hd q => k d v ?_ q) (fun d q => ?_) fun d xs q => ?_
      · rcases hd with z | z
        · rw [z]
          exact hn b u e
        · exact hn d _ z
      · rw [upd_ne (hne d _ q)]
        exact q
      · rw [upd_ne (hne d _ q)]
        exact q
  · obtain ⟨_, f1, f2, f3, f4, f5⟩ := hch b hb
    exact ⟨f3, f1, f4, f5⟩
theorem Inv.turnF {h' : Heap} {t' : Nat} {a : Addr} (I : Inv X pins σ H s) (f : FpOk X pins H a) (k : ∀ b u, b ≠ a → s.heap.get? b = some u → h'.get? b = some u) : Inv X pins σ H { s with heap := h', toks := t' } := by
  obtain ⟨f0, f1, f2, f3, f4, f5⟩ := f
  exact I.turned k f0 f1 f3 f4 f5
theorem Inv.pinsub {pins' : List (Addr × Obj)} (I : Inv X pins σ H s) (h : ∀ p ∈ pins', p ∈ pins) : Inv X pins' σ H s := I.pins_of fun p hp => I.pin p (List.mem_append_right _ (h p hp))
theorem Inv.pin1 {a : Addr} {o : Obj} (I : Inv X pins σ H s) (f : FpOk X pins H a) (e : s.heap.get? a = some o) (hd : ∀ v, o.data ≠ .cell v) : Inv X (pins ++ [(a, o)]) σ H s := I.pins_of fun p hp => by
  rcases List.mem_append.mp hp with z | z
  · exact I.pin p (List.mem_append_right _ z)
  · rw [List.mem_singleton.mp z]
    exact ⟨e, f.1, f.2.1, f.2.2.1, hd⟩
theorem each_snd {R : Value → PyData → Prop} : ∀ {us : List Value} {xs : List FL.D} {l : List PyData}, l.length = xs.length → PySem.W.EachIs (fun v (b : FL.D × PyData) => R v b.2) us (xs.zip l) → PySem.W.EachIs R us l
  | us, [], [], _, h => by
    cases h
    exact .nil
  | us, [], _ :: _, hl, _ => by simp at hl
  | us, _ :: _, [], hl, _ => by simp at hl
  | us, x :: xs, a :: l, hl, h => by
    rw [List.zip_cons_cons] at h
    cases h with
    | cons h1 h2 => exact .cons h1 (each_snd (by simpa using hl) h2)
end
section
variable {X : Cx} {pins : List (Addr × Obj)} {σ : L2.St} {s : Shared} {g : Gc}
structure KLoop (X : Cx) (g : Gc) (pins : List (Addr × Obj)) (σ : L2.St) (m0 : Nat → Addr) (h : VH) (H0 : Hp) (a kS : Addr) (e1 : Nat) (ys : List FL.D) (i : Nat) (s' : Shared) : Prop where
  ex : ∃ m H kA e ws, Inv X (pins ++ [(kS, seqObj "list" kA e), (a, seqObj "list" #[] e1)]) σ H s' ∧ Sim X.K g m h H ∧ Ext m0 h.length H0 m h.length H ∧ Vals ws kA.toList ∧ RDs X.K m h.length H (ys.take i) ws
theorem sort_keys {f : Value} {A : Around} {E : Value → Shared → Prop} {P : PySem.Fin → Shared → Prop} {m0 : Nat → Addr} {h : VH} {H0 : Hp} {a kS : Addr} {e1 : Nat} {ys : List FL.D} {vs : List Value} (hlen : ys.length = vs.length) (hZ : vs.length ≤ sizeLine) (hka : kS ≠ a)
    (fk : ∀ H, H kS = none → FpOk X pins H kS) (fa : ∀ H, H a = none → FpOk X pins H a)
    (h0 : KLoop X g pins σ m0 h H0 a kS e1 ys 0 s)
    (turn : ∀ (i : Nat) (v : Value) (y : FL.D), vs[i]? = some v → ys[i]? = some y → ∀ (s : Shared) (pins' : List (Addr × Obj)) (m : Nat → Addr) (H : Hp), Inv X (pins ++ pins') σ H s → Sim X.K g m h H → Ext m0 h.length H0 m h.length H →
      wpAny (model X.prog X.w) A (call f [v]) (EP X (pins ++ pins') σ fun w H' => ∃ m', Sim X.K g m' h H' ∧ Ext m h.length H m' h.length H' ∧ RD X.K m' h.length H' y w) (fun _ _ => False) s)
    (done : ∀ s' kA e m H ws, Inv X (pins ++ [(kS, seqObj "list" kA e), (a, seqObj "list" #[] e1)]) σ H s' → Sim X.K g m h H → Ext m0 h.length H0 m h.length H → Vals ws kA.toList → RDs X.K m h.length H ys ws → wpAny (model X.prog X.w) A (ksk_end a false vs.toArray e1 (.ref kS) kA) P E s') :
    wpAny (model X.prog X.w) A (ksk_rest a f false vs.toArray e1 (.ref kS)) P E s := by
  unfold ksk_rest
  refine wpAny_bind (wpAny_rule ?_)
  first
    | rw [List.forIn_toArray]
    | (rw [← Array.forIn_toList]; simp only [List.toList_toArray])
  refine wpAny_bind (ksk_fold (KLoop X g pins σ m0 h H0 a kS e1 ys) vs 0 s h0 (fun j x s' hx q => ?_) fun s' q => ?_)
  · rw [Nat.zero_add] at q ⊢
    obtain ⟨m, H, kA, e, ws, I, sm, ex, vw, rw'⟩ := q.ex
    have hj : j < vs.length := (List.getElem?_eq_some_iff.mp hx).1
    obtain ⟨y, hy⟩ : ∃ y, ys[j]? = some y := ⟨_, List.getElem?_eq_getElem (by omega)⟩
    have hz : kA.size ≤ vs.length := by
      have h1 := vw.length
      have h2 := rw'.length
      have h3 : kA.toList.length = kA.size := Array.length_toList
      rw [List.length_take] at h2
      omega
    refine wpAny_bind (wpAny_attempt (wpAny_mono (turn j x y hx hy s' _ m H I sm ex) (fun v s2 hq => ?_) fun _ _ z => z.elim))
    obtain ⟨w, H2, I2, rv, m2, sm2, ex2, ry⟩ := hq
    have pk := I2.pin (kS, seqObj "list" kA e) (List.mem_append_right _ (List.mem_append_right _ List.mem_cons_self))
    have pa := I2.pin (a, seqObj "list" #[] e1) (List.mem_append_right _ (List.mem_append_right _ (List.mem_cons_of_mem _ List.mem_cons_self)))
    have s1 := Heap.SameBut.update s2.heap kS (Obj.mapSeq (·.push v))
    obtain ⟨c2, hc2⟩ : ∃ c2, (s2.heap.update kS (Obj.mapSeq (·.push v))).get? kS = some (seqObj "list" (kA.push v) c2) := ⟨_, get?_update_seq pk.1 (·.push v)⟩
    refine wpAny_bind (listUpdate_at pk.1 rfl ?_ (Nat.le_trans hz hZ) (Nat.le_trans (Nat.le_of_eq (Array.size_push ..)) (Nat.succ_le_succ (Nat.le_trans hz hZ))))
    refine wpAny_pure ⟨rfl, ⟨m2, H2, kA.push v, c2, ws ++ [w], ?_, sm2, ex.trans ex2, ?_, ?_⟩⟩
    · have I3 : Inv X pins σ H2 { s2 with heap := s2.heap.update kS (Obj.mapSeq (·.push v)), toks := s2.toks } := Inv.turnF (FL.Inv.pinsub I2 fun p hp => List.mem_append_left _ hp) (fk H2 pk.2.1) fun b u hb e => (s1.2 b hb).trans e
      refine I3.pins_of fun p hp => ?_
      rcases List.mem_append.mp hp with z | z
      · exact I3.pin p (List.mem_append_right _ z)
      · rcases List.mem_cons.mp z with rfl | z
        · exact ⟨hc2, pk.2.1, pk.2.2.1, pk.2.2.2.1, fun v z => by cases z⟩
        · rw [List.mem_singleton.mp z]
          exact ⟨(s1.2 a hka.symm).trans pa.1, pa.2⟩
    · rw [Array.toList_push]
      exact vw.append (.cons rv .nil)
    · rw [List.take_add_one, hy]
      exact (RDs.mono (Nat.le_refl _) ex2.eq ex2.im _ _ rw').append (.cons ry .nil)
  · obtain ⟨m, H, kA, e, ws, I, sm, ex, vw, rw'⟩ := q.ex
    have nk := (I.pin (kS, seqObj "list" kA e) (List.mem_append_right _ (List.mem_append_right _ List.mem_cons_self))).1
    refine wpAny_bind (listItems_at nk rfl ?_)
    refine done s' kA e m H ws I sm ex vw ?_
    rw [List.take_of_length_le (by omega)] at rw'
    exact rw'
end
section
variable {X : Cx} {pins : List (Addr × Obj)} {σ : L2.St} {s : Shared} {g : Gc}
theorem sort_end {A : Around} {E : Value → Shared → Prop} {P : PySem.Fin → Shared → Prop} {m : Nat → Addr} {h : VH} {H : Hp} {a kS : Addr} {e e1 : Nat} {kA : Array Value} {ys xs : List FL.D} {vs : List Value} {ws us : List V} {l : List PyData} (hu : A.units + 13 < cLine) (hZ : vs.length ≤ sizeLine) (hka : kS ≠ a)
    (fk : FpOk X pins H kS) (fa : FpOk X pins H a) (I : Inv X (pins ++ [(kS, seqObj "list" kA e), (a, seqObj "list" #[] e1)]) σ H s) (sm : Sim X.K g m h H) (vw : Vals ws kA.toList) (rw' : RDs X.K m h.length H ys ws)
    (vu : Vals us vs) (ru : RDs X.K m h.length H xs us) (hl : allS (ys.map (toP deep [])) = some l) (hxy : ys.length = xs.length) (al : alikes l = true) (so : sortable l = true)
    (q : ∀ (h3 : Heap) (tk : Nat) (zs : List V), Inv X pins σ (upd H a (.lst zs)) { s with heap := h3, toks := tk } → RDs X.K m h.length H (sortD (xs.zip l)) zs → P (.done (.ret .none)) { s with heap := h3, toks := tk }) :
    wpAny (model X.prog X.w) A (ksk_end a false vs.toArray e1 (.ref kS) kA) P E s := by
  have pk := I.pin (kS, seqObj "list" kA e) (List.mem_append_right _ (List.mem_append_right _ List.mem_cons_self))
  have pa := I.pin (a, seqObj "list" #[] e1) (List.mem_append_right _ (List.mem_append_right _ (List.mem_cons_of_mem _ List.mem_cons_self)))
  have lly := allS_len hl
  have ll : l.length = xs.length := lly.trans hxy
  have hl2 : allS (ys.map (toP deep h)) = some l := allS_imp (fun x _ b hb => toP_nil deep h x b hb) hl
  obtain ⟨er, dp⟩ := each_read I sm rw' vw hl2
  have hk' : PySem.W.EachIs (fun v k => ∃ as, Reads s.heap v k as) kA.toList l := each_snd lly er
  have hsz : kA.size = vs.length := by
    have h1 := vw.length
    have h2 := rw'.length
    have h3 : kA.toList.length = kA.size := Array.length_toList
    have h4 := vu.length
    have h5 := ru.length
    omega
  have dpl : ∀ d ∈ l, A.units + d.depth < cLine := fun d hd => by
    have hd2 : d ∈ (ys.zip l).map (·.2) := by rw [zip_snd lly]; exact hd
    obtain ⟨b, hb, rfl⟩ := List.mem_map.mp hd2
    have := dp b hb
    have : deep = 12 := rfl
    omega
  obtain ⟨G, g1, g2⟩ := restrict s.heap fun b => !decide (b = kS)
  have gk : ∀ b o, b ≠ kS → s.heap.get? b = some o → G.get? b = some o := fun b o hb e => by rw [g1 b (by simp [hb])]; exact e
  refine PySem.W.keyH_end (κ := PySem.W.dataKind s.heap l) (h₁ := G) (fun b o hb e => ?_) (g2 kS (by simp)) pk.1 pa.1 hka (PySem.W.SortsAt.data hk' (alikes_all al) (sortable_of so) dpl) hsz hZ fun h3 tk3 c k3 n3 => ?_
  · by_cases hb2 : b = kS
    · rw [hb2, g2 kS (by simp)] at e
      cases e
    · rw [g1 b (by simp [hb2])] at e
      exact e
  · have ko : PySem.W.KeyedOut false l vs (PySem.W.sortVals (PySem.W.dataKind s.heap l) false kA.toList vs) := ⟨s.heap, kA.toList, alikes_all al, rfl, hk'⟩
    have e2 : PySem.W.EachIs (StD X.K m h.length H) (PySem.W.sortVals (PySem.W.dataKind s.heap l) false kA.toList vs) ((xs.zip l).mergeSort (PySem.W.dataLe false (·.2))) :=
      PySem.W.keyedOut_each (bs := xs.zip l) (·.2) (by rw [zip_snd ll]; exact ko) (each_std ru vu ll)
    obtain ⟨zs, z1, z2⟩ := sort_rds (X := X) e2
    refine q h3 tk3 zs ?_ z2
    refine Inv.adopt (ch := [kS, a]) (FL.Inv.pinsub I fun p hp => List.mem_append_left _ hp) (fun b hb => ?_) (List.mem_cons_of_mem _ List.mem_cons_self) I.bare (fun b u hb e => k3 b u (fun z => hb (by rw [z]; simp)) (gk b u (fun z => hb (by rw [z]; simp)) e)) ⟨?_, _, c, z1, n3⟩ (fun b z => by cases z)
    · rcases List.mem_cons.mp hb with rfl | hb
      · exact fk
      · rw [List.mem_singleton.mp hb]
        exact fa
    · have h6 := z2.length
      have h7 : (sortD (xs.zip l)).length = xs.length := by
        unfold sortD
        rw [List.length_map, List.length_mergeSort, List.length_zip, ll, Nat.min_self]
      have h8 := ru.length
      have h9 := vu.length
      rw [← h6, h7, h8, h9]
      exact hZ
end
end FL
set_option Elab.async false
set_option linter.all false
set_option maxRecDepth 100000
set_option maxHeartbeats 2000000
namespace FL
open PySem PySem.Spec PyProof.Rows L2
section
variable {X : Cx} {pins : List (Addr × Obj)} {σ : L2.St} {H : Hp} {s : Shared} {g : Gc} {W : WX}
theorem allS_get {α β : Type} {f : α → Option β} : ∀ {xs : List α} {l : List β} {i : Nat} {x : α}, allS (xs.map f) = some l → xs[i]? = some x → ∃ b, l[i]? = some b ∧ f x = some b
  | [], _, _, _, _, h => by simp at h
  | x :: xs, l, i, y, e, h => by
    rw [List.map_cons] at e
    obtain ⟨a, l', e1, e2, rfl⟩ := allS_cons e
    cases i with
    | zero =>
      simp at h
      subst h
      exact ⟨a, by simp, e1⟩
    | succ i =>
      obtain ⟨b, h1, h2⟩ := allS_get (i := i) e2 (by simpa using h)
      exact ⟨b, by simpa using h1, h2⟩
theorem keys_nil {own : List Nat} {i : Nat} {fe : FE} {δ : DS} {h : VH} : ∀ {xs : List FL.D} {l : List (FL.D × PyData)}, allS (xs.map (keyC own i fe δ h)) = some l → allS ((l.map (·.1)).map (toP deep [])) = some (l.map (·.2))
  | [], l, e => by
    simp only [List.map_nil, allS, Option.some.injEq] at e
    subst e
    rfl
  | x :: xs, l, e => by
    rw [List.map_cons] at e
    obtain ⟨⟨y, p⟩, l', e1, e2, rfl⟩ := allS_cons e
    obtain ⟨_, hp⟩ := keyC_some e1
    show allS (toP deep [] y :: (l'.map (·.1)).map (toP deep [])) = _
    rw [hp]
    have ih := keys_nil e2
    simp only [allS, ih, List.map_cons]
theorem lam_mk {P c : Addr} {params : Arguments} {body : Expr} {scope : Scope} {pos : Pos} {E : Value → Shared → Prop} {Q : Value → Shared → Prop} {m : Nat → Addr} {h : VH} {own : List (Str × Nat)} (I : Inv X pins σ H s) (sm : Sim X.K g m h H) (TB : LamX.TabB X.base X.mg c P) (hcode : X.env.code = .ref c)
    (hm : (P, X.env.qual ++ "<lambda>") ∈ g.T) (hu : ∀ p ∈ g.T, p.1 = P → p.2 = X.env.qual ++ "<lambda>") (C : CloS X.N X.env.scope scope own) (hdef : defaultsOf params X.env = ([], []))
    (q : ∀ (f c' : Addr) (pm ctv : Value) (H1 : Hp) (s' : Shared), Inv X (pins ++ [(f, PySem.W.kla_obj "<lambda>" (X.env.qual ++ "<lambda>") params body scope (cloFrom X.env.cells scope.names []) pm c' ctv)]) σ H1 s' → Ext m h.length H m h.length H1 → Sim X.K g m h H1 → H1 c' = some (LamX.CodeO c' (X.env.qual ++ "<lambda>")) → Q (.ref f) s') :
    wpAny (model X.prog X.w) X.A (eval (.Lambda params body scope pos) X.env) Q E s := by
  refine LamX.lam_make2 I TB hcode hm hu sm.tab hdef (C.has I.ok) fun f c' pm ctv H1 s' I1 eN T1 hf hfn hfr hc => ?_
  obtain ⟨e1, s1⟩ := Ext_of sm eN T1
  refine q f c' pm ctv H1 s' (I1.pins_of fun p hp => ?_) e1 s1 hc
  rcases List.mem_append.mp hp with z | z
  · exact I1.pin p (List.mem_append_right _ z)
  · rw [List.mem_singleton.mp z]
    have hL : f ∉ X.fs := fun hb => hfr (by
      rcases I.ok.stk with e | ⟨e, hf⟩
      · rw [e]
        exact hb
      · rw [e]
        unfold frs
        rw [List.filterMap_cons, hf]
        exact List.mem_cons_of_mem _ hb)
    refine ⟨hf, hfn, fun z => ?_, hL, fun v z => by cases z⟩
    obtain ⟨mm, ⟨o, es, ep, ho, hd, _⟩, _⟩ := I1.loc
    rw [← z, hf] at ho
    cases ho
    cases hd
theorem heap_withD (a : Addr) (o : Obj) (hn : o.data ≠ .freed) : ∃ h : Heap, h.get? a = some o := by
  refine ⟨{ objs := Array.replicate (a + 1) o }, ?_⟩
  unfold Heap.get?
  have e : (Array.replicate (a + 1) o)[a]? = some o := by simp
  simp only [e]
  obtain ⟨c, d, dt, sl⟩ := o
  cases dt <;> first | rfl | exact absurd rfl hn
theorem rawD_code {a : Addr} {es : Array DictEntry} {ep : Nat} {q : Str} : RawD a es ep ≠ LamX.CodeO a q := fun z => by
  unfold RawD LamX.CodeO at z
  injection z with z
  obtain ⟨h, e⟩ := heap_withD a { cls := .type "dict", dict := none, data := .dict es ep, slots := #[] } (fun y => by cases y)
  have h1 : (∃ o, h.get? a = some o ∧ o.ExactDict ∧ o.data = .dict es ep) := ⟨_, e, ⟨rfl, rfl, rfl⟩, rfl⟩
  have h2 := congrFun z h
  rw [show (∃ o, h.get? a = some o ∧ o.ExactDict ∧ o.data = .dict es ep) = _ from h2] at h1
  obtain ⟨oc, vs, t, f1, f2, _⟩ := h1
  rw [e] at f1
  cases f1
  cases f2
theorem Ext.code {K : PySem.W.Frag} {m m' : Nat → Addr} {h : VH} {n' : Nat} {H H' : Hp} {c : Addr} {q : Str} (sm : Sim K g m h H) (e : Ext m h.length H m' n' H') (hc : H c = some (LamX.CodeO c q)) : H' c = some (LamX.CodeO c q) := by
  refine e.fr c _ (fun k hk z => ?_) hc trivial
  have ro := sm.obj k h[k] (by simp [hk])
  rw [z] at ro
  unfold LamX.CodeO at hc
  cases ho : h[k] with
  | lst xs =>
    rw [ho] at ro
    obtain ⟨vs, e1, _⟩ := ro
    rw [hc] at e1
    cases e1
  | dct xs =>
    rw [ho] at ro
    obtain ⟨vs, e1, _⟩ := ro
    rw [hc] at e1
    cases e1
  | ins c fs =>
    rw [ho] at ro
    obtain ⟨C, dx, vs, _, e1, _⟩ := ro
    rw [hc] at e1
    cases e1
  | fdk xs =>
    rw [ho] at ro
    obtain ⟨o, vs, e1, _⟩ := ro
    rw [hc] at e1
    cases e1
  | nkd xs =>
    rw [ho] at ro
    obtain ⟨es, ep, ys, x⟩ := ro
    have x1 := x.at_
    rw [hc] at x1
    exact absurd (Option.some.inj x1).symm (rawD_code (q := q))
end
end FL
set_option Elab.async false
set_option linter.all false
set_option maxRecDepth 100000
set_option maxHeartbeats 2000000
namespace FL
open PySem PySem.Spec PyProof.Rows L2
def notNo : PyData → Bool
  | .none => false
  | _ => true
def minP1 (b : FL.D × PyData) : List (FL.D × PyData) → FL.D × PyData
  | [] => b
  | a :: r => minP1 (if PySem.W.dataLt a.2 b.2 = true then a else b) r
def minP : List (FL.D × PyData) → Option FL.D
  | [] => none
  | a :: r => some (minP1 a r).1
noncomputable def eMinK (r : FA) (own : List Nat) (i : Nat) (fe : FE) : FE := fun δ h => (r δ h).bind fun xs h => match rEnds xs with
  | some (lo, hi) => match allS ((rng lo hi).map (keyC own i fe δ h)) with
    | some l => if (alikes (l.map (·.2)) && (l.map (·.2)).all notNo) = true then (match minP ((rng lo hi).zip (l.map (·.2))) with
      | some d => .ok d h
      | none => .bad) else .bad
    | none => .bad
  | none => .bad
section
variable {X : Cx} {pins : List (Addr × Obj)} {σ : L2.St} {H : Hp} {s : Shared} {g : Gc} {W : WX}
abbrev Cx.at (X : Cx) (A : Around) : Cx := { X with A := A }
theorem key_read {m : Nat → Addr} {h : VH} {y : FL.D} {p : PyData} {w : V} {u : Value} (I : Inv X pins σ H s) (sm : Sim X.K g m h H) (r : RD X.K m h.length H y w) (ru : RelV w u) (e : toP deep [] y = some p) : (∃ as, Reads s.heap u p as) ∧ p.depth ≤ deep := by
  have hl : allS ([y].map (toP deep h)) = some [p] := by
    simp only [List.map_cons, List.map_nil, toP_nil deep h y p e, allS]
  obtain ⟨k1, k2⟩ := each_read I sm (.cons r .nil) (.cons ru .nil) hl
  cases k1 with
  | cons h1 _ => exact ⟨h1, k2 (y, p) (by simp)⟩
structure MBest (X : Cx) (g : Gc) (pins : List (Addr × Obj)) (σ : L2.St) (m0 : Nat → Addr) (h : VH) (H0 : Hp) (S it : Addr) (lo : Int) (n : Nat) (j : Nat) (b : FL.D × PyData) (s : Shared) : Prop where
  ex : ∃ m H vb kb c wb yb wk, Inv X (pins ++ [(S, seqObj "list" #[vb, kb] c)]) σ H s ∧ Sim X.K g m h H ∧ Ext m0 h.length H0 m h.length H ∧ H it = none ∧ IsRangeIter s.heap it (lo + (j : Nat) * 1) ((n : Int) - (j : Nat)) 1 ∧ RelV wb vb ∧ RD X.K m h.length H b.1 wb ∧ RelV wk kb ∧ RD X.K m h.length H yb wk ∧ toP deep [] yb = some b.2
section
variable {A : Around} {R : Result → Shared → Prop} {E : Value → Shared → Prop} {m0 : Nat → Addr} {h : VH} {H0 : Hp} {S it f : Addr} {lo : Int} {n : Nat} {ll : List (FL.D × PyData)} {d : FL.D} {kw : List (Str × Value)}
structure MinW (X : Cx) (g : Gc) (pins : List (Addr × Obj)) (σ : L2.St) (m0 : Nat → Addr) (h : VH) (H0 : Hp) (S it f : Addr) (lo : Int) (n : Nat) (ll : List (FL.D × PyData)) : Prop where
  hd : X.A.handled = none
  un : X.A.units + 14 < cLine
  fI : ∀ H, H it = none → FpOk X pins H it
  fS : ∀ H, H S = none → FpOk X pins H S
  ne : S ≠ it
  lk : ll.length = n
  al : alikes (ll.map (·.2)) = true
  nn : (ll.map (·.2)).all notNo = true
  tp : ∀ q ∈ ll, toP deep [] q.1 = some q.2
  turn : ∀ (i : Nat) (q : FL.D × PyData), ll[i]? = some q → ∀ (s : Shared) (pins' : List (Addr × Obj)) (m : Nat → Addr) (H : Hp) (v : Value) (w : V), Inv X (pins ++ pins') σ H s → Sim X.K g m h H → Ext m0 h.length H0 m h.length H → RelV w v → w = .int (lo + (i : Nat)) →
      wpAny (model X.prog X.w) X.A.in1 (call (.ref f) [v]) (EP X (pins ++ pins') σ fun w H' => ∃ m', Sim X.K g m' h H' ∧ Ext m h.length H m' h.length H' ∧ RD X.K m' h.length H' q.1 w) (fun _ _ => False) s
theorem drop_cons {α : Type} {l : List α} {j : Nat} {a : α} {r : List α} (e : l.drop j = a :: r) : l[j]? = some a ∧ l.drop (j + 1) = r := by
  have hl : j < l.length := by
    rcases Nat.lt_or_ge j l.length with z | z
    · exact z
    · rw [List.drop_eq_nil_of_le z] at e
      cases e
  rw [List.drop_eq_getElem_cons hl] at e
  cases e
  exact ⟨by simp [hl], rfl⟩
theorem min_item (M : MinW X g pins σ m0 h H0 S it f lo n ll) {j : Nat} {o : Obj} {m : Nat → Addr} {H : Hp} {Q : Option Value → Shared → Prop} {s : Shared} (I : Inv X (pins ++ [(S, o)]) σ H s) (hn : H it = none) (ht : IsRangeIter s.heap it (lo + (j : Nat) * 1) ((n : Int) - (j : Nat)) 1) (hj : j < n)
    (q : ∀ (u : Value) (s' : Shared), Inv X (pins ++ [(S, o)]) σ H s' → IsRangeIter s'.heap it (lo + ((j + 1 : Nat) : Nat) * 1) ((n : Int) - ((j + 1 : Nat) : Nat)) 1 → RelV (.int (lo + (j : Nat))) u → Q (some u) s') :
    wpAny (model X.prog X.w) X.A.in1 (pyNext (.ref it)) Q E s := by
  obtain ⟨f0, f1, f2, f3, f4, f5⟩ := M.fI H hn
  have Wk := Walks.range (prog := X.prog) (w := X.w) (A := X.A.in1) M.hd it lo 1 n
  refine Wk.item j s _ _ hj ht fun v h' tk hv st' kk => ?_
  obtain ⟨t, rfl⟩ := hv
  have I1 : Inv X (pins ++ [(S, o)]) σ H { s with heap := h', toks := tk } := I.turned (fun b o hb e => kk b o (by simpa using hb) e) f0 f1 f3 f4 fun p hp => by
    rcases List.mem_append.mp hp with z | z
    · exact f5 p (List.mem_append_left _ z)
    · rcases List.mem_append.mp z with z | z
      · exact f5 p (List.mem_append_right _ z)
      · rw [List.mem_singleton.mp z]
        exact M.ne
  exact q _ _ I1 st' ⟨t, by rw [Int.mul_one]⟩
theorem min_stop (M : MinW X g pins σ m0 h H0 S it f lo n ll) {j : Nat} {o : Obj} {m : Nat → Addr} {H : Hp} {Q : Option Value → Shared → Prop} {s : Shared} (I : Inv X (pins ++ [(S, o)]) σ H s) (hn : H it = none) (ht : IsRangeIter s.heap it (lo + (j : Nat) * 1) ((n : Int) - (j : Nat)) 1) (hj : n ≤ j)
    (q : ∀ (s' : Shared), Inv X (pins ++ [(S, o)]) σ H s' → Q none s') : wpAny (model X.prog X.w) X.A.in1 (pyNext (.ref it)) Q E s := by
  obtain ⟨f0, f1, f2, f3, f4, f5⟩ := M.fI H hn
  refine wpAny_pyNext_range_end (A := X.A.in1) M.hd ht (by omega) fun h' eb => ?_
  exact q _ (I.turned (t' := s.toks) (fun b o hb e => eb b o hb e) f0 f1 f3 f4 fun p hp => by
    rcases List.mem_append.mp hp with z | z
    · exact f5 p (List.mem_append_left _ z)
    · rcases List.mem_append.mp z with z | z
      · exact f5 p (List.mem_append_right _ z)
      · rw [List.mem_singleton.mp z]
        exact M.ne)
theorem repin {a : Addr} {o o' : Obj} {h' : Heap} {t' : Nat} (I : Inv X (pins ++ [(a, o)]) σ H s) (f : FpOk X pins H a) (k : ∀ b u, b ≠ a → s.heap.get? b = some u → h'.get? b = some u) (e : h'.get? a = some o') (hd : ∀ v, o'.data ≠ .cell v) : Inv X (pins ++ [(a, o')]) σ H { s with heap := h', toks := t' } :=
  FL.Inv.pin1 (FL.Inv.turnF (FL.Inv.pinsub I fun p hp => List.mem_append_left _ hp) f k) f e hd
def itsFrom (lo : Int) (j : Nat) (ll : List (FL.D × PyData)) : List (FL.D × PyData) := match ll with
  | [] => []
  | q :: r => (.int (lo + (j : Nat)), q.2) :: itsFrom lo (j + 1) r
theorem min_loop (M : MinW X g pins σ m0 h H0 S it f lo n ll)
    (hR : ∀ u s', (∃ m H w, Inv X pins σ H s' ∧ Sim X.K g m h H ∧ Ext m0 h.length H0 m h.length H ∧ RelV w u ∧ RD X.K m h.length H d w) → R (.ok (.ret u)) s') :
    ∀ (rest : List (FL.D × PyData)) (j : Nat) (b : FL.D × PyData) (s : Shared), ll.drop j = rest → j ≤ n → b.2 ∈ ll.map (·.2) → (minP1 b (itsFrom lo j rest)).1 = d → MBest X g pins σ m0 h H0 S it lo n j b s →
      codeAny (model X.prog X.w) X.A (.builtin "min.loop" ⟨[.ref it, .ref f, .ref S], kw⟩) R s := by
  have hname : (toString "min" ++ toString ".loop" : String) = "min.loop" := by decide
  intro rest
  induction rest with
  | nil =>
    intro j b s hrest hj hb hd mb
    obtain ⟨m, H, vb, kb, c, wb, yb, wk, I, sm, ex, hn, ht, r1, r2, r3, r4, r5⟩ := mb.ex
    have hjn : n ≤ j := by
      have z := List.drop_eq_nil_iff.mp hrest
      have := M.lk
      omega
    have pS := I.pin (S, seqObj "list" #[vb, kb] c) (List.mem_append_right _ (List.mem_append_right _ List.mem_cons_self))
    refine (codeAny_builtin PySem.F.entry_min_loop ?_)
    rw [(Around.under_plainId PySem.F.plain_min_loop _)]
    show wpAny _ X.A.in1 (seqItems? (.ref S) >>= _) _ _ s
    refine wpAny_bind (wpAny_seqItems pS.1 rfl ?_)
    show wpAny _ X.A.in1 (tryCatch (pyNext (.ref it)) _ >>= _) _ _ s
    refine wpAny_bind (wpAny_tryCatch (min_stop (m := m) M I hn ht hjn fun s' I3 => ?_))
    have pS' := (I3.pin (S, seqObj "list" #[vb, kb] c) (List.mem_append_right _ (List.mem_append_right _ List.mem_cons_self))).1
    show wpAny _ X.A.in1 (updateSeq S (fun _ => #[]) >>= _) _ _ s'
    refine wpAny_bind ?_
    refine wpAny_updateSeq pS' rfl (wpAny_bind (wpAny_letGo (wpAny_pure ?_)))
    refine hR vb _ ⟨m, H, wb, FL.Inv.turnF (t' := s'.toks) (FL.Inv.pinsub I3 fun p hp => List.mem_append_left _ hp) (M.fS H pS.2.1) fun b u hb e => ((Heap.SameBut.update s'.heap S (Obj.mapSeq fun _ => #[])).2 b hb).trans e, sm, ex, r1, ?_⟩
    rw [← hd]
    exact r2
  | cons q rest ih =>
    intro j b s hrest hj hb hd mb
    obtain ⟨yk, p⟩ := q
    obtain ⟨m, H, vb, kb, c, wb, yb, wk, I, sm, ex, hn, ht, r1, r2, r3, r4, r5⟩ := mb.ex
    obtain ⟨hk, hrest'⟩ := drop_cons hrest
    have hlt : j < n := by
      have := (List.getElem?_eq_some_iff.mp hk).1
      have := M.lk
      omega
    have pS := I.pin (S, seqObj "list" #[vb, kb] c) (List.mem_append_right _ (List.mem_append_right _ List.mem_cons_self))
    have hpm : p ∈ ll.map (·.2) := List.mem_map.mpr ⟨(yk, p), List.mem_of_getElem? hk, rfl⟩
    have hpt : toP deep [] yk = some p := M.tp _ (List.mem_of_getElem? hk)
    refine (codeAny_builtin PySem.F.entry_min_loop ?_)
    rw [(Around.under_plainId PySem.F.plain_min_loop _)]
    show wpAny _ X.A.in1 (seqItems? (.ref S) >>= _) _ _ s
    refine wpAny_bind (wpAny_seqItems pS.1 rfl ?_)
    show wpAny _ X.A.in1 (tryCatch (pyNext (.ref it)) _ >>= _) _ _ s
    refine wpAny_bind (wpAny_tryCatch (min_item (m := m) M I hn ht hlt fun u s' I1 t1 r6 => ?_))
    have pI := M.fI H hn
    obtain ⟨oI, hoI⟩ : ∃ oI, s'.heap.get? it = some oI := ⟨_, t1⟩
    have I1' : Inv X ((pins ++ [(S, seqObj "list" #[vb, kb] c)]) ++ [(it, oI)]) σ H s' := FL.Inv.pin1 I1 ⟨pI.1, pI.2.1, pI.2.2.1, pI.2.2.2.1, pI.2.2.2.2.1, fun p hp => by
      rcases List.mem_append.mp hp with z | z
      · exact pI.2.2.2.2.2 p (List.mem_append_left _ z)
      · rcases List.mem_append.mp z with z | z
        · exact pI.2.2.2.2.2 p (List.mem_append_right _ z)
        · rw [List.mem_singleton.mp z]
          exact M.ne⟩ hoI (fun v z => by
        have e : s'.heap.get? it = _ := t1
        rw [hoI] at e
        cases e
        cases z)
    rw [List.append_assoc] at I1'
    show wpAny _ X.A.in1 (tryCatch (holding [u] (call (.ref f) [u])) _ >>= _) _ _ s'
    refine wpAny_bind (wpAny_tryCatch (wpAny_holding (wpAny_mono (M.turn j (yk, p) hk s' _ m H u _ I1' sm ex r6 rfl) (fun kx s2 hq => ?_) fun _ _ z => z.elim)))
    obtain ⟨w, H2, I2, r7, m2, sm2, ex2, r8⟩ := hq
    have I2' : Inv X (pins ++ [(S, seqObj "list" #[vb, kb] c)]) σ H2 s2 := FL.Inv.pinsub I2 fun p hp => by
      rcases List.mem_append.mp hp with z | z
      · exact List.mem_append_left _ z
      · exact List.mem_append_right _ (List.mem_append_left _ z)
    have pS2 := I2.pin (S, seqObj "list" #[vb, kb] c) (List.mem_append_right _ (List.mem_append_right _ (List.mem_append_left _ List.mem_cons_self)))
    have pI2 := I2.pin (it, oI) (List.mem_append_right _ (List.mem_append_right _ (List.mem_append_right _ List.mem_cons_self)))
    have t2 : IsRangeIter s2.heap it (lo + ((j + 1 : Nat) : Nat) * 1) ((n : Int) - ((j + 1 : Nat) : Nat)) 1 := by
      have e : s'.heap.get? it = _ := t1
      rw [hoI] at e
      cases e
      exact pI2.1
    obtain ⟨⟨as, ra⟩, da⟩ := key_read I2 sm2 r8 r7 hpt
    obtain ⟨⟨bs, rb⟩, db⟩ := key_read I2 sm2 (ex2.rd r4) r3 r5
    have hal : PySem.W.alike p b.2 = true := alikes_all M.al p hpm b.2 hb
    have hnn : p ≠ .none := fun z => by
      have := List.all_eq_true.mp M.nn p hpm
      rw [z] at this
      cases this
    have hu : X.A.in1.units + min p.depth b.2.depth < cLine := by
      have h1 := M.un
      have h2 : deep = 12 := rfl
      show X.A.units + 1 + _ < _
      omega
    show wpAny _ X.A.in1 (tryCatch (holding [u, kx] (richCompare .Lt kx kb >>= _)) _ >>= _) _ _ s2
    refine wpAny_bind (wpAny_tryCatch (wpAny_holding (wpAny_bind (PySem.W.rcLt_alike p b.2 X.A.in1 s2 kx kb as bs ra rb hal hnn hu _ _ _ _ ?_))))
    refine wpAny_bind (wpAny_holding (wpAny_truthy_bool ?_))
    refine wpAny_bind (wpAny_letGo (wpAny_pure ?_))
    have hfin : ∀ (b' : FL.D × PyData), (b' = if PySem.W.dataLt p b.2 = true then (FL.D.int (lo + (j : Nat)), p) else b) → (minP1 b' (itsFrom lo (j + 1) rest)).1 = d := fun b' e => by
      rw [e]
      exact hd
    cases hlt2 : PySem.W.dataLt p b.2 with
    | true =>
      simp only [if_true]
      refine wpAny_bind ?_
      have s1 := Heap.SameBut.update s2.heap S (Obj.mapSeq fun _ => #[u, kx])
      obtain ⟨c2, hc2⟩ : ∃ c2, (s2.heap.update S (Obj.mapSeq fun _ => #[u, kx])).get? S = some (seqObj "list" #[u, kx] c2) := ⟨_, get?_update_seq pS2.1 fun _ => #[u, kx]⟩
      refine wpAny_updateSeq pS2.1 rfl (wpAny_bind (wpAny_letGo ?_))
      rw [hname]
      refine wpAny_pure ⟨plainId_quiet PySem.F.plain_min_loop _, ih (j + 1) (.int (lo + (j : Nat)), p) _ hrest' hlt hpm (hfin _ (by rw [hlt2]; rfl)) ⟨m2, H2, u, kx, c2, .int (lo + (j : Nat)), yk, w, ?_, sm2, ex.trans ex2, pI2.2.1, (s1.2 it (Ne.symm M.ne)).trans t2, r6, .int _, r7, r8, hpt⟩⟩
      exact repin I2' (M.fS H2 pS2.2.1) (fun b u hb e => (s1.2 b hb).trans e) hc2 (fun v z => by cases z)
    | false =>
      simp only [Bool.false_eq_true, if_false]
      refine wpAny_bind (wpAny_letGo ?_)
      rw [hname]
      exact wpAny_pure ⟨plainId_quiet PySem.F.plain_min_loop _, ih (j + 1) b _ hrest' hlt hb (hfin _ (by rw [hlt2]; rfl)) ⟨m2, H2, vb, kb, c, wb, yb, wk, I2', sm2, ex.trans ex2, pI2.2.1, t2, r1, ex2.rd r2, r3, ex2.rd r4, r5⟩⟩
theorem min_first (M : MinW X g pins σ m0 h H0 S it f lo n ll) {q : FL.D × PyData} {rest : List (FL.D × PyData)} {c : Nat} (hl : ll = q :: rest) (hd : (minP1 (.int lo, q.2) (itsFrom lo 1 rest)).1 = d)
    (I : Inv X (pins ++ [(S, seqObj "list" #[] c)]) σ H0 s) (sm : Sim X.K g m0 h H0) (hn : H0 it = none) (ht : IsRangeIter s.heap it (lo + ((0 : Nat) : Nat) * 1) ((n : Int) - ((0 : Nat) : Nat)) 1)
    (hR : ∀ u s', (∃ m H w, Inv X pins σ H s' ∧ Sim X.K g m h H ∧ Ext m0 h.length H0 m h.length H ∧ RelV w u ∧ RD X.K m h.length H d w) → R (.ok (.ret u)) s') :
    codeAny (model X.prog X.w) X.A (.builtin "min.loop" ⟨[.ref it, .ref f, .ref S], kw⟩) R s := by
  have hname : (toString "min" ++ toString ".loop" : String) = "min.loop" := by decide
  have hlt : 0 < n := by
    have := M.lk
    rw [hl] at this
    simp at this
    omega
  have hk : ll[0]? = some q := by rw [hl]; rfl
  have pS := I.pin (S, seqObj "list" #[] c) (List.mem_append_right _ (List.mem_append_right _ List.mem_cons_self))
  refine (codeAny_builtin PySem.F.entry_min_loop ?_)
  rw [(Around.under_plainId PySem.F.plain_min_loop _)]
  show wpAny _ X.A.in1 (seqItems? (.ref S) >>= _) _ _ s
  refine wpAny_bind (wpAny_seqItems pS.1 rfl ?_)
  show wpAny _ X.A.in1 (tryCatch (pyNext (.ref it)) _ >>= _) _ _ s
  refine wpAny_bind (wpAny_tryCatch (min_item (m := m0) M I hn ht hlt fun u s' I1 t1 r6 => ?_))
  have pI := M.fI H0 hn
  obtain ⟨oI, hoI⟩ : ∃ oI, s'.heap.get? it = some oI := ⟨_, t1⟩
  have I1' : Inv X ((pins ++ [(S, seqObj "list" #[] c)]) ++ [(it, oI)]) σ H0 s' := FL.Inv.pin1 I1 ⟨pI.1, pI.2.1, pI.2.2.1, pI.2.2.2.1, pI.2.2.2.2.1, fun p hp => by
    rcases List.mem_append.mp hp with z | z
    · exact pI.2.2.2.2.2 p (List.mem_append_left _ z)
    · rcases List.mem_append.mp z with z | z
      · exact pI.2.2.2.2.2 p (List.mem_append_right _ z)
      · rw [List.mem_singleton.mp z]
        exact M.ne⟩ hoI (fun v z => by
      have e : s'.heap.get? it = _ := t1
      rw [hoI] at e
      cases e
      cases z)
  rw [List.append_assoc] at I1'
  show wpAny _ X.A.in1 (tryCatch (holding [u] (call (.ref f) [u])) _ >>= _) _ _ s'
  refine wpAny_bind (wpAny_tryCatch (wpAny_holding (wpAny_mono (M.turn 0 q hk s' _ m0 H0 u _ I1' sm Ext.refl r6 rfl) (fun kx s2 hq => ?_) fun _ _ z => z.elim)))
  obtain ⟨w, H2, I2, r7, m2, sm2, ex2, r8⟩ := hq
  have I2' : Inv X (pins ++ [(S, seqObj "list" #[] c)]) σ H2 s2 := FL.Inv.pinsub I2 fun p hp => by
    rcases List.mem_append.mp hp with z | z
    · exact List.mem_append_left _ z
    · exact List.mem_append_right _ (List.mem_append_left _ z)
  have pS2 := I2.pin (S, seqObj "list" #[] c) (List.mem_append_right _ (List.mem_append_right _ (List.mem_append_left _ List.mem_cons_self)))
  have pI2 := I2.pin (it, oI) (List.mem_append_right _ (List.mem_append_right _ (List.mem_append_right _ List.mem_cons_self)))
  have t2 : IsRangeIter s2.heap it (lo + ((0 + 1 : Nat) : Nat) * 1) ((n : Int) - ((0 + 1 : Nat) : Nat)) 1 := by
    have e : s'.heap.get? it = _ := t1
    rw [hoI] at e
    cases e
    exact pI2.1
  show wpAny _ X.A.in1 (updateSeq S (fun _ => #[u, kx]) >>= _) _ _ s2
  refine wpAny_bind ?_
  have s1 := Heap.SameBut.update s2.heap S (Obj.mapSeq fun _ => #[u, kx])
  obtain ⟨c2, hc2⟩ : ∃ c2, (s2.heap.update S (Obj.mapSeq fun _ => #[u, kx])).get? S = some (seqObj "list" #[u, kx] c2) := ⟨_, get?_update_seq pS2.1 fun _ => #[u, kx]⟩
  refine wpAny_updateSeq pS2.1 rfl ?_
  rw [hname]
  have e0 : lo + ((0 : Nat) : Int) = lo := by omega
  refine wpAny_pure ⟨plainId_quiet PySem.F.plain_min_loop _, min_loop M hR rest 1 (.int lo, q.2) _ (by rw [hl]; rfl) hlt (List.mem_map.mpr ⟨q, List.mem_of_getElem? hk, rfl⟩) hd ⟨m2, H2, u, kx, c2, .int (lo + ((0 : Nat) : Nat)), q.1, w, ?_, sm2, ex2, pI2.2.1, (s1.2 it (Ne.symm M.ne)).trans t2, r6, ?_, r7, r8, M.tp _ (List.mem_of_getElem? hk)⟩⟩
  · exact repin I2' (M.fS H2 pS2.2.1) (fun b u hb e => (s1.2 b hb).trans e) hc2 (fun v z => by cases z)
  · rw [e0]
    exact .int _
theorem zip_its : ∀ (l : List PyData) (lo : Int) (j : Nat) (ll : List (FL.D × PyData)), ll.map (·.2) = l → ((List.range ll.length).map fun (k : Nat) => FL.D.int (lo + ((j + k : Nat) : Nat))).zip l = itsFrom lo j ll
  | _, lo, j, [], e => by simp [itsFrom]
  | [], lo, j, q :: r, e => by simp at e
  | p :: l, lo, j, q :: r, e => by
    rw [List.map_cons] at e
    cases e
    rw [List.length_cons, List.range_succ_eq_map, List.map_cons, List.map_map, List.zip_cons_cons]
    show _ = (FL.D.int (lo + (j : Nat)), q.2) :: itsFrom lo (j + 1) r
    rw [← zip_its (r.map (·.2)) lo (j + 1) r rfl]
    congr 2
    refine List.map_congr_left fun k _ => ?_
    show FL.D.int (lo + ((j + (k + 1) : Nat) : Nat)) = FL.D.int (lo + ((j + 1 + k : Nat) : Nat))
    congr 3
    omega
theorem minK_run {k i : Nat} {params : Arguments} {body : Expr} {scope : Scope} {own : List (Str × Nat)} {fe : FE} {δ : DS} {r c' : Addr} {pm ctv : Value} {m : Nat → Addr} {hi : Int} {t u v : Tok} {Q : VK} (F : LamF X g k params body scope own i fe) (hN : X.N.Nodup) (hr : Room (k + 1 + 1) X.A) (hcalm : X.calm = true)
    (h1 : -(2 ^ 62) ≤ lo) (h2 : lo < 2 ^ 62) (h3 : -(2 ^ 62) ≤ hi) (h4 : hi < 2 ^ 62)
    (I : Inv X (pins ++ [(r, { cls := .type "range", data := .fields #[.int lo t, .int hi u, .int 1 v] }), (f, PySem.W.kla_obj "<lambda>" (X.env.qual ++ "<lambda>") params body scope (cloFrom X.env.cells scope.names []) pm c' ctv)]) σ H s) (sm : Sim X.K g m h H) (rr : RS X.K m h.length H δ σ) (hc : H c' = some (LamX.CodeO c' (X.env.qual ++ "<lambda>")))
    (hk : allS ((rng lo hi).map (keyC (own.map (·.2)) i fe δ h)) = some ll) (al : alikes (ll.map (·.2)) = true) (nn : (ll.map (·.2)).all notNo = true) (hd : minP ((rng lo hi).zip (ll.map (·.2))) = some d)
    (q : GoodE X.K g (fun c d H' => W c d σ H') m h.length H Q (.ok d h)) :
    wpAny (model X.prog X.w) X.A (call (.builtin "min") [.ref r] [(Str.ofString "key", .ref f)]) (EP X pins σ Q) X.xe s := by
  have hname : (toString "min" ++ toString ".loop" : String) = "min.loop" := by decide
  have hll : ll.length = (hi - lo).toNat := by
    have := allS_len hk
    rw [this]
    unfold rng
    rw [List.length_map, List.length_range]
  have pr := (I.pin (r, { cls := .type "range", data := .fields #[.int lo t, .int hi u, .int 1 v] }) (List.mem_append_right _ (List.mem_append_right _ List.mem_cons_self))).1
  have hun := hr.un
  refine kmk_tree PySem.F.kind_min PySem.F.plain_min PySem.F.entry_min (kmk_min_key _ _) ?_
  show wpAny _ X.A.in1 (Builtin.Builtins.bindParams "min" ["key", "default"] 0 ⟨[], [(Str.ofString "key", .ref f)]⟩ >>= _) _ _ s
  refine wpAny_bind (wpAny_of_eq (a := [some (.ref f), none]) rfl ?_)
  refine wpAny_bind (wpAny_pure ?_)
  refine wpAny_bind (wpAny_pyIter_range pr (small_one h1 h2 h3 h4) ?_)
  generalize hit : s.heap.objs.size = it
  have k1 : ∀ b o, s.heap.get? b = some o → (s.heap.push { cls := .type "range_iterator", data := .fields #[rawInt lo, rawInt (Builtin.Range.rangeSize lo hi 1), rawInt 1] }).get? b = some o := fun b o e => Heap.get?_push_of_some _ e
  have gI : (s.heap.push { cls := .type "range_iterator", data := .fields #[rawInt lo, rawInt (Builtin.Range.rangeSize lo hi 1), rawInt 1] }).get? it = some { cls := .type "range_iterator", data := .fields #[rawInt lo, rawInt (Builtin.Range.rangeSize lo hi 1), rawInt 1] } := by rw [← hit]; exact Heap.get?_push_size _ rfl
  have sz : (s.heap.push { cls := .type "range_iterator", data := .fields #[rawInt lo, rawInt (Builtin.Range.rangeSize lo hi 1), rawInt 1] }).objs.size = it + 1 := by rw [Heap.size_push, hit]
  generalize (s.heap.push { cls := .type "range_iterator", data := .fields #[rawInt lo, rawInt (Builtin.Range.rangeSize lo hi 1), rawInt 1] }) = hp at k1 gI sz ⊢
  refine wpAny_bind (wpAny_newList ?_ (Nat.zero_le _))
  rw [hname]
  refine wpAny_pure ⟨plainId_quiet PySem.F.plain_min_loop _, ?_⟩
  rw [sz]
  have k2 : ∀ b o, s.heap.get? b = some o → (hp.push (seqObj "list" #[] 0)).get? b = some o := fun b o e => Heap.get?_push_of_some _ (k1 b o e)
  have gS : (hp.push (seqObj "list" #[] 0)).get? (it + 1) = some (seqObj "list" #[] 0) := by rw [← sz]; exact Heap.get?_push_size _ rfl
  have fI : ∀ H', H' it = none → FpOk X (pins ++ [(r, { cls := .type "range", data := .fields #[.int lo t, .int hi u, .int 1 v] }), (f, PySem.W.kla_obj "<lambda>" (X.env.qual ++ "<lambda>") params body scope (cloFrom X.env.cells scope.names []) pm c' ctv)]) H' it := fun H' hn => I.fpOk (by omega) hn
  have fS : ∀ H', H' (it + 1) = none → FpOk X (pins ++ [(r, { cls := .type "range", data := .fields #[.int lo t, .int hi u, .int 1 v] }), (f, PySem.W.kla_obj "<lambda>" (X.env.qual ++ "<lambda>") params body scope (cloFrom X.env.cells scope.names []) pm c' ctv)]) H' (it + 1) := fun H' hn => I.fpOk (by omega) hn
  have nI : H it = none := I.hok.fresh (by omega)
  have nS : H (it + 1) = none := I.hok.fresh (by omega)
  have I2 := FL.Inv.pin1 (a := it + 1) (I.kept (t' := s.toks) k2) (fS H nS) gS (fun v z => by cases z)
  cases hcs : ll with
  | nil =>
    rw [hcs, List.map_nil] at hd
    simp [minP] at hd
  | cons q0 rest =>
    have M : MinW X g (pins ++ [(r, { cls := .type "range", data := .fields #[.int lo t, .int hi u, .int 1 v] }), (f, PySem.W.kla_obj "<lambda>" (X.env.qual ++ "<lambda>") params body scope (cloFrom X.env.cells scope.names []) pm c' ctv)]) σ m h H (it + 1) it f lo (hi - lo).toNat ll := by
      refine ⟨hr.hd, by omega, fI, fS, Nat.succ_ne_self _, hll, al, nn, fun q hq => ?_, fun j q hq s' pins' m1 H1 v1 w1 I1 sm1 ex1 r1 e1 => ?_⟩
      · obtain ⟨j, hj⟩ := List.getElem?_of_mem hq
        have hjl := (List.getElem?_eq_some_iff.mp hj).1
        obtain ⟨b, e1, e2⟩ := allS_get (i := j) (x := FL.D.int (lo + (j : Nat))) hk (by
          unfold rng
          rw [List.getElem?_map, List.getElem?_range (by omega)]
          rfl)
        rw [hj] at e1
        cases e1
        exact (keyC_some e2).2
      · have hjl := (List.getElem?_eq_some_iff.mp hq).1
        obtain ⟨b, e3, e4⟩ := allS_get (i := j) (x := FL.D.int (lo + (j : Nat))) hk (by
          unfold rng
          rw [List.getElem?_map, List.getElem?_range (by omega)]
          rfl)
        rw [hq] at e3
        cases e3
        obtain ⟨he, hp2⟩ := keyC_some e4
        have pf := I1.pin (f, PySem.W.kla_obj "<lambda>" (X.env.qual ++ "<lambda>") params body scope (cloFrom X.env.cells scope.names []) pm c' ctv) (List.mem_append_right _ (List.mem_append_left _ (List.mem_append_right _ (List.mem_cons_of_mem _ List.mem_cons_self))))
        refine lam_call (A := X.A.in1) F hN I1 pf.1 (Ext.code sm ex1 hc) hr.in1 I.ok.frames r1 ?_
        refine ⟨(FL.wipe δ (own.map (·.2))).set i (some (.int (lo + (j : Nat)))), m1, h, ((RS.wipe (ex1.rs rr) _).set i (by rw [e1]; exact .int _)), sm1, ?_⟩
        rw [he]
        exact fun m2 H2 e2 s2 w r2 => ⟨m2, s2, e2, r2⟩
    refine min_first (d := d) M hcs ?_ I2 sm nI ?_ fun u' s' ⟨m1, H1, w, I3, sm3, ex3, r3, r4⟩ => ?_
    · have z := zip_its (ll.map (·.2)) lo 0 ll rfl
      have e0 : (List.range ll.length).map (fun (k : Nat) => FL.D.int (lo + ((0 + k : Nat) : Nat))) = rng lo hi := by
        unfold rng
        rw [hll]
        exact List.map_congr_left fun k _ => by rw [Nat.zero_add]
      rw [e0, hcs] at z
      rw [hcs, z] at hd
      have e2 : itsFrom lo 0 (q0 :: rest) = (.int (lo + ((0 : Nat) : Nat)), q0.2) :: itsFrom lo 1 rest := rfl
      rw [e2] at hd
      have e3 : lo + ((0 : Nat) : Int) = lo := by omega
      rw [e3] at hd
      exact Option.some.inj hd
    · have e1 : lo + ((0 : Nat) : Int) * 1 = lo := by simp
      have e2 : (((hi - lo).toNat : Nat) : Int) - ((0 : Nat) : Int) = Builtin.Range.rangeSize lo hi 1 := by rw [rangeSize_one]; split <;> omega
      show IsRangeIter _ _ (lo + ((0 : Nat) : Int) * 1) ((((hi - lo).toNat : Nat) : Int) - ((0 : Nat) : Int)) 1
      rw [e1, e2]
      exact Heap.get?_push_of_some _ gI
    · exact ⟨w, H1, FL.Inv.pinsub I3 fun p hp => List.mem_append_left _ hp, r3, q m1 H1 ex3 sm3 w r4⟩
end
theorem fe_minK {c P : Addr} {k i : Nat} {a b : Expr} {params : Arguments} {body : Expr} {scope : Scope} {own : List (Str × Nat)} {sl : List Nat} {ra : FA} {fe : FE} {p p2 lpos kpos pos pos2 : Pos} (hcalm : X.calm = true) (hm : X.mg "min" = none) (hm2 : X.mg "range" = none) (TB : LamX.TabB X.base X.mg c P) (hcode : X.env.code = .ref c)
    (hmT : (P, X.env.qual ++ "<lambda>") ∈ g.T) (hu : ∀ p ∈ g.T, p.1 = P → p.2 = X.env.qual ++ "<lambda>") (hN : X.N.Nodup) (hr : Room (k + 1 + 1) X.A) (ha : PA X [a, b] (FL.ra X.K g W ra)) (hn : ALen ra 2) (F : LamF X g k params body scope own i fe) (hdef : defaultsOf params X.env = ([], [])) (hsl : own.map (·.2) = sl := by rfl) (hgl : Gl X "min" := by rfl) (hgl2 : Gl X "range" := by rfl)
    (he : backTo pos (starEach [.Call (.Name "range" p2) [a, b] [] pos2] X.env) = (false, eval (.Call (.Name "range" p2) [a, b] [] pos2) X.env) :: backTo pos (starEach [] X.env) := by rfl) (hpl : (backTo pos (starEach [.Call (.Name "range" p2) [a, b] [] pos2] X.env)).any (·.1) = false := by rfl)
    (hs : starEach [a, b] X.env = [(false, eval a X.env), (false, eval b X.env)] := by rfl) (hs2 : starEach [b] X.env = [(false, eval b X.env)] := by rfl) :
    PE X (.Call (.Name "min" p) [.Call (.Name "range" p2) [a, b] [] pos2] [⟨some "key", .Lambda params body scope lpos, kpos⟩] pos) (rd X.K g W (eMinK ra sl i fe)) := by
  subst hsl
  refine ⟨fun pins s σ H Q I hh => ?_⟩
  obtain ⟨δ, m, h, r, sm, q⟩ := hh
  refine wpAny_Call_Name_kw (ld_blt I hgl hm (u := .builtin "min") (by decide +kernel) ?_)
  refine PyProof.Rows.callWith_kw ?_ he hpl rfl rfl
  rw [he]
  refine Calls.spliced_cons ?_
  refine Call_ (ld_blt I hgl2 hm2 boot_range (PyProof.Rows.callWith_type1 (thn (ha.run pos2 pins s σ H (fun vs H1 => ∃ xs lo hi m1 h1 ll d, vs = [.int lo, .int hi] ∧ (-(2 ^ 62) ≤ lo ∧ lo < 2 ^ 62 ∧ -(2 ^ 62) ≤ hi ∧ hi < 2 ^ 62) ∧ rEnds xs = some (lo, hi) ∧ Ext m h.length H m1 h1.length H1 ∧ Sim X.K g m1 h1 H1 ∧
      allS ((rng lo hi).map (keyC (own.map (·.2)) i fe δ h1)) = some ll ∧ alikes (ll.map (·.2)) = true ∧ (ll.map (·.2)).all notNo = true ∧ minP ((rng lo hi).zip (ll.map (·.2))) = some d ∧ GoodE X.K g (fun c d H' => W c d σ H') m1 h1.length H1 Q (.ok d h1)) I ⟨δ, m, h, r, sm, ?_⟩) fun us s1 ⟨vs, H1, I1, r1, xs, lo, hi, m1, h1, ll, d, ev, ⟨b1, b2, b3, b4⟩, el, e1, s1', ek, al, nn, hd, q1⟩ => ?_) (by rw [hs, hs2]) (by rw [hs2]; rfl)))
  · have q : GoodE X.K g (fun c d H' => W c d σ H') m h.length H Q ((ra δ h).bind fun xs h => match rEnds xs with
      | some (lo, hi) => match allS ((rng lo hi).map (keyC (own.map (·.2)) i fe δ h)) with
        | some l => if (alikes (l.map (·.2)) && (l.map (·.2)).all notNo) = true then (match minP ((rng lo hi).zip (l.map (·.2))) with
          | some d => .ok d h
          | none => .bad) else .bad
        | none => .bad
      | none => .bad) := q
    cases er : ra δ h with
    | bad => rw [er] at q; exact q.elim
    | err c p h1 => rw [er] at q; exact q
    | ok xs h1 =>
      rw [er] at q
      intro m1 H1 e1 s1 vs r1
      have q : GoodE X.K g (fun c d H' => W c d σ H') m h.length H Q (match rEnds xs with
        | some (lo, hi) => match allS ((rng lo hi).map (keyC (own.map (·.2)) i fe δ h1)) with
          | some l => if (alikes (l.map (·.2)) && (l.map (·.2)).all notNo) = true then (match minP ((rng lo hi).zip (l.map (·.2))) with
            | some d => .ok d h1
            | none => .bad) else .bad
          | none => .bad
        | none => .bad) := q
      cases ee : rEnds xs with
      | none => rw [ee] at q; exact q.elim
      | some pr =>
        obtain ⟨lo, hi⟩ := pr
        rw [ee] at q
        simp only at q
        cases ek : allS ((rng lo hi).map (keyC (own.map (·.2)) i fe δ h1)) with
        | none => rw [ek] at q; exact q.elim
        | some l =>
          rw [ek] at q
          simp only at q
          split at q
          · rename_i hc
            rw [Bool.and_eq_true] at hc
            cases hd : minP ((rng lo hi).zip (l.map (·.2))) with
            | none => rw [hd] at q; exact q.elim
            | some d =>
              rw [hd] at q
              obtain ⟨ev, hb⟩ := rEnds2 r1 ee (hn _ _ _ _ er)
              exact ⟨xs, lo, hi, m1, h1, l, d, ev, hb, ee, e1, s1, ek, hc.1, hc.2, hd, Gd.from e1 q⟩
          · exact q.elim
  · subst ev
    cases r1 with
    | cons t1 r2 =>
      cases r2 with
      | cons t2 r3 =>
        cases r3
        obtain ⟨t, rfl⟩ := t1
        obtain ⟨u, rfl⟩ := t2
        refine call_range_2 (Calls.spliced_nil ?_)
        have k1 : ∀ b o, s1.heap.get? b = some o → (s1.heap.push { cls := .type "range", data := .fields #[.int lo t, .int hi u, .int 1 s1.toks] }).get? b = some o := fun b o e => Heap.get?_push_of_some _ e
        have I2 := FL.Inv.pin1 (a := s1.heap.objs.size) (I1.kept (t' := s1.toks + 1) k1) (I1.fpOk (Nat.le_refl _) (I1.hok.fresh (Nat.le_refl _))) (Heap.get?_push_size _ rfl) (fun v z => by cases z)
        show wpAny _ _ (evalAll [(do let v ← eval (.Lambda params body scope lpos) X.env; standAt pos; pure v)]) _ _ _
        refine wpAny_evalAll_cons (wpAny_bind ?_)
        refine lam_mk I2 s1' TB hcode hmT hu F.C hdef fun f c' pm ctv H2 s2 I3 e2 sm2 hc => wpAny_bind (wpAny_standAt (wpAny_pure (wpAny_evalAll_nil ?_)))
        rw [List.append_assoc] at I3
        exact minK_run (W := W) (d := d) F hN hr hcalm b1 b2 b3 b4 I3 sm2 ((e1.trans e2).rs r) hc ek al nn hd (Gd.from e2 q1)
end
end FL
set_option Elab.async false
set_option linter.all false
set_option maxRecDepth 100000
set_option maxHeartbeats 2000000
namespace FL
open PySem PySem.Spec PyProof.Rows L2
section
variable {X : Cx} {g : Gc} {W : WX} {a b e o : Expr} {es : List Expr} {fa fb fc : FE} {r : FA} {pos : Pos} {ta tb te : TE}
end
section
variable {X : Cx} {g : Gc}
end
section
variable {X : Cx} {g : Gc} {W : WX} {f : FG} {ft : FT} {fe : FE} {sl : List Nat} {elt tg a b : Expr} {ifs : List Expr} {scope : Scope} {own : List (Str × Nat)} {pos spos py p pos' : Pos} {r : FA} {i : Nat} {y : Str}
end
theorem cr_list {X : Cx} {g : Gc} : CallR X (.type "list") (rB X.K g bList) := callr_weak (callr_fz call_list_of) (by
  rintro vs H Q ⟨m, h, ds, s, rs, q⟩
  unfold bList at q
  split at q
  case h_2 => exact q.elim
  obtain ⟨v, rfl, r1⟩ := rds1 rs
  rename_i d
  cases ed : seqOf d h with
  | none => rw [ed] at q; exact q.elim
  | some xs =>
    rw [ed] at q
    obtain ⟨p, ws, e1, e2, e3⟩ := sim_seq s r1 ed
    subst e1
    exact ⟨p, ws, rfl, e2, fun l hl => s.fls hl e3 fun m' H' v e s' r => q m' H' v e s' r⟩)
end FL
set_option Elab.async false
set_option linter.all false
set_option maxRecDepth 100000
set_option maxHeartbeats 2000000
namespace FL
open PySem PySem.Spec PyProof.Rows L2
structure KeyD (K : PySem.W.Frag) (mg : Str → Option Value) (g : Gc) (cs : List (Addr × Addr)) (x : Str) (st : Stmt) (ps : List Str) (q : Str) : Prop where
  ex : ∃ (f c Pt : Addr) (oc kV doc pm ct : Value) (od an : Option Addr) (osl : Array (Option Value)), K.lookup f = some ⟨oc, od, .func (PySem.W.fnOf x x (defArgs st) (defBody st) (defScope st) .none kV doc pm an (.ref c) ct), osl⟩ ∧ PySem.W.codeIn K (.ref c) x = true ∧ mg x = some (.ref f) ∧ PySem.W.keepIn K (.ref f) = true ∧
    Binds K (PySem.W.fnOf x x (defArgs st) (defBody st) (defScope st) .none kV doc pm an (.ref c) ct) ps [] ∧ (c, Pt) ∈ cs ∧ (Pt, q) ∈ g.T ∧ ∀ p ∈ g.T, p.1 = Pt → p.2 = q
theorem kd_mk {K : PySem.W.Frag} {mg : Str → Option Value} {g : Gc} {cs : List (Addr × Addr)} {x : Str} {st : Stmt} {ps : List Str} {q : Str} {f c Pt : Addr} {oc kV doc pm ct : Value} {od an : Option Addr} {osl : Array (Option Value)} (m : mg x = some (.ref f)) (l : K.lookup f = some ⟨oc, od, .func (PySem.W.fnOf x x (defArgs st) (defBody st) (defScope st) .none kV doc pm an (.ref c) ct), osl⟩)
    (cd : PySem.W.codeIn K (.ref c) x = true) (k : PySem.W.keepIn K (.ref f) = true) (b : ∀ (kV doc pm : Value) (an : Option Addr) (cdv ct : Value) (us : List Value), us.length = ps.length → bindArgs (PySem.W.fnOf x x (defArgs st) (defBody st) (defScope st) .none kV doc pm an cdv ct) ⟨us, []⟩ = pure (ps.zip us)) (h1 : (c, Pt) ∈ cs) (h2 : (Pt, q) ∈ g.T) (h3 : ∀ p ∈ g.T, p.1 = Pt → p.2 = q) : KeyD K mg g cs x st ps q := by
  have Fn : L2.Fun K x x st f _ := fun_mk l cd k
  exact ⟨f, c, Pt, oc, kV, doc, pm, ct, od, an, osl, l, cd, m, k, Fn.binds b, h1, h2, h3⟩
section
variable {P : Program} {w : World} {K : PySem.W.Frag} {mg : Str → Option Value} {base : Heap} {g : Gc} {k : Nat}
theorem KeyD.df {cs : List (Addr × Addr)} {x : Str} {st : Stmt} {N ps : List Str} {q : Str} {sb : FSt} (D : KeyD K mg g cs x st ps q) (hTB : ∀ p ∈ cs, LamX.TabB base mg p.1 p.2) (S : FnScope N ps (defScope st))
    (body : ∀ (f c Pt : Addr) (A : Around) (outer : List Env) (s : Shared) (H : Hp) (E : XK), LamX.TabB base mg c Pt → (Pt, q) ∈ g.T → (∀ p ∈ g.T, p.1 = Pt → p.2 = q) → Room k (A.deeper (envOfC x (defScope st) s.heap.objs.size f (.ref c))) →
      PSs (cxOf (L2.CX P w) P w K mg base N x (defScope st) f (.ref c) A outer s H E) (defBody st) (rs K g (fun c d _ H' => E c d H') sb)) : Df P w K mg base g (k + 1) x (runF ps.length N.length sb) := by
  obtain ⟨f, c, Pt, oc, kV, doc, pm, ct, od, an, osl, l, cd, m, kp, b, h1, h2, h3⟩ := D.ex
  exact Df.mkC l cd S m kp b fun A outer s H E hr => body f c Pt A outer s H E (hTB _ h1) h2 h3 hr
end
def AllTab (K : PySem.W.Frag) (mg : Str → Option Value) (names : List Str) (h : Heap) : Prop := ∀ (x : Str) (fa : Addr), x ∈ names → mg x = some (.ref fa) → LamX.OwnTab K fa h
theorem walk_all {l : PySem.W.OpenLaw} {n k : Nat} {q : Program} {loose : List Str} {XP : (Str → Option Value) → Heap → Prop} {YP : World → Heap → Prop} {d : DefRec} {K : Params → PySem.W.Frag} {CX : World → CXT} {x : Str} (names : List Str)
    (hn : l.most = some n) (hn2 : n ≤ sizeLine) (hdf : d.params.defaults = []) (hr : Room k callerA) (hrec : (names.all fun y => (recsOf q).any fun e => e.name == y) = true) (hY : ∀ (w : World) (h : Heap), YP w h → (K w.params).In h)
    (F : ∀ (w : World) (mg : Str → Option Value) (fa : Addr) (h : Heap), YP w h → (K w.params).In h → h.Ns mainGlobals mg → mg d.name = some (.ref fa) → AllTab (K w.params) mg names h → LamX.LawAtS l w (K w.params) (CX w) k n x mg fa h)
    (hCX : ∀ (w : World) (H : Hp) (s : Shared) (e : Value) (s' : Shared), CX w [] H s (fun _ _ _ => False) e s' → False) :
    PySem.W.WalkO q loose XP YP l.row.toRowW d [] (fun f vs => PySem.call f vs) := by
  refine Att.attach_callB hn hdf (fun w s₀ s₁ mg mb fa o pm cd doc a vs ns G Y ho hd hcd hmg hobj hints hlen hbits hg => ?_)
  have KX := hY w _ Y
  have own : AllTab (K w.params) mg names s₁.heap := fun y f1 hy hm1 c P o1 fd1 e dd vs1 sl k1 k2 k3 k4 k5 => by
    obtain ⟨dL, hm, hn1⟩ := List.any_eq_true.mp (List.all_eq_true.mp hrec y hy)
    have e1 : dL.name = y := beq_iff_eq.mp hn1
    obtain ⟨a', o', fd', c', P', h1, h2, h3, h4, h5, h6⟩ := G.T.tab dL hm
    rw [e1, hm1] at h1
    cases h1
    have g1 := KX _ _ k1
    rw [g1] at h2
    cases h2
    rw [k2] at h3
    cases h3
    rw [k3] at h4
    cases h4
    obtain ⟨⟨oc, vc, u1, _, u3, u4⟩, hP⟩ := h6
    have g2 := KX _ _ k4
    rw [g2] at u1
    cases u1
    cases u3
    rw [k5] at u4
    cases u4
    exact hP
  obtain ⟨fd, cs, sp, hT, nT, C, hb, hsp, hF⟩ := F w mg fa _ Y KX G.T.g hmg own
  exact LamX.law_callTs KX G.T.g G.T.b G.T.builtins G.T.nolimit hg hT nT C G.T.bmain hobj hints (Nat.le_trans hlen hn2) hr hF hb (fun H hH hS => hsp H a ns hlen hbits hH hS) fun H e s' => hCX w H s₁ e s'
structure CodeT (K : PySem.W.Frag) (mg : Str → Option Value) (names : List Str) (x : Str) (c Pt : Addr) : Prop where
  ex : ∃ (f : Addr) (o : Obj) (fd : FuncData) (ec : Value) (dc : Option Addr) (vs : Array Value) (slc : Array (Option Value)), x ∈ names ∧ mg x = some (.ref f) ∧ K.lookup f = some o ∧ o.data = .func fd ∧ fd.code = .ref c ∧ K.lookup c = some ⟨ec, dc, .fields vs, slc⟩ ∧ vs[11]? = some (.ref Pt) ∧ PySem.W.codeHdIn K c Pt = true ∧ K.lookup Pt = none
end FL
set_option Elab.async false
set_option linter.all false
set_option maxRecDepth 100000
set_option maxHeartbeats 2000000
namespace FL
open PySem
theorem allS_of {α β : Type} {f : α → Option β} {k : α → β} : ∀ {l : List α}, (∀ a ∈ l, f a = some (k a)) → allS (l.map f) = some (l.map k)
  | [], _ => rfl
  | a :: l, h => by
    have ih := allS_of (f := f) (k := k) (l := l) fun b hb => h b (List.mem_cons_of_mem _ hb)
    rw [List.map_cons, h a List.mem_cons_self]
    simp only [allS, ih, List.map_cons]
section
variable {α : Type} {a : FE} {r : FA} {own : List Nat} {i : Nat} {fe : FE} {δ : DS} {h h1 : VH} {x : D} {l : List α} {f ky : α → D} {u : α → PyData}
end
end FL
set_option Elab.async false
set_option linter.all false
set_option maxRecDepth 100000
set_option maxHeartbeats 2000000
namespace FL
open PySem PySem.Spec PyProof.Rows L2
theorem over_loop {A : Around} {elt : Expr} {gens : List Comprehension} {scope : Scope} {pos : Pos} {it acc : Value} {env : Env} : A.over (.compLoop (.GeneratorExp elt gens scope pos) 0 it acc env) [] = A.deeper env := by
  obtain ⟨hd, d, fr, gs, u⟩ := A
  cases fr <;> cases gs <;> rfl
structure GenL (X : Cx) (J : It) (sl : List Nat) (σ : L2.St) (g : TG) (tt : TT) (te : TE) (St : Nat → Nat → Nat → Hp → Prop) (Yl : Nat → V → Hp → (Hp → Prop) → Prop) (Fin : Nat → Hp → Prop) : Prop where
  turn : ∀ i k m H, St i k m H → (J.stop i H ∧ Fin m H) ∨ (J.go i H ∧ ∀ x H', J.yld i H x H' → g x (L2.wipe σ sl) H' fun σ2 H2 => L2.wipe σ2 sl = L2.wipe σ sl ∧ tt σ2 H2 fun b H3 =>
    if b = true then te σ2 H3 fun y H4 => ∃ m', m = m' + 1 ∧ Yl m' y H4 fun H5 => ∃ k', St (i + 1) k' m' H5 else ∃ k', k' < k ∧ St (i + 1) k' m H3)
section
variable {X : Cx} {A : Around} {cenv : Env} {s₁ : Shared} {H₁ : Hp} {fp : List Addr} {pg : List (Addr × Obj)} {it : Addr} {tn : Nat → Heap → Prop} {J : It} {sl : List Nat} {σ : L2.St} {g : TG} {tt : TT} {te : TE} {St : Nat → Nat → Nat → Hp → Prop} {Yl : Nat → V → Hp → (Hp → Prop) → Prop} {Fin : Nat → Hp → Prop}
abbrev genX (X : Cx) (A : Around) (cenv : Env) (s₁ : Shared) (H₁ : Hp) (fp : List Addr) : Cx := cloCx X A cenv s₁ H₁ fp (fun _ _ => False)
structure GenS (X : Cx) (A : Around) (cenv : Env) (s₁ : Shared) (H₁ : Hp) (fp : List Addr) (pg : List (Addr × Obj)) (tn : Nat → Heap → Prop) (sl : List Nat) (σ : L2.St) (i : Nat) (H : Hp) (s : Shared) : Prop where
  inv : Inv (genX X A cenv s₁ H₁ fp) pg (L2.wipe σ sl) H s
  tn : tn i s.heap
  fr : ∀ b ∈ fp, H b = none
def genY (X : Cx) (A : Around) (cenv : Env) (s₁ : Shared) (H₁ : Hp) (fp : List Addr) (pg : List (Addr × Obj)) (tn : Nat → Heap → Prop) (sl : List Nat) (σ : L2.St) (Yl : Nat → V → Hp → (Hp → Prop) → Prop) : Protocol := fun n _ v s κ =>
  ∃ i y H Kk, RelV y v ∧ GenS X A cenv s₁ H₁ fp pg tn sl σ i H s ∧ Yl n y H Kk ∧ ∀ s' H', GenS X A cenv s₁ H₁ fp pg tn sl σ i H' s' → Kk H' → κ (.send .none) s'
def genR (X : Cx) (A : Around) (cenv : Env) (s₁ : Shared) (H₁ : Hp) (fp : List Addr) (pg : List (Addr × Obj)) (sl : List Nat) (σ : L2.St) (Fin : Nat → Hp → Prop) : GenEnd := fun n _ r s => ((r = .ok (.ret .none) ∨ r = .ok .next) ∧ ∃ H, Inv (genX X A cenv s₁ H₁ fp) pg (L2.wipe σ sl) H s ∧ Fin n H) ∨ ∃ e, r = .error e ∧ False
theorem gen_loop {elt tg iter : Expr} {ifs : List Expr} {scope : Scope} {pos : Pos} (hd : A.handled = none) (hco : cenv.scope.isCoroutine = false) (hpg : ∀ p ∈ pg, ∀ b ∈ fp, p.1 ≠ b) (T : Turn X.prog X.w X.K tg J fp it tn) (G : GenL X J sl σ g tt te St Yl Fin)
    (hgt : PG (genX X A cenv s₁ H₁ fp) tg g) (pt : PTs (genX X A cenv s₁ H₁ fp) ifs tt) (pe : PE (genX X A cenv s₁ H₁ fp) elt te) :
    ∀ (m k i : Nat) (s₀ s : Shared) (H : Hp), St i k m H → GenS X A cenv s₁ H₁ fp pg tn sl σ i H s →
      Seg (model X.prog X.w) A (genR X A cenv s₁ H₁ fp pg sl σ Fin) (genY X A cenv s₁ H₁ fp pg tn sl σ Yl) m s₀ (.compLoop (.GeneratorExp elt [⟨tg, iter, ifs, 0⟩] scope pos) 0 (.ref it) .none cenv)
        ((model X.prog X.w).den (.compLoop (.GeneratorExp elt [⟨tg, iter, ifs, 0⟩] scope pos) 0 (.ref it) .none cenv)) [] s := by
  have stat : ∀ {σ' : L2.St} {H' : Hp} {s' : Shared}, Inv (genX X A cenv s₁ H₁ fp) pg σ' H' s' → (∀ b ∈ fp, H' b = none) → ∀ b ∈ fp, FpOk (genX X A cenv s₁ H₁ fp) pg H' b := fun {σ' H' s'} I' hn b hb =>
    ⟨hn b hb, (I'.ok.exf b hb).1, I'.ok.exfs b hb, .inl hb, fun x c e => (I'.ok.exf b hb).2 x c e, fun p hp => hpg p (show p ∈ ([] : List (Addr × Obj)) ++ pg from hp) b hb⟩
  have hA : A.over (.compLoop (.GeneratorExp elt [⟨tg, iter, ifs, 0⟩] scope pos) 0 (.ref it) .none cenv) [] = (genX X A cenv s₁ H₁ fp).A := over_loop
  intro m
  induction m using Nat.strongRecOn with
  | ind m ihm =>
  intro k
  induction k using Nat.strongRecOn with
  | ind k ih =>
  intro i s₀ s H w G0
  show Seg _ A _ _ _ s₀ _ ((compTurn (.GeneratorExp elt [⟨tg, iter, ifs, 0⟩] scope pos) 0 (.ref it) .none cenv).onRaise (leaving cenv)) [] s
  rw [compTurn_gen, Sem.onRaise_eq_wrap]
  refine seg_bind_wrap (wpAny_standAt ?_)
  rcases G.turn i k m H w with ⟨stop, fin⟩ | ⟨go, step⟩
  · refine seg_bind_wrap ?_
    rw [hA]
    refine thnF (T.done (genX X A cenv s₁ H₁ fp) rfl rfl rfl rfl i pg s _ H (fun _ _ => False) G0.inv (stat G0.inv G0.fr) G0.tn stop) fun r s6 ⟨hr, I6⟩ => ?_
    subst hr
    exact seg_end (.ok .next) (.inl ⟨.inr rfl, H, I6, fin⟩)
  · refine seg_bind_wrap ?_
    rw [hA]
    refine thnF (T.item (genX X A cenv s₁ H₁ fp) rfl rfl rfl rfl i pg s _ H (fun _ _ => False) G0.inv (stat G0.inv G0.fr) G0.tn go) fun r s6 ⟨u, hr, h6⟩ => ?_
    subst hr
    refine seg_bind_wrap ?_
    rw [hA]
    refine thnF h6 fun _ s7 ⟨x, H7, I7, r7, y7, st7, n7⟩ => ?_
    have I7' := I7.pinned (stat I7 n7) (T.obj _ _ st7)
    refine seg_bind_wrap ?_
    rw [hA]
    refine thnF (hgt.run _ s7 _ H7 x u _ I7' r7 (step x H7 y7)) fun _ s8 ⟨σ8, H8, I8, hw8, q8⟩ => ?_
    refine seg_bind_wrap ?_
    rw [hA]
    refine thnF (pt.run _ s8 σ8 H8 _ I8 q8) fun b s9 ⟨H9, I9, q9⟩ => ?_
    have back : ∀ {s' : Shared} {H' : Hp}, Inv (genX X A cenv s₁ H₁ fp) (pg ++ pinsAt fp s7.heap) σ8 H' s' → GenS X A cenv s₁ H₁ fp pg tn sl σ (i + 1) H' s' := fun {s' H'} I' => by
      have pin' : ∀ b ∈ fp, ∀ o, s7.heap.get? b = some o → s'.heap.get? b = some o ∧ H' b = none := fun b hb o e =>
        let z := I'.pin (b, o) (List.mem_append_right _ (List.mem_append_right _ (mem_pinsAt hb e)))
        ⟨z.1, z.2.1⟩
      have hl : (L2.wipe σ sl).length = σ8.length := by rw [← hw8, wipe_length]
      refine ⟨(I'.unpinned (pins := pg)).weak hl fun j v e => ?_, T.keep _ _ _ st7 fun b hb o e => (pin' b hb o e).1, fun b hb => ?_⟩
      · rw [← hw8] at e
        exact (wipe_some e).1
      · obtain ⟨o, e, _⟩ := T.obj _ _ st7 b hb
        exact (pin' b hb o e).2
    cases b with
    | false =>
      simp only [Bool.false_eq_true, if_false] at q9 ⊢
      obtain ⟨k', hk, w'⟩ := q9
      exact seg_again rfl (ih k' hk (i + 1) s₀ s9 H9 w' (back I9))
    | true =>
      simp only [if_true] at q9 ⊢
      have hy : ∀ v, yieldOut cenv v = yieldValue v := fun v => by simp only [yieldOut, hco, Bool.false_eq_true, if_false]
      simp only [hy]
      rw [Sem.bind_eq_wrap', Sem.bind_eq_wrap', Sem.wrap_wrap, Sem.wrap_wrap]
      refine seg_wrap ?_
      rw [hA]
      refine thnF (pe.run _ s9 σ8 H9 _ I9 q9) fun z s10 ⟨y, H10, I10, r10, m', em, yl⟩ => ?_
      subst em
      refine seg_at (seg_yield rfl rfl rfl ⟨i + 1, y, H10, _, r10, back I10, yl, fun s' H' G' ⟨k', w'⟩ => ?_⟩)
      exact seg_again rfl (ihm m' (Nat.lt_succ_self _) k' (i + 1) s' s' H' w' G')
theorem gen_start {elt tg iter : Expr} {ifs : List Expr} {scope : Scope} {pos : Pos} (hd : A.handled = none) (hco : cenv.scope.isCoroutine = false) (hpg : ∀ p ∈ pg, ∀ b ∈ fp, p.1 ≠ b) (T : Turn X.prog X.w X.K tg J fp it tn) (G : GenL X J sl σ g tt te St Yl Fin)
    (hgt : PG (genX X A cenv s₁ H₁ fp) tg g) (pt : PTs (genX X A cenv s₁ H₁ fp) ifs tt) (pe : PE (genX X A cenv s₁ H₁ fp) elt te) {m k : Nat} {s₀ s : Shared} {H : Hp} (w : St 0 k m H) (G0 : GenS X A cenv s₁ H₁ fp pg tn sl σ 0 H s) :
    Seg (model X.prog X.w) A (genR X A cenv s₁ H₁ fp pg sl σ Fin) (genY X A cenv s₁ H₁ fp pg tn sl σ Yl) m s₀ (.compStart (.GeneratorExp elt [⟨tg, iter, ifs, 0⟩] scope pos) 0 (.ref it) .none cenv)
      ((model X.prog X.w).den (.compStart (.GeneratorExp elt [⟨tg, iter, ifs, 0⟩] scope pos) 0 (.ref it) .none cenv)) [] s := by
  have loop := gen_loop (iter := iter) (scope := scope) (pos := pos) hd hco hpg T G hgt pt pe m k 0 s₀ s H w G0
  show Seg _ A _ _ _ s₀ _ ((compStart (.GeneratorExp elt [⟨tg, iter, ifs, 0⟩] scope pos) 0 (.ref it) .none cenv).onRaise (leaving cenv)) [] s
  unfold compStart
  rw [Sem.onRaise_eq_wrap]
  show Seg _ A _ _ _ s₀ _ ((ask >>= _).wrap _ _ _ _) [] s
  refine seg_bind_wrap (wpAny_askSetting ?_)
  split
  · exact seg_again rfl loop
  · first
      | exact seg_bind_wrap (wpAny_rule (seg_bind_wrap (wpAny_standAt (seg_bind_wrap (T.self _ 0 _ _ _ G0.tn (seg_again rfl loop))))))
      | (refine seg_bind_wrap (wpAny_rule ?_)
         show Seg _ A _ _ _ s₀ _ ((standAt iter.pos >>= _).wrap _ _ _ _) [] s
         exact seg_bind_wrap (wpAny_standAt (seg_bind_wrap (T.self _ 0 _ _ _ G0.tn (seg_again rfl loop)))))
end
end FL
set_option Elab.async false
set_option linter.all false
set_option maxRecDepth 100000
set_option maxHeartbeats 2000000
namespace FL
open PySem PySem.Spec PyProof.Rows L2 GenW
section
variable {X : Cx} {A : Around} {cenv : Env} {s₁ : Shared} {H₁ : Hp} {fp : List Addr} {pg : List (Addr × Obj)} {tn : Nat → Heap → Prop} {sl : List Nat} {σ : L2.St} {Yl : Nat → V → Hp → (Hp → Prop) → Prop} {Fin : Nat → Hp → Prop}
theorem GenS.gens {i : Nat} {H : Hp} {s : Shared} {gs : Array GenState} (G : GenS X A cenv s₁ H₁ fp pg tn sl σ i H s) (hb : AllBare gs) : GenS X A cenv s₁ H₁ fp pg tn sl σ i H { s with gens := gs } :=
  ⟨G.inv.call' (ch := []) rfl (Un.kept fun _ _ e => e) G.inv.hok hb fun b z => absurd z (by simp), G.tn, G.fr⟩
def IsG (ob : Obj) (gn : Nat) : Prop := ∃ nm qn, ob.cls = .type "generator" ∧ ob.data = .fields #[.int gn 0, nm, qn] ∧ ob.slots = #[]
theorem gen_next {A' : Around} {a : Addr} {gn m i : Nat} {ob : Obj} {H : Hp} {s : Shared} {gs : GenState} {Q : Option Value → Shared → Prop} {E : Value → Shared → Prop} (hh : A'.handled = none) (hroom : A'.depth < recursionLimit) (hob : (a, ob) ∈ pg) (hg : IsG ob gn)
    (G : GenS X A'.in1 cenv s₁ H₁ fp pg tn sl σ i H s) (hgs : s.gens[gn]? = some gs) (hgo : gs.Goes (model X.prog X.w) A'.in1 (genR X A'.in1 cenv s₁ H₁ fp pg sl σ Fin) (genY X A'.in1 cenv s₁ H₁ fp pg tn sl σ Yl) m (.send .none) (s.setGen gn .running))
    (hY : ∀ v y i' H' s' gs' Kk, RelV y v → GenS X A'.in1 cenv s₁ H₁ fp pg tn sl σ i' H' s' → Yl (m - 1) y H' Kk → gs'.bare = true →
      (∀ s'' H'', GenS X A'.in1 cenv s₁ H₁ fp pg tn sl σ i' H'' s'' → Kk H'' → ∃ m', m = m' + 1 ∧ gs'.Goes (model X.prog X.w) A'.in1 (genR X A'.in1 cenv s₁ H₁ fp pg sl σ Fin) (genY X A'.in1 cenv s₁ H₁ fp pg tn sl σ Yl) m' (.send .none) s'') →
      gn < s'.gens.size → Q (some v) (s'.setGen gn gs'))
    (hP : ∀ s' H' h', Inv (genX X A'.in1 cenv s₁ H₁ fp) pg (L2.wipe σ sl) H' s' → Fin m H' → (∀ b o, s'.heap.get? b = some o → h'.get? b = some o) → Q none { s'.setGen gn .finished with heap := h' }) :
    wpAny (model X.prog X.w) A' (pyNext (.ref a)) Q E s := by
  obtain ⟨nm, qn, g1, g2, g3⟩ := hg
  have pin := G.inv.pin (a, ob) (List.mem_append_right _ hob)
  have hl : gn < s.gens.size := (Array.getElem?_eq_some_iff.mp hgs).1
  have goes : ∀ {gs : GenState} {n : Nat} {s : Shared}, gs.Goes (model X.prog X.w) A'.in1 (genR X A'.in1 cenv s₁ H₁ fp pg sl σ Fin) (genY X A'.in1 cenv s₁ H₁ fp pg tn sl σ Yl) n (.send .none) s →
      gs.Goes (model X.prog X.w) A'.in1 (fun n s₀ r s1 => ((r = .ok (.ret .none) ∨ r = .ok .next) ∧ ∃ H, Inv (genX X A'.in1 cenv s₁ H₁ fp) pg (L2.wipe σ sl) H s1 ∧ Fin n H) ∨ ∃ e, r = .error e ∧ (fun _ _ => False) e s1) (genY X A'.in1 cenv s₁ H₁ fp pg tn sl σ Yl) n (.send .none) s := fun h => h
  refine wpAny_gsz (n := gn + 1) hl (next_genG (F := fun n _ s1 => ∃ H, Inv (genX X A'.in1 cenv s₁ H₁ fp) pg (L2.wipe σ sl) H s1 ∧ Fin n H) (Er := fun _ _ => False) hh G.inv.nolimit hroom ⟨ob, nm, qn, pin.1, g1, g2, g3⟩ hgs (goes hgo) (fun v s' gs' hb hv => ?_) (fun s' hp h' hk => ?_) fun e s' he => he.elim)
  · intro hsz
    obtain ⟨i', y, H', Kk, ry, G', yl, hk⟩ := hv
    have hsz' : gn < s'.gens.size := by
      have q : (s'.setGen gn gs').gens.size = s'.gens.size := setGen_size _ _ _
      have z : gn + 1 ≤ (s'.setGen gn gs').gens.size := hsz
      omega
    refine hY v y i' H' s' gs' Kk ry G' yl hb (fun s'' H'' G'' k'' => ?_) hsz'
    have := hk s'' H'' G'' k''
    cases m with
    | zero => exact False.elim this
    | succ m => exact ⟨m, rfl, this⟩
  · intro _
    obtain ⟨H', I', f'⟩ := hp
    exact hP s' H' h' I' f' hk
def YlB (c : Bool) (Res : Bool → Hp → Prop) : Nat → V → Hp → (Hp → Prop) → Prop := fun _ y H Kk => ∃ b, y = .bl b ∧ (b = c → Res c H) ∧ (b = !c → Kk H)
def FinB (c : Bool) (Res : Bool → Hp → Prop) : Nat → Hp → Prop := fun _ H => Res (!c) H
theorem any_loop {A₀ : Around} {a : Addr} {gn : Nat} {ob : Obj} {R : Result → Shared → Prop} {Res : Bool → Hp → Prop} (hh : A₀.handled = none) (hroom : A₀.in1.depth < recursionLimit) (hob : (a, ob) ∈ pg) (hg : IsG ob gn)
    (hend : ∀ b s' H', Inv (genX X A₀.in1.in1 cenv s₁ H₁ fp) pg (L2.wipe σ sl) H' s' → Res b H' → R (.ok (.ret (.bool b))) s') :
    ∀ (m i : Nat) (H : Hp) (s : Shared) (gs : GenState), GenS X A₀.in1.in1 cenv s₁ H₁ fp pg tn sl σ i H s → s.gens[gn]? = some gs →
      gs.Goes (model X.prog X.w) A₀.in1.in1 (genR X A₀.in1.in1 cenv s₁ H₁ fp pg sl σ (FinB true Res)) (genY X A₀.in1.in1 cenv s₁ H₁ fp pg tn sl σ (YlB true Res)) m (.send .none) (s.setGen gn .running) →
      codeAny (model X.prog X.w) A₀ (.builtin "any.loop" ⟨[.ref a], []⟩) R s := by
  intro m
  induction m with
  | zero =>
    intro i H s gs G hgs hgo
    refine codeAny_builtin F.entry_any_loop ?_
    rw [Around.under_plainId F.plain_any_loop _]
    show wpAny _ A₀.in1 (pyNext (.ref a) >>= _) _ _ s
    refine wpAny_bind (gen_next (A' := A₀.in1) hh hroom hob hg G hgs hgo (fun v y i' H' s' gs' Kk ry G' yl hb hk hsz => ?_) fun s' H' h' I' f' hk => ?_)
    · obtain ⟨b, rfl, y1, y2⟩ := yl
      cases ry
      refine wpAny_bind (wpAny_holding (wpAny_truthy_bool ?_))
      refine wpAny_bind (wpAny_letGo ?_)
      have G2 : GenS X A₀.in1.in1 cenv s₁ H₁ fp pg tn sl σ i' H' (s'.setGen gn gs') := G'.gens (allBare_setGen G'.inv.bare hb)
      cases b with
      | false =>
        obtain ⟨m', e, _⟩ := hk _ H' G2 (y2 rfl)
        cases e
      | true =>
        simp only [if_true]
        refine wpAny_bind (wpAny_rule (wpAny_pure ?_))
        exact hend true _ H' G2.inv (y1 rfl)
    · refine wpAny_bind (wpAny_rule (wpAny_pure ?_))
      have I2 : Inv (genX X A₀.in1.in1 cenv s₁ H₁ fp) pg (L2.wipe σ sl) H' { s'.setGen gn .finished with heap := h' } := I'.call' (ch := []) rfl (Un.kept hk) (I'.hok.kept hk) (allBare_setGen I'.bare rfl) fun b z => absurd z (by simp)
      exact hend false _ H' I2 f'
  | succ m ih =>
    intro i H s gs G hgs hgo
    refine codeAny_builtin F.entry_any_loop ?_
    rw [Around.under_plainId F.plain_any_loop _]
    show wpAny _ A₀.in1 (pyNext (.ref a) >>= _) _ _ s
    refine wpAny_bind (gen_next (A' := A₀.in1) hh hroom hob hg G hgs hgo (fun v y i' H' s' gs' Kk ry G' yl hb hk hsz => ?_) fun s' H' h' I' f' hk => ?_)
    · obtain ⟨b, rfl, y1, y2⟩ := yl
      cases ry
      refine wpAny_bind (wpAny_holding (wpAny_truthy_bool ?_))
      refine wpAny_bind (wpAny_letGo ?_)
      have G2 : GenS X A₀.in1.in1 cenv s₁ H₁ fp pg tn sl σ i' H' (s'.setGen gn gs') := G'.gens (allBare_setGen G'.inv.bare hb)
      cases b with
      | false =>
        simp only [Bool.false_eq_true, if_false]
        obtain ⟨m', e, go⟩ := hk _ H' (G2.gens (allBare_setGen (s := s'.setGen gn gs') G2.inv.bare (x := .running) rfl)) (y2 rfl)
        cases e
        exact wpAny_pure ⟨plainId_quiet F.plain_any_loop _, ih i' H' (s'.setGen gn gs') gs' G2 (setGen_at hsz) go⟩
      | true =>
        simp only [if_true]
        refine wpAny_bind (wpAny_rule (wpAny_pure ?_))
        exact hend true _ H' G2.inv (y1 rfl)
    · refine wpAny_bind (wpAny_rule (wpAny_pure ?_))
      have I2 : Inv (genX X A₀.in1.in1 cenv s₁ H₁ fp) pg (L2.wipe σ sl) H' { s'.setGen gn .finished with heap := h' } := I'.call' (ch := []) rfl (Un.kept hk) (I'.hok.kept hk) (allBare_setGen I'.bare rfl) fun b z => absurd z (by simp)
      exact hend false _ H' I2 f'
theorem all_loop {A₀ : Around} {a : Addr} {gn : Nat} {ob : Obj} {R : Result → Shared → Prop} {Res : Bool → Hp → Prop} (hh : A₀.handled = none) (hroom : A₀.in1.depth < recursionLimit) (hob : (a, ob) ∈ pg) (hg : IsG ob gn)
    (hend : ∀ b s' H', Inv (genX X A₀.in1.in1 cenv s₁ H₁ fp) pg (L2.wipe σ sl) H' s' → Res b H' → R (.ok (.ret (.bool b))) s') :
    ∀ (m i : Nat) (H : Hp) (s : Shared) (gs : GenState), GenS X A₀.in1.in1 cenv s₁ H₁ fp pg tn sl σ i H s → s.gens[gn]? = some gs →
      gs.Goes (model X.prog X.w) A₀.in1.in1 (genR X A₀.in1.in1 cenv s₁ H₁ fp pg sl σ (FinB false Res)) (genY X A₀.in1.in1 cenv s₁ H₁ fp pg tn sl σ (YlB false Res)) m (.send .none) (s.setGen gn .running) →
      codeAny (model X.prog X.w) A₀ (.builtin "all.loop" ⟨[.ref a], []⟩) R s := by
  intro m
  induction m with
  | zero =>
    intro i H s gs G hgs hgo
    refine codeAny_builtin F.entry_all_loop ?_
    rw [Around.under_plainId F.plain_all_loop _]
    show wpAny _ A₀.in1 (pyNext (.ref a) >>= _) _ _ s
    refine wpAny_bind (gen_next (A' := A₀.in1) hh hroom hob hg G hgs hgo (fun v y i' H' s' gs' Kk ry G' yl hb hk hsz => ?_) fun s' H' h' I' f' hk => ?_)
    · obtain ⟨b, rfl, y1, y2⟩ := yl
      cases ry
      refine wpAny_bind (wpAny_holding (wpAny_truthy_bool ?_))
      refine wpAny_bind (wpAny_letGo ?_)
      have G2 : GenS X A₀.in1.in1 cenv s₁ H₁ fp pg tn sl σ i' H' (s'.setGen gn gs') := G'.gens (allBare_setGen G'.inv.bare hb)
      cases b with
      | true =>
        obtain ⟨m', e, _⟩ := hk _ H' G2 (y2 rfl)
        cases e
      | false =>
        simp only [Bool.false_eq_true, if_false]
        refine wpAny_bind (wpAny_rule (wpAny_pure ?_))
        exact hend false _ H' G2.inv (y1 rfl)
    · refine wpAny_bind (wpAny_rule (wpAny_pure ?_))
      have I2 : Inv (genX X A₀.in1.in1 cenv s₁ H₁ fp) pg (L2.wipe σ sl) H' { s'.setGen gn .finished with heap := h' } := I'.call' (ch := []) rfl (Un.kept hk) (I'.hok.kept hk) (allBare_setGen I'.bare rfl) fun b z => absurd z (by simp)
      exact hend true _ H' I2 f'
  | succ m ih =>
    intro i H s gs G hgs hgo
    refine codeAny_builtin F.entry_all_loop ?_
    rw [Around.under_plainId F.plain_all_loop _]
    show wpAny _ A₀.in1 (pyNext (.ref a) >>= _) _ _ s
    refine wpAny_bind (gen_next (A' := A₀.in1) hh hroom hob hg G hgs hgo (fun v y i' H' s' gs' Kk ry G' yl hb hk hsz => ?_) fun s' H' h' I' f' hk => ?_)
    · obtain ⟨b, rfl, y1, y2⟩ := yl
      cases ry
      refine wpAny_bind (wpAny_holding (wpAny_truthy_bool ?_))
      refine wpAny_bind (wpAny_letGo ?_)
      have G2 : GenS X A₀.in1.in1 cenv s₁ H₁ fp pg tn sl σ i' H' (s'.setGen gn gs') := G'.gens (allBare_setGen G'.inv.bare hb)
      cases b with
      | true =>
        simp only [if_true]
        obtain ⟨m', e, go⟩ := hk _ H' (G2.gens (allBare_setGen (s := s'.setGen gn gs') G2.inv.bare (x := .running) rfl)) (y2 rfl)
        cases e
        exact wpAny_pure ⟨plainId_quiet F.plain_all_loop _, ih i' H' (s'.setGen gn gs') gs' G2 (setGen_at hsz) go⟩
      | false =>
        simp only [Bool.false_eq_true, if_false]
        refine wpAny_bind (wpAny_rule (wpAny_pure ?_))
        exact hend false _ H' G2.inv (y1 rfl)
    · refine wpAny_bind (wpAny_rule (wpAny_pure ?_))
      have I2 : Inv (genX X A₀.in1.in1 cenv s₁ H₁ fp) pg (L2.wipe σ sl) H' { s'.setGen gn .finished with heap := h' } := I'.call' (ch := []) rfl (Un.kept hk) (I'.hok.kept hk) (allBare_setGen I'.bare rfl) fun b z => absurd z (by simp)
      exact hend true _ H' I2 f'
end
end FL
set_option Elab.async false
set_option linter.all false
set_option maxRecDepth 100000
set_option maxHeartbeats 2000000
namespace FL
open PySem PySem.Spec PyProof.Rows L2 GenW
structure GMadeX (X : Cx) (pins : List (Addr × Obj)) (σ : L2.St) (sl : List Nat) (A : Around) (cenv : Env) (elt tg iter : Expr) (ifs : List Expr) (scope : Scope) (pos : Pos) (s4 : Shared) (H4 : Hp) (fp : List Addr) (pg : List (Addr × Obj)) (it : Addr) (tn : Nat → Heap → Prop) (J : It) (a gn : Nat) (ob : Obj) (s5 : Shared) : Prop where
  inv : Inv X pins σ H4 s4
  fpok : ∀ b ∈ fp, FpOk X pins H4 b
  T : Turn X.prog X.w X.K tg J fp it tn
  hpg : ∀ p ∈ pg, ∀ b ∈ fp, p.1 ≠ b
  mem : (a, ob) ∈ pg
  isg : IsG ob gn
  gen : s5.gens[gn]? = some (.fresh (.compStart (.GeneratorExp elt [⟨tg, iter, ifs, 0⟩] scope pos) 0 (.ref it) .none cenv))
  isgen : s5.heap.IsGen a gn
  st : ∀ gs' : Array GenState, AllBare gs' → GenS X A cenv s4 H4 fp pg tn sl σ 0 H4 { s5 with gens := gs' }
  bare : AllBare s5.gens
abbrev gxEnv (X : Cx) (scope : Scope) (L : Addr) (code : Value) : Env := genEnv scope (cloFrom X.env.cells scope.names []) L code builtinsNs X.env
section
variable {X : Cx} {pins : List (Addr × Obj)} {σ : L2.St} {H : Hp} {s : Shared} {g : Gc}
theorem gx_make {A : Around} {c P : Addr} {elt tg iter : Expr} {ifs : List Expr} {scope : Scope} {own : List (Str × Nat)} {pos : Pos} {wi : TI} {R : It → Hp → Prop} {k : Nat} {Q' : Value → Shared → Prop} (hr : Room k X.A) (hN : X.N.Nodup) (hAd : A.handled = none) (hAf : A.frames = some X.stack)
    (TB : LamX.TabB X.base X.mg c P) (hcode : X.env.code = .ref c) (hm : (P, X.env.qual ++ "<genexpr>") ∈ g.T) (hu : ∀ p ∈ g.T, p.1 = P → p.2 = X.env.qual ++ "<genexpr>") (C : CloS X.N X.env.scope scope own) (h0 : scope.names.lookup (".0" : Str) = some NameKind.local)
    (hi : PI X tg iter wi) (hs : ∀ v, genFold iter X.env v = pure v) (I : Inv X pins σ H s) (hw : wi σ H R) (hT : ∀ J H2, R J H2 → LamX.Tabs g.T H2)
    (hQ : ∀ (s4 : Shared) (H2 H4 : Hp) (fp : List Addr) (it : Addr) (tn : Nat → Heap → Prop) (J : It) (a gn : Nat) (ob : Obj) (code : Value) (s5 : Shared), R J H2 → LamX.ExtN H2 H4 → LamX.Tabs g.T H4 → GMadeX X pins σ (own.map (·.2)) A (gxEnv X scope s4.heap.objs.size code) elt tg iter ifs scope pos s4 H4 fp [(a, ob)] it tn J a gn ob s5 → Q' (.ref a) s5) :
    wpAny (model X.prog X.w) X.A (eval (.GeneratorExp elt [⟨tg, iter, ifs, 0⟩] scope pos) X.env) Q' X.xe s := by
  refine wpAny_GeneratorExp_make (cl := cloFrom X.env.cells scope.names []) C.co (closure_ok (C.has I.ok)) C.cell h0 C.kind (by have := hr.dp; omega) ?_ hs
  refine thn (hi.run pins s σ H R I hw) fun v s1 h1 => thn h1 fun itv s2 h2 => ?_
  obtain ⟨it, fp, tn, J, H2, rfl, I2, T, st2, f2, w2⟩ := h2
  have hT2 := hT J H2 w2
  obtain ⟨ps, hP, ht, ha⟩ := hT2 _ hm
  have cd : PySem.W.CodeHd s2.heap c P := TB.code.keeps I2.bk
  have hP' : s2.heap.get? P = some { cls := .none, data := .fields ps } := I2.hok P _ hP
  have fpP : ∀ b ∈ fp, b ≠ P := fun b hb z => by
    have := (f2 b hb).1
    rw [z, hP] at this
    cases this
  refine ⟨I2.nolimit, ?_⟩
  have cont : ∀ (code : Value) (s4 : Shared) (H4 : Hp), Inv X pins σ H4 s4 → LamX.ExtN H2 H4 → LamX.Tabs g.T H4 → tn 0 s4.heap → (∀ b ∈ fp, FpOk X pins H4 b) →
      wpAny (model X.prog X.w) X.A (builtinsFor X.env.globals X.env.builtins) (fun bi s₄ => ∀ h', h'.Ns s₄.heap.objs.size (fun y => if y = ".0" then some (.ref it) else none) → Heap.SameBut s₄.heap.objs.size (s₄.heap.push { cls := .type "frame", data := .dict #[] }) h' →
          Q' (.ref h'.objs.size) { s₄ with
            gens := s₄.gens.push (.fresh (.compStart (.GeneratorExp elt [⟨tg, iter, ifs, 0⟩] scope pos) 0 (.ref it) .none (genEnv scope (cloFrom X.env.cells scope.names []) s₄.heap.objs.size code bi X.env))),
            toks := s₄.toks + 1 + 1 + 1,
            heap := h'.push { cls := .type "generator", data := .fields #[.int s₄.gens.size 0, .str "<genexpr>" (s₄.toks + 1), .str (X.env.qual ++ "<genexpr>") (s₄.toks + 1 + 1)] } }) X.xe s4 := by
    intro code s4 H4 I4 eN T4 t4 f4
    obtain ⟨bm, ob, e1, e2, e3, e4, e5, e6, e7, e8⟩ := TB.bm
    refine wpAny_builtinsFor (m := X.mg) (by rw [I4.ok.glob]; exact I4.mod.glob.keeps I4.bk) e1 e2 (I4.bk _ _ e5) e6 e7 e8 ?_
    intro h' hn' hs'
    have hsz : h'.objs.size = s4.heap.objs.size + 1 := by rw [hs'.1, Heap.size_push]
    have keep' : ∀ b o, s4.heap.get? b = some o → h'.get? b = some o := fun b o e => hs'.extBut b o (Nat.ne_of_lt (Heap.lt_size e)) (Heap.get?_push_of_some _ e)
    have fpl : ∀ b ∈ fp, b < s4.heap.objs.size := fun b hb => by
      obtain ⟨o, e, _⟩ := T.obj _ _ t4 b hb
      exact Heap.lt_size e
    generalize eob : ({ cls := .type "generator", data := .fields #[.int s4.gens.size 0, .str "<genexpr>" (s4.toks + 1), .str (X.env.qual ++ "<genexpr>") (s4.toks + 1 + 1)] } : Obj) = gob
    have hget : (h'.push gob).get? h'.objs.size = some gob := Heap.get?_push_size _ (by rw [← eob] <;> rfl)
    have keep5 : ∀ b o, s4.heap.get? b = some o → (h'.push gob).get? b = some o := fun b o e => Heap.get?_push_of_some _ (keep' b o e)
    have bare5 : AllBare (s4.gens.push (.fresh (.compStart (.GeneratorExp elt [⟨tg, iter, ifs, 0⟩] scope pos) 0 (.ref it) .none (gxEnv X scope s4.heap.objs.size code)))) := I4.bare.push rfl
    have hisg : IsG gob s4.gens.size := ⟨_, _, by rw [← eob], by rw [← eob], by rw [← eob]⟩
    have hnC : H4 h'.objs.size = none := I4.hok.fresh (by omega)
    refine hQ s4 H2 H4 fp it tn J h'.objs.size s4.gens.size gob code _ w2 eN T4 ⟨I4, f4, T, fun p hp b hb z => ?_, List.mem_cons_self, hisg, by simp, ?_, fun gs' hb => ?_, bare5⟩
    · rw [List.mem_singleton.mp hp] at z
      have z : h'.objs.size = b := z
      have h1 := fpl b hb
      rw [← z, hsz] at h1
      exact absurd h1 (Nat.not_lt.mpr (Nat.le_succ _))
    · obtain ⟨nm, qn, i1, i2, i3⟩ := hisg
      exact ⟨gob, nm, qn, hget, i1, i2, i3⟩
    · have I5 : Inv (cloCx X A (gxEnv X scope s4.heap.objs.size code) s4 H4 fp (fun _ _ => False)) [] (L2.wipe σ (own.map (·.2))) H4 { s4 with heap := h'.push gob, toks := s4.toks + 1 + 1 + 1, gens := gs' } :=
        clo_start I4 C hN hAd hAf rfl I4.ok.glob rfl rfl rfl rfl hb (fun b hb => ⟨f4 b hb, fpl b hb⟩) (hn'.keeps fun b o e => Heap.get?_push_of_some _ e) keep5 (L2.wipe_length ..) fun i y w hy hw => .inl hw
      refine ⟨I5.pins_of fun p hp => ?_, T.keep _ _ _ t4 fun b _ o e => keep5 b o e, fun b hb => (f4 b hb).1⟩
      rw [List.mem_singleton.mp hp]
      refine ⟨hget, hnC, ?_, fun z => ?_, fun v z => ?_⟩
      · show h'.objs.size ≠ s4.heap.objs.size
        omega
      · have z : h'.objs.size ∈ frs X.stack := z
        rcases List.mem_cons.mp (I4.stkSub _ z) with e | e
        · have h1 := I4.lt
          rw [← e, hsz] at h1
          exact absurd h1 (Nat.not_lt.mpr (Nat.le_succ _))
        · exact I4.nofs (by show (s4.heap.objs.size : Nat) ≤ h'.objs.size; omega) e
      · obtain ⟨nm, qn, i1, i2, i3⟩ := hisg
        rw [i2] at z
        cases z
  cases hc : codeAmong pos ps.toList with
  | none =>
    refine wpAny_genexprCodeX hcode (cd.code hP' ht) (cd.tab hP') hc fun c' h' tk hx hge hlt hco' hrec htab' _ => ?_
    obtain ⟨o1, vs1, f1, tf, fl, tg1, inF, tx, tt, op, _, _, _, _, _, _, _, _, _, htr, _⟩ := hco'
    obtain ⟨c2, oc, vs, t, e2, hoc, hd, hv⟩ := hrec
    cases e2
    have nC : H2 c' = none := I2.hok.fresh hge
    have I4 := LamX.inv_table (t' := tk) (q := X.env.qual ++ "<genexpr>") (more := #[rawInt pos.line, rawInt pos.col, .ref c']) (h' := h') I2 hP (fun b o hb e => hx b o hb e) htab'.2 hge ⟨oc, vs, t, hoc, hd, hv⟩
    have hE : LamX.ExtN H2 (upd (upd H2 P (.tbl (ps ++ #[rawInt pos.line, rawInt pos.col, .ref c']))) c' (LamX.CodeO c' (X.env.qual ++ "<genexpr>"))) := fun b o e n => by
      rw [upd_ne (ne_of_none e nC), upd_ne (fun z => n ps (Option.some.inj (e.symm.trans (by rw [z]; exact hP))))]
      exact e
    have eL : (ps ++ #[rawInt pos.line, rawInt pos.col, .ref c']).toList = ps.toList ++ [rawInt pos.line, rawInt pos.col, .ref c'] := by simp
    refine cont (.ref c') _ _ I4 hE (fun p hp => ?_) (T.keep _ _ _ st2 fun b hb o e => hx b o (fpP b hb) e) fun b hb => ?_
    · by_cases hb : p.1 = P
      · rw [hu p hp hb, hb]
        refine ⟨_, by rw [upd_ne (ne_of_none hP nC), upd_same], by rw [eL]; exact PySem.TriplesOk_snoc _ _ _ _ ht, fun p' cv hcv => ?_⟩
        rw [eL] at hcv
        rcases LamX.among_app _ ht hcv with z | z
        · obtain ⟨c0, e1, e2⟩ := ha p' cv z
          exact ⟨c0, e1, hE _ _ e2 LamX.codeO_ne⟩
        · exact ⟨c', z, upd_same⟩
      · obtain ⟨ps', a1, a2, a3⟩ := hT2 p hp
        refine ⟨ps', by rw [upd_ne (ne_of_none a1 nC), upd_ne hb]; exact a1, a2, fun p' cv hcv => ?_⟩
        obtain ⟨c0, e1, e2⟩ := a3 p' cv hcv
        exact ⟨c0, e1, hE _ _ e2 LamX.codeO_ne⟩
    · obtain ⟨z0, z1⟩ := f2 b hb
      refine ⟨?_, z1⟩
      obtain ⟨o, e, _⟩ := T.obj _ _ st2 b hb
      have := Heap.lt_size e
      rw [upd_ne (fun z => by rw [z] at this; exact Nat.lt_irrefl _ (Nat.lt_of_lt_of_le this hge)), upd_ne (fpP b hb)]
      exact z0
  | some cv =>
    refine wpAny_genexprCode_hit hcode (cd.code hP' ht) hc ?_
    exact cont cv s2 H2 I2 (LamX.ExtN.refl _) hT2 st2 f2
end
end FL
set_option Elab.async false
set_option linter.all false
set_option maxRecDepth 100000
set_option maxHeartbeats 2000000
namespace FL
open PySem PySem.Spec PyProof.Rows L2 GenW
def stT (c : Bool) (g : FG) (t : FT) (e : FE) (own : List Nat) (δ : DS) : List FL.D → VH → Out Bool
  | [], h => .ok (!c) h
  | x :: xs, h => match g x (FL.wipe δ own) h with
    | none => .bad
    | some (δ1, h) => match t δ1 h with
      | .ok false h => stT c g t e own δ xs h
      | .ok true h => match e δ1 h with
        | .ok (.bl b) h => if b = c then .ok c h else stT c g t e own δ xs h
        | _ => .bad
      | _ => .bad
def stEnd (o : Out Bool) : Out FL.D := match o with
  | .ok b h => .ok (.bl b) h
  | _ => .bad
def stX (c : Bool) (g : FG) (t : FT) (e : FE) (own : List Nat) (δ : DS) (x : FL.D) (h : VH) : Out FL.D := match x with
  | .tup xs => stEnd (stT c g t e own δ xs h)
  | .fls xs => stEnd (stT c g t e own δ xs h)
  | .fdc ks _ => stEnd (stT c g t e own δ ks h)
  | .str s => stEnd (stT c g t e own δ (s.map fun c => .str [c]) h)
  | _ => .bad
def eStG (c : Bool) (a : FE) (g : FG) (t : FT) (e : FE) (own : List Nat) : FE := fun δ h => (a δ h).bind fun x h => stX c g t e own δ x h
def eStR (c : Bool) (r : FA) (g : FG) (t : FT) (e : FE) (own : List Nat) : FE := fun δ h => (r δ h).bind fun xs h => match rEnds xs with
  | some (i, j) => stEnd (stT c g t e own δ (rng i j) h)
  | none => .bad
structure GenP (X : Cx) (g : Gc) (k : Nat) (elt tg : Expr) (ifs : List Expr) (scope : Scope) (own : List (Str × Nat)) (f : FG) (ft : FT) (fe : FE) : Prop where
  C : CloS X.N X.env.scope scope own
  h0 : scope.names.lookup (".0" : Str) = some NameKind.local
  hg : ∀ (A : Around) (s : Shared) (H : Hp) (L : Addr) (code : Value) (fp : List Addr), Room k (A.deeper (gxEnv X scope L code)) → PG (cloCx X A (gxEnv X scope L code) s H fp (fun _ _ => False)) tg (rg X.K g (own.map (·.2)) f)
  ht : ∀ (A : Around) (s : Shared) (H : Hp) (L : Addr) (code : Value) (fp : List Addr), Room k (A.deeper (gxEnv X scope L code)) → PTs (cloCx X A (gxEnv X scope L code) s H fp (fun _ _ => False)) ifs (rt X.K g W0 ft)
  he : ∀ (A : Around) (s : Shared) (H : Hp) (L : Addr) (code : Value) (fp : List Addr), Room k (A.deeper (gxEnv X scope L code)) → PE (cloCx X A (gxEnv X scope L code) s H fp (fun _ _ => False)) elt (rd X.K g W0 fe)
section
variable {X : Cx} {pins : List (Addr × Obj)} {σ : L2.St} {H : Hp} {s : Shared} {g : Gc} {W : WX} {own : List Nat} {f : FG} {ft : FT} {fe : FE} {δ : DS} {Q : VK} {c : Bool}
abbrev GoodB (K : PySem.W.Frag) (g : Gc) (m : Nat → Addr) (n : Nat) (H : Hp) (Q : VK) (o : Out Bool) : Prop := GoodT K g (fun _ _ _ => False) m n H (fun b H' => Q (.bl b) H') o
def GW (K : PySem.W.Frag) (g : Gc) (own : List Nat) (f : FG) (ft : FT) (fe : FE) (c : Bool) (δ : DS) (σ : L2.St) (Q : VK) (J : It) (H : Hp) : Prop :=
  ∃ (C : Hp → Prop) (vs : List V) (xs : List FL.D) (m : Nat → Addr) (h : VH), TreeIt J C vs ∧ C H ∧ RS K m h.length H δ σ ∧ Sim K g m h H ∧ RDs K m h.length H xs vs ∧ GoodB K g m h.length H Q (stT c f ft fe own δ xs h)
theorem gl_of {J : It} {C : Hp → Prop} {vs : List V} (T : TreeIt J C vs) : GenL X J own σ (rg X.K g own f) (rt X.K g W0 ft) (rd X.K g W0 fe)
    (fun i k n H => ∃ m h rest, C H ∧ RS X.K m h.length H δ σ ∧ Sim X.K g m h H ∧ RDs X.K m h.length H rest (vs.drop i) ∧ k = rest.length ∧ rest.length ≤ n ∧ GoodB X.K g m h.length H Q (stT c f ft fe own δ rest h))
    (YlB c fun b H => Q (.bl b) H) (FinB c fun b H => Q (.bl b) H) := by
  refine ⟨?_⟩
  rintro i k n H ⟨m, h, rest, hc, r, sm, rx, rfl, hn, q⟩
  cases rest with
  | nil =>
    have hl := rx.length
    rw [List.length_drop] at hl
    exact .inl ⟨T.stop i H hc (by simp at hl; omega), q m H Ext.refl sm⟩
  | cons x rest =>
    have hi : ∃ v, vs[i]? = some v ∧ RD X.K m h.length H x v ∧ RDs X.K m h.length H rest (vs.drop (i + 1)) := by
      have hl := rx.length
      rw [List.length_drop] at hl
      have hlt : i < vs.length := by simp at hl; omega
      rw [List.drop_eq_getElem_cons hlt] at rx
      cases rx with
      | cons r1 r2 => exact ⟨vs[i], by simp [hlt], r1, r2⟩
    obtain ⟨v, hv, r1, r2⟩ := hi
    refine .inr ⟨T.go i H v hc hv, fun y H' hy => ?_⟩
    obtain ⟨e1, e2⟩ := T.yld i H y H' v hc hy hv
    subst e1
    subst e2
    refine ⟨FL.wipe δ own, m, h, x, r.wipe own, sm, r1, ?_⟩
    unfold stT at q
    cases eg : f x (FL.wipe δ own) h with
    | none => rw [eg] at q; exact q
    | some p =>
      obtain ⟨δ1, h1⟩ := p
      rw [eg] at q
      intro m1 H1 σ1 e1 s1 rr1 hw
      refine ⟨hw.trans (wipe_wipe σ own), δ1, m1, h1, rr1, s1, ?_⟩
      dsimp only at q
      cases et : ft δ1 h1 with
      | bad => rw [et] at q; exact q
      | err c p h2 => rw [et] at q; exact q.elim
      | ok b h2 =>
        rw [et] at q
        intro m2 H2 e2 s2
        have e12 := e1.trans e2
        cases b with
        | false =>
          dsimp only at q
          simp only [Bool.false_eq_true, if_false]
          exact ⟨rest.length, by simp, m2, h2, rest, T.st _ _ e12.im hc, e12.rs r, s2, e12.rds r2, rfl, by simp at hn; omega, Gd.from e12 q⟩
        | true =>
          dsimp only at q
          simp only [if_true]
          refine ⟨δ1, m2, h2, e2.rs rr1, s2, ?_⟩
          cases ee : fe δ1 h2 with
          | bad => rw [ee] at q; exact q
          | err c p h3 => rw [ee] at q; exact q.elim
          | ok y h3 =>
            rw [ee] at q
            intro m3 H3 e3 s3 w rw'
            have e := e12.trans e3
            cases rw' with
            | bl b =>
              dsimp only at q
              cases n with
              | zero => simp at hn
              | succ n =>
                refine ⟨n, rfl, b, rfl, fun hb => ?_, fun hb => ?_⟩
                · rw [if_pos hb] at q
                  exact q m3 H3 e s3
                · rw [if_neg (by rw [hb]; cases c <;> simp)] at q
                  exact ⟨rest.length, m3, h3, rest, T.st _ _ e.im hc, e.rs r, s3, e.rds r2, rfl, by simpa using hn, Gd.from e q⟩
            | _ => exact q.elim
theorem gx_any {elt tg iter : Expr} {ifs : List Expr} {scope : Scope} {pos : Pos} {k : Nat} {ow : List (Str × Nat)} {s4 s5 : Shared} {H4 : Hp} {fp : List Addr} {it : Addr} {tn : Nat → Heap → Prop} {J : It} {a gn : Nat} {ob : Obj} {code : Value} {L : Addr} (hr : Room (k + 1 + 1 + 1) X.A)
    (P : GenP X g k elt tg ifs scope ow f ft fe) (G : GMadeX X pins σ (ow.map (·.2)) X.A.in1.in1 (gxEnv X scope L code) elt tg iter ifs scope pos s4 H4 fp [(a, ob)] it tn J a gn ob s5) (w : GW X.K g (ow.map (·.2)) f ft fe true δ σ Q J H4) :
    wpAny (model X.prog X.w) X.A (call (.builtin "any") [.ref a]) (EP X pins σ Q) X.xe s5 := by
  obtain ⟨C, vs, xs, m, h, T, hc, r, sm, rx, q⟩ := w
  refine call_function_tree F.kind_any F.plain_any F.entry_any (F.args_any1 _) ?_
  unfold Builtin.«any»
  refine wpAny_bind (m := oneArg "any" _) (wpAny_pure ?_)
  refine wpAny_bind (wpAny_pyIter_gen G.isgen ?_)
  have hrm : Room k (X.A.in1.in1.deeper (gxEnv X scope L code)) := hr.in1.in1.deeper _
  refine wpAny_pure ⟨plainId_quiet F.plain_any_loop _, any_loop (X := X) (cenv := gxEnv X scope L code) (s₁ := s4) (H₁ := H4) (fp := fp) (tn := tn) (sl := ow.map (·.2)) (σ := σ) (Res := fun b H => Q (.bl b) H) hr.hd (by have := hr.dp; show X.A.depth < _; omega) G.mem G.isg (fun b s' H' I' q' => ?_) xs.length 0 H4 s5 _ (G.st s5.gens G.bare) G.gen ⟨rfl, ?_⟩⟩
  · exact ⟨.bl b, H', G.inv.call' (ch := fp) I'.os I'.base I'.hok I'.bare fun b hb => ⟨(G.fpok b hb).2.2.2.1, (G.fpok b hb).2.1, (G.fpok b hb).2.2.2.2.1, (G.fpok b hb).2.2.2.2.2⟩, rfl, q'⟩
  · refine gen_start (A := X.A.in1.in1) (k := xs.length) hr.hd P.C.co G.hpg G.T (gl_of (c := true) (δ := δ) (Q := Q) T) (P.hg _ _ _ _ _ _ hrm) (P.ht _ _ _ _ _ _ hrm) (P.he _ _ _ _ _ _ hrm) ⟨m, h, xs, hc, r, sm, rx, rfl, Nat.le_refl _, q⟩ ?_
    exact G.st _ (allBare_setGen G.bare rfl)
theorem gx_all {elt tg iter : Expr} {ifs : List Expr} {scope : Scope} {pos : Pos} {k : Nat} {ow : List (Str × Nat)} {s4 s5 : Shared} {H4 : Hp} {fp : List Addr} {it : Addr} {tn : Nat → Heap → Prop} {J : It} {a gn : Nat} {ob : Obj} {code : Value} {L : Addr} (hr : Room (k + 1 + 1 + 1) X.A)
    (P : GenP X g k elt tg ifs scope ow f ft fe) (G : GMadeX X pins σ (ow.map (·.2)) X.A.in1.in1 (gxEnv X scope L code) elt tg iter ifs scope pos s4 H4 fp [(a, ob)] it tn J a gn ob s5) (w : GW X.K g (ow.map (·.2)) f ft fe false δ σ Q J H4) :
    wpAny (model X.prog X.w) X.A (call (.builtin "all") [.ref a]) (EP X pins σ Q) X.xe s5 := by
  obtain ⟨C, vs, xs, m, h, T, hc, r, sm, rx, q⟩ := w
  refine call_function_tree F.kind_all F.plain_all F.entry_all (F.args_all1 _) ?_
  unfold Builtin.«all»
  refine wpAny_bind (m := oneArg "all" _) (wpAny_pure ?_)
  refine wpAny_bind (wpAny_pyIter_gen G.isgen ?_)
  have hrm : Room k (X.A.in1.in1.deeper (gxEnv X scope L code)) := hr.in1.in1.deeper _
  refine wpAny_pure ⟨plainId_quiet F.plain_all_loop _, all_loop (X := X) (cenv := gxEnv X scope L code) (s₁ := s4) (H₁ := H4) (fp := fp) (tn := tn) (sl := ow.map (·.2)) (σ := σ) (Res := fun b H => Q (.bl b) H) hr.hd (by have := hr.dp; show X.A.depth < _; omega) G.mem G.isg (fun b s' H' I' q' => ?_) xs.length 0 H4 s5 _ (G.st s5.gens G.bare) G.gen ⟨rfl, ?_⟩⟩
  · exact ⟨.bl b, H', G.inv.call' (ch := fp) I'.os I'.base I'.hok I'.bare fun b hb => ⟨(G.fpok b hb).2.2.2.1, (G.fpok b hb).2.1, (G.fpok b hb).2.2.2.2.1, (G.fpok b hb).2.2.2.2.2⟩, rfl, q'⟩
  · refine gen_start (A := X.A.in1.in1) (k := xs.length) hr.hd P.C.co G.hpg G.T (gl_of (c := false) (δ := δ) (Q := Q) T) (P.hg _ _ _ _ _ _ hrm) (P.ht _ _ _ _ _ _ hrm) (P.he _ _ _ _ _ _ hrm) ⟨m, h, xs, hc, r, sm, rx, rfl, Nat.le_refl _, q⟩ ?_
    exact G.st _ (allBare_setGen G.bare rfl)
theorem GW.ext {J : It} {H2 H4 : Hp} (w : GW X.K g own f ft fe c δ σ Q J H2) (e : LamX.ExtN H2 H4) (t : LamX.Tabs g.T H4) : GW X.K g own f ft fe c δ σ Q J H4 := by
  obtain ⟨C, vs, xs, m, h, T, hc, r, sm, rx, q⟩ := w
  obtain ⟨e1, s1⟩ := Ext_of sm e t
  exact ⟨C, vs, xs, m, h, T, T.st _ _ e1.im hc, e1.rs r, s1, e1.rds rx, Gd.from e1 q⟩
theorem GW.tabs {J : It} {H2 : Hp} (w : GW X.K g own f ft fe c δ σ Q J H2) : LamX.Tabs g.T H2 := by
  obtain ⟨C, vs, xs, m, h, T, hc, r, sm, rx, q⟩ := w
  exact sm.tab
end
section
variable {X : Cx} {g : Gc} {W : WX} {f : FG} {ft : FT} {fe fa : FE} {sl : List Nat} {elt tg iter : Expr} {ifs : List Expr} {scope : Scope} {own : List (Str × Nat)} {pos gpos p : Pos} {r : FA} {cc : Bool} {k : Nat} {c P : Addr}
theorem st_fin {m : Nat → Addr} {n : Nat} {H : Hp} {Q : VK} {o : Out Bool} {W : Value → Option Addr → Hp → Prop} (z : GoodE X.K g W m n H Q (stEnd o)) : GoodB X.K g m n H Q o := by
  cases o with
  | ok b h' => exact fun m' H' e s => z m' H' e s _ (.bl b)
  | err c p h' => exact z.elim
  | bad => exact z
theorem rd_st : ∀ σ H Q, rd X.K g W (eStG cc fa f ft fe sl) σ H Q → ∃ δ,
    ((iList X.K (rd X.K g W fa) σ H (GW X.K g sl f ft fe cc δ σ Q) ∨ iTup X.K (rd X.K g W fa) σ H (GW X.K g sl f ft fe cc δ σ Q)) ∨ iStr (rd X.K g W fa) σ H (GW X.K g sl f ft fe cc δ σ Q)) ∨ iKeys (rd X.K g W fa) σ H (GW X.K g sl f ft fe cc δ σ Q) := by
  rintro σ H Q ⟨δ, m, h, r, s, q⟩
  refine ⟨δ, ?_⟩
  have q : GoodE X.K g (fun c d H' => W c d σ H') m h.length H Q ((fa δ h).bind fun x h => stX cc f ft fe sl δ x h) := q
  cases ea : fa δ h with
  | bad => rw [ea] at q; exact q.elim
  | err c p h1 =>
    rw [ea] at q
    refine .inl (.inr ⟨δ, m, h, r, s, ?_⟩)
    rw [ea]
    exact q
  | ok d h1 =>
    have go : ∀ {R : V → Hp → Prop}, (∀ m1 H1 v, Ext m h.length H m1 h1.length H1 → Sim X.K g m1 h1 H1 → RD X.K m1 h1.length H1 d v → GoodE X.K g (fun c d H' => W c d σ H') m1 h1.length H1 Q (stX cc f ft fe sl δ d h1) → R v H1) → rd X.K g W fa σ H R := fun {R} hR => by
      refine ⟨δ, m, h, r, s, ?_⟩
      rw [ea] at q ⊢
      have q : GoodE X.K g (fun c d H' => W c d σ H') m h.length H Q (stX cc f ft fe sl δ d h1) := q
      exact fun m1 H1 e1 s1 v r1 => hR m1 H1 v e1 s1 r1 (Gd.from e1 q)
    cases d with
    | tup xs =>
      refine .inl (.inl (.inr (go fun m1 H1 v e1 s1 r1 q1 => ?_)))
      cases r1 with
      | tup h2 h3 => exact ⟨_, rfl, ⟨_, h2.sq⟩, _, _, _, m1, h1, tree_tup, h2, e1.rs r, s1, h3, st_fin q1⟩
    | fls xs =>
      refine .inl (.inl (.inl (go fun m1 H1 v e1 s1 r1 q1 => ?_)))
      cases r1 with
      | fls h2 h3 => exact ⟨_, rfl, ⟨_, h2.seq⟩, _, _, _, m1, h1, tree_fls, h2, e1.rs r, s1, h3, st_fin q1⟩
    | str l =>
      refine .inl (.inr (go fun m1 H1 v e1 s1 r1 q1 => ?_))
      cases r1 with
      | str h2 => exact ⟨_, rfl, _, _, _, m1, h1, tree_str, trivial, e1.rs r, s1, sign_rel h2, st_fin q1⟩
    | fdc ks vs =>
      refine .inr (go fun m1 H1 v e1 s1 r1 q1 => ?_)
      cases r1 with
      | fdc h1' h2 h3 h4 =>
        subst h2
        exact ⟨_, _, rfl, .inl ⟨_, h1', _, _, _, m1, h1, tree_keys, h1', e1.rs r, s1, keys_rel h3, st_fin q1⟩⟩
    | _ =>
      refine .inl (.inr (go fun m1 H1 v e1 s1 r1 q1 => ?_))
      exact q1.elim
theorem fe_anyG (hm : X.mg "any" = none) (TB : LamX.TabB X.base X.mg c P) (hcode : X.env.code = .ref c) (hmT : (P, X.env.qual ++ "<genexpr>") ∈ g.T) (hu : ∀ p ∈ g.T, p.1 = P → p.2 = X.env.qual ++ "<genexpr>") (hN : X.N.Nodup) (hr : Room (k + 1 + 1 + 1) X.A) (ha : PE X iter (rd X.K g W fa)) (G : GenP X g k elt tg ifs scope own f ft fe) (hsl : own.map (·.2) = sl := by rfl) (hgl : Gl X "any" := by rfl) (hs : ∀ v, genFold iter X.env v = pure v := by intro _; rfl)
    (he : starEach [.GeneratorExp elt [⟨tg, iter, ifs, 0⟩] scope gpos] X.env = (false, eval (.GeneratorExp elt [⟨tg, iter, ifs, 0⟩] scope gpos) X.env) :: starEach [] X.env := by rfl) :
    PE X (.Call (.Name "any" p) [.GeneratorExp elt [⟨tg, iter, ifs, 0⟩] scope gpos] [] pos) (rd X.K g W (eStG true fa f ft fe sl)) := by
  subst hsl
  refine ⟨fun pins s σ H Q I hh => ?_⟩
  obtain ⟨δ, hw⟩ := rd_st σ H Q hh
  refine wpAny_Call_Name_kw (ld_blt I hgl hm boot_any ?_)
  refine PyProof.Rows.callWith_builtin1 ?_ he (by rfl)
  rw [he]
  show wpAny _ _ (spliced ((false, eval (.GeneratorExp elt [⟨tg, iter, ifs, 0⟩] scope gpos) X.env) :: backTo pos (starEach [] X.env))) _ _ s
  refine Calls.spliced_cons (gx_make (A := X.A.in1.in1) (g := g) hr hN hr.hd I.ok.frames TB hcode hmT hu G.C G.h0 (pi_or (pi_or (pi_or (pi_list ha) (pi_tup ha)) (pi_str ha)) (pi_keys ha)) hs I hw (fun J H2 w => w.tabs) fun s4 H2 H4 fp it tn J a gn ob code s5 w e t GM => ?_)
  exact Calls.spliced_nil (gx_any hr G GM (w.ext e t))
theorem fe_allG (hm : X.mg "all" = none) (TB : LamX.TabB X.base X.mg c P) (hcode : X.env.code = .ref c) (hmT : (P, X.env.qual ++ "<genexpr>") ∈ g.T) (hu : ∀ p ∈ g.T, p.1 = P → p.2 = X.env.qual ++ "<genexpr>") (hN : X.N.Nodup) (hr : Room (k + 1 + 1 + 1) X.A) (ha : PE X iter (rd X.K g W fa)) (G : GenP X g k elt tg ifs scope own f ft fe) (hsl : own.map (·.2) = sl := by rfl) (hgl : Gl X "all" := by rfl) (hs : ∀ v, genFold iter X.env v = pure v := by intro _; rfl)
    (he : starEach [.GeneratorExp elt [⟨tg, iter, ifs, 0⟩] scope gpos] X.env = (false, eval (.GeneratorExp elt [⟨tg, iter, ifs, 0⟩] scope gpos) X.env) :: starEach [] X.env := by rfl) :
    PE X (.Call (.Name "all" p) [.GeneratorExp elt [⟨tg, iter, ifs, 0⟩] scope gpos] [] pos) (rd X.K g W (eStG false fa f ft fe sl)) := by
  subst hsl
  refine ⟨fun pins s σ H Q I hh => ?_⟩
  obtain ⟨δ, hw⟩ := rd_st σ H Q hh
  refine wpAny_Call_Name_kw (ld_blt I hgl hm (u := .builtin "all") (by decide +kernel) ?_)
  refine PyProof.Rows.callWith_builtin1 ?_ he (by rfl)
  rw [he]
  show wpAny _ _ (spliced ((false, eval (.GeneratorExp elt [⟨tg, iter, ifs, 0⟩] scope gpos) X.env) :: backTo pos (starEach [] X.env))) _ _ s
  refine Calls.spliced_cons (gx_make (A := X.A.in1.in1) (g := g) hr hN hr.hd I.ok.frames TB hcode hmT hu G.C G.h0 (pi_or (pi_or (pi_or (pi_list ha) (pi_tup ha)) (pi_str ha)) (pi_keys ha)) hs I hw (fun J H2 w => w.tabs) fun s4 H2 H4 fp it tn J a gn ob code s5 w e t GM => ?_)
  exact Calls.spliced_nil (gx_all hr G GM (w.ext e t))
end
end FL
set_option Elab.async false
set_option linter.all false
set_option maxRecDepth 100000
set_option maxHeartbeats 2000000
namespace FL
open PySem PySem.Spec PyProof.Rows L2
structure SrcOk (K : PySem.W.Frag) (g : Gc) (J : It) (xs : List FL.D) (C : (Nat → Addr) → Nat → Hp → Prop) : Prop where
  st : ∀ {m m' : Nat → Addr} {n n' : Nat} {H H' : Hp}, n ≤ n' → (∀ k, k < n → m' k = m k) → Imm H H' → C m n H → C m' n' H'
  stop : ∀ m n H i, C m n H → xs.length ≤ i → J.stop i H
  item : ∀ m h H i x, Sim K g m h H → C m h.length H → xs[i]? = some x → J.go i H ∧ ∀ y H', J.yld i H y H' → Ext m h.length H m h.length H' ∧ Sim K g m h H' ∧ RD K m h.length H' x y
section
variable {X : Cx} {g : Gc} {W : WX} {f : FG} {ft : FT} {fe : FE} {own : List Nat} {δ : DS} {σ : L2.St} {D : Addr} {Q : VK}
theorem for_src {sb : FSt} {D : Ends} {J : It} {C : (Nat → Addr) → Nat → Hp → Prop} {xs : List FL.D} {m : Nat → Addr} {h : VH} {H : Hp} {δ : DS} {σ : L2.St} (S : SrcOk X.K g J xs C) (c0 : C m h.length H) (r : RS X.K m h.length H δ σ) (s : Sim X.K g m h H)
    (q : GoodS X.K g W m h.length H D (forT f sb xs δ h)) : ForW X.K g W own f sb D J σ H := by
  refine ⟨fun i k σ H => ∃ δ m h, C m h.length H ∧ RS X.K m h.length H δ σ ∧ Sim X.K g m h H ∧ k = xs.length - i ∧ GoodS X.K g W m h.length H D (forT f sb (xs.drop i) δ h), ⟨_, δ, m, h, c0, r, s, rfl, by rw [List.drop_zero]; exact q⟩, ?_⟩
  rintro i k σ H ⟨δ, m, h, c, r, s, rfl, q⟩
  cases hx : xs[i]? with
  | none =>
    have hl : xs.length ≤ i := List.getElem?_eq_none_iff.mp hx
    rw [List.drop_eq_nil_of_le hl] at q
    exact .inl ⟨S.stop _ _ H i c hl, q m H σ Ext.refl s r⟩
  | some x =>
    obtain ⟨hlt, ex⟩ := List.getElem?_eq_some_iff.mp hx
    rw [List.drop_eq_getElem_cons hlt, ex] at q
    obtain ⟨go, yl⟩ := S.item m h H i x s c hx
    refine .inr ⟨go, _, fun σ' H' z => ⟨xs.length - (i + 1), by omega, z⟩, fun y H' hy => ?_⟩
    obtain ⟨e0, s0, rx⟩ := yl y H' hy
    refine GoodS.tgt (e0.rs r) s0 rx (GoodS.from e0 q) fun δ1 h1 m1 H1 σ1 e1 s1 rr1 q1 => ?_
    refine ⟨δ1, m1, h1, rr1, s1, GoodS.loop q1 fun δ2 h2 m2 H2 σ2 e2 s2 rr2 q2 => ?_⟩
    have e := (e0.trans e1).trans e2
    exact ⟨δ2, m2, h2, S.st e.le e.eq e.im c, rr2, s2, rfl, q2⟩
end
def enumFrom : Nat → List FL.D → List FL.D
  | _, [] => []
  | k, x :: xs => .tup [.int (k : Nat), x] :: enumFrom (k + 1) xs
theorem enumFrom_len : ∀ (k : Nat) (xs : List FL.D), (enumFrom k xs).length = xs.length
  | _, [] => rfl
  | k, x :: xs => by simp [enumFrom, enumFrom_len (k + 1) xs]
theorem enumFrom_get : ∀ (k : Nat) (xs : List FL.D) (i : Nat), (enumFrom k xs)[i]? = (xs[i]?).map fun x => .tup [.int ((k + i : Nat) : Int), x]
  | k, [], i => by simp [enumFrom]
  | k, x :: xs, 0 => by simp [enumFrom]
  | k, x :: xs, i + 1 => by
    show (enumFrom (k + 1) xs)[i]? = _
    rw [enumFrom_get (k + 1) xs i, List.getElem?_cons_succ]
    congr 1
    funext x
    rw [show k + 1 + i = k + (i + 1) by omega]
section
variable {X : Cx} {g : Gc} {W : WX} {f : FG} {ft : FT} {fe fa : FE} {sl : List Nat} {elt iter : Expr} {elts : List Expr} {kk : Nat} {tpos : Pos} {ifs : List Expr} {scope : Scope} {own : List (Str × Nat)} {pos spos py : Pos} {r : FA}
theorem lc_fin {m : Nat → Addr} {n : Nat} {H : Hp} {Q : VK} {o : Out (List FL.D)} {W : Value → Option Addr → Hp → Prop} (z : GoodE X.K g W m n H Q (lcEnd o)) : FinL X.K g m n H Q o := by
  cases o with
  | ok xs h' => exact z
  | _ => exact z.elim
end
section
variable {X : Cx} {g : Gc} {W : WX} {sb : FSt} {f : FG} {own : List Nat} {D : Ends} {tg : Expr} {body : List Stmt} {pos : Pos} {r : FA} {a b c : Expr}
end
end FL
set_option Elab.async false
set_option linter.all false
set_option maxRecDepth 100000
set_option maxHeartbeats 2000000
namespace FL
open PySem PySem.Spec PyProof.Rows L2
section
variable {X : Cx} {g : Gc}
end
end FL
set_option Elab.async false
set_option linter.all false
set_option maxRecDepth 100000
set_option maxHeartbeats 2000000
namespace FL
open PySem
section
variable {h h1 : VH} {δ : DS} {own : List Nat} {c : Bool} {g : FG} {t : FT} {e : FE}
@[simp] theorem cIn_cs {x : Nat} {z : List Nat} : cIn (.str [x]) (.str z) h = some (.bl (decide (x ∈ z)), h) := (rfl)
@[simp] theorem cNin_cs {x : Nat} {z : List Nat} : cNin (.str [x]) (.str z) h = some (.bl (!decide (x ∈ z)), h) := (rfl)
theorem cNin_sT {a : List Nat} {l : List (List Nat)} : cNin (.str a) (.tup (l.map D.str)) h = some (.bl (!decide (a ∈ l)), h) := by
  unfold cNin
  rw [inD_strT]
theorem stT_all {α : Type} (en : α → D) (p : α → Bool) : ∀ (xs : List α), (∀ x ∈ xs, ∃ δ1, g (en x) (wipe δ own) h = some (δ1, h) ∧ t δ1 h = .ok true h ∧ e δ1 h = .ok (.bl (p x)) h) → stT false g t e own δ (xs.map en) h = .ok (xs.all p) h
  | [], _ => rfl
  | x :: xs, H => by
    obtain ⟨δ1, e1, e2, e3⟩ := H x List.mem_cons_self
    rw [List.map_cons]
    unfold stT
    simp only [e1, e2, e3]
    cases hp : p x with
    | false => simp [hp]
    | true => simp [hp, stT_all en p xs fun y hy => H y (List.mem_cons_of_mem _ hy)]
theorem stT_any {α : Type} (en : α → D) (p : α → Bool) : ∀ (xs : List α), (∀ x ∈ xs, ∃ δ1, g (en x) (wipe δ own) h = some (δ1, h) ∧ t δ1 h = .ok true h ∧ e δ1 h = .ok (.bl (p x)) h) → stT true g t e own δ (xs.map en) h = .ok (xs.any p) h
  | [], _ => rfl
  | x :: xs, H => by
    obtain ⟨δ1, e1, e2, e3⟩ := H x List.mem_cons_self
    rw [List.map_cons]
    unfold stT
    simp only [e1, e2, e3]
    cases hp : p x with
    | true => simp [hp]
    | false => simp [hp, stT_any en p xs fun y hy => H y (List.mem_cons_of_mem _ hy)]
@[simp] theorem ap_eStG {a : FE} : eStG c a g t e own δ h = (a δ h).bind fun x h => stX c g t e own δ x h := (rfl)
@[simp] theorem stX_str {s : List Nat} : stX c g t e own δ (.str s) h = stEnd (stT c g t e own δ (s.map fun c => .str [c]) h) := (rfl)
@[simp] theorem stX_tup {xs : List D} : stX c g t e own δ (.tup xs) h = stEnd (stT c g t e own δ xs h) := (rfl)
@[simp] theorem stX_fls {xs : List D} : stX c g t e own δ (.fls xs) h = stEnd (stT c g t e own δ xs h) := (rfl)
@[simp] theorem stX_fdc {xs ys : List D} : stX c g t e own δ (.fdc xs ys) h = stEnd (stT c g t e own δ xs h) := (rfl)
@[simp] theorem stEnd_ok {b : Bool} : stEnd (.ok b h) = .ok (.bl b) h := (rfl)
theorem forT_ix {α : Type} {g : FG} {b : FSt} (en : α → D) (xs : List α) (I : Nat → DS → VH → Prop) {δ : DS} {h : VH} (h0 : I 0 δ h) (turn : ∀ k x δ h, xs[k]? = some x → I k δ h → ∃ δ1 h1, g (en x) δ h = some (δ1, h1) ∧ OkT (I (k + 1)) (b δ1 h1)) : OkS (I xs.length) (forT g b (xs.map en) δ h) := by
  have key : ∀ (rest : List α) (k : Nat) (δ : DS) (h : VH), xs.drop k = rest → k ≤ xs.length → I k δ h → OkS (I xs.length) (forT g b (rest.map en) δ h) := by
    intro rest
    induction rest with
    | nil =>
      intro k δ h e hk q
      have hle : xs.length ≤ k := List.drop_eq_nil_iff.mp e
      have : k = xs.length := by omega
      subst this
      exact .mk q
    | cons x rest ih =>
      intro k δ h e hk q
      have hx : xs[k]? = some x := by
        have := congrArg (·[0]?) e
        simpa using this
      have hlt := (List.getElem?_eq_some_iff.mp hx).1
      obtain ⟨δ1, h1, e1, q1⟩ := turn k x δ h hx q
      rw [List.map_cons, forT_cons, e1, tgS_some]
      exact q1.loop fun δ2 h2 q2 => ih (k + 1) δ2 h2 (by rw [← List.drop_drop, e]; rfl) hlt q2
  exact key xs 0 δ h rfl (Nat.zero_le _) h0
end
end FL
set_option Elab.async false
set_option linter.all false
set_option maxRecDepth 100000
set_option maxHeartbeats 2000000
namespace FL
open PySem
section
variable {h h1 : VH} {δ : DS} {own : List Nat} {t : FT} {a e : FE} {i : Nat}
theorem lcF_of {α : Type} {l : List α} (en : α → D) (ha : a δ h = .ok (.fls (l.map en)) h1 ∨ a δ h = .ok (.tup (l.map en)) h1) (hl : l.length ≤ 16777216) (p : α → Bool) (f : α → D) (H : ∀ c ∈ l, t ((wipe δ own).set i (some (en c))) h1 = .ok (p c) h1 ∧ (p c = true → e ((wipe δ own).set i (some (en c))) h1 = .ok (f c) h1)) :
    eLc a (gN i) t e own δ h = .ok (.fls ((l.filter p).map f)) h1 := by
  have q := lcT_mapE (g := gN i) (t := t) (e := e) (own := own) (δ := δ) (h := h1) en p f l [] (by simpa using hl) fun c hc => ⟨_, rfl, (H c hc).1, (H c hc).2⟩
  rcases ha with ha | ha
  · rw [ap_eLc, ha, bind_ok, lcX_fls, q]
    simp
  · rw [ap_eLc, ha, bind_ok, lcX_tup, q]
    simp
theorem lcF_all {α : Type} {l : List α} (en : α → D) (ha : a δ h = .ok (.fls (l.map en)) h1 ∨ a δ h = .ok (.tup (l.map en)) h1) (hl : l.length ≤ 16777216) (f : α → D) (H : ∀ c ∈ l, e ((wipe δ own).set i (some (en c))) h1 = .ok (f c) h1) :
    eLc a (gN i) tYes e own δ h = .ok (.fls (l.map f)) h1 := by
  rw [lcF_of en ha hl (fun _ => true) f fun c hc => ⟨rfl, fun _ => H c hc⟩, List.filter_eq_self.mpr fun _ _ => rfl]
end
end FL
set_option Elab.async false
set_option linter.all false
set_option maxRecDepth 100000
set_option maxHeartbeats 2000000
namespace FL
open PySem
def draws {α : Type} (f : Dc → α) (nx : Dc → Dc) : Nat → Dc → List α × Dc
  | 0, s => ([], s)
  | n + 1, s => (f s :: (draws f nx n (nx s)).1, (draws f nx n (nx s)).2)
end FL
set_option Elab.async false
set_option linter.all false
set_option maxRecDepth 100000
set_option maxHeartbeats 2000000
namespace FL
open PySem PySem.Spec PyProof.Rows L2
def itOf (x : FL.D) : Option (List FL.D) := match x with
  | .tup xs => some xs
  | .fls xs => some xs
  | .fdc ks _ => some ks
  | .str s => some (s.map fun c => .str [c])
  | _ => none
def inX (g1 : FG) (t1 : FT) (e : FE) (own1 : List Nat) (δ1 : DS) (acc : List FL.D) (d : FL.D) (h : VH) : Out (List FL.D) := match itOf d with
  | some ys => lcT g1 t1 e own1 δ1 ys h acc
  | none => .bad
def lc2T (g : FG) (t : FT) (a1 : FE) (g1 : FG) (t1 : FT) (e : FE) (own own1 : List Nat) (δ : DS) : List FL.D → VH → List FL.D → Out (List FL.D)
  | [], h, acc => .ok acc h
  | x :: xs, h, acc => match g x (FL.wipe δ own) h with
    | none => .bad
    | some (δ1, h) => match t δ1 h with
      | .ok false h => lc2T g t a1 g1 t1 e own own1 δ xs h acc
      | .ok true h => match a1 δ1 h with
        | .ok d h => (inX g1 t1 e own1 δ1 acc d h).bind fun acc h => lc2T g t a1 g1 t1 e own own1 δ xs h acc
        | _ => .bad
      | _ => .bad
def lc2X (g : FG) (t : FT) (a1 : FE) (g1 : FG) (t1 : FT) (e : FE) (own own1 : List Nat) (δ : DS) (x : FL.D) (h : VH) : Out FL.D := match itOf x with
  | some xs => lcEnd (lc2T g t a1 g1 t1 e own own1 δ xs h [])
  | none => .bad
def eLc2 (a : FE) (g : FG) (t : FT) (a1 : FE) (g1 : FG) (t1 : FT) (e : FE) (own own1 : List Nat) : FE := fun δ h => (a δ h).bind fun x h => lc2X g t a1 g1 t1 e own own1 δ x h
theorem lcT_bind {g : FG} {t : FT} {e : FE} {own : List Nat} {δ : DS} {x : FL.D} {xs : List FL.D} {h : VH} {acc : List FL.D} {G : List FL.D → VH → Out (List FL.D)} :
    (lcT g t e own δ (x :: xs) h acc).bind G = turnL g t e own δ x h acc (fun h acc => (lcT g t e own δ xs h acc).bind G) := by
  show Out.bind (match g x (FL.wipe δ own) h with
    | none => .bad
    | some (δ1, h) => match t δ1 h with
      | .ok false h => lcT g t e own δ xs h acc
      | .ok true h => match e δ1 h with
        | .ok y h => if acc.length < 16777216 then lcT g t e own δ xs h (acc ++ [y]) else .bad
        | _ => .bad
      | _ => .bad) G = _
  unfold turnL
  cases g x (FL.wipe δ own) h with
  | none => rfl
  | some p =>
    obtain ⟨δ1, h1⟩ := p
    show Out.bind (match t δ1 h1 with
      | .ok false h => lcT g t e own δ xs h acc
      | .ok true h => match e δ1 h with
        | .ok y h => if acc.length < 16777216 then lcT g t e own δ xs h (acc ++ [y]) else .bad
        | _ => .bad
      | _ => .bad) G = (match t δ1 h1 with
      | .ok false h => (lcT g t e own δ xs h acc).bind G
      | .ok true h => match e δ1 h with
        | .ok y h => if acc.length < 16777216 then (lcT g t e own δ xs h (acc ++ [y])).bind G else .bad
        | _ => .bad
      | _ => .bad)
    cases t δ1 h1 with
    | bad => rfl
    | err c p h2 => rfl
    | ok b h2 =>
      cases b with
      | false => rfl
      | true =>
        show Out.bind (match e δ1 h2 with
          | .ok y h => if acc.length < 16777216 then lcT g t e own δ xs h (acc ++ [y]) else .bad
          | _ => .bad) G = (match e δ1 h2 with
          | .ok y h => if acc.length < 16777216 then (lcT g t e own δ xs h (acc ++ [y])).bind G else .bad
          | _ => .bad)
        cases e δ1 h2 with
        | bad => rfl
        | err c p h3 => rfl
        | ok y h3 =>
          show Out.bind (if acc.length < 16777216 then lcT g t e own δ xs h3 (acc ++ [y]) else .bad) G = (if acc.length < 16777216 then (lcT g t e own δ xs h3 (acc ++ [y])).bind G else .bad)
          by_cases hz : acc.length < 16777216
          · rw [if_pos hz, if_pos hz]
          · rw [if_neg hz, if_neg hz]; rfl
section
variable {X : Cx} {g : Gc} {W : WX} {f f1 : FG} {ft ft1 : FT} {fe fa fa1 : FE} {own own1 : List Nat} {δ : DS} {σ : L2.St} {D : Addr} {Q : VK} {m0 : Nat → Addr} {n0 : Nat} {H0 : Hp}
abbrev it4 (K : PySem.W.Frag) (te : TE) : TI := fun σ H R => ((iList K te σ H R ∨ iTup K te σ H R) ∨ iStr te σ H R) ∨ iKeys te σ H R
theorem it4_ok {m : Nat → Addr} {h : VH} {H : Hp} {R : It → Hp → Prop} (r : RS X.K m h.length H δ σ) (s : Sim X.K g m h H)
    (hb : fa δ h ≠ .bad) (he : ∀ c p h1, fa δ h = .err c p h1 → GoodE X.K g (fun c d H' => W c d σ H') m h.length H (fun _ _ => True) (.err c p h1))
    (hq : ∀ d h1, fa δ h = .ok d h1 → ∃ xs, itOf d = some xs ∧ ∀ m1 H1 J C vs, Ext m h.length H m1 h1.length H1 → Sim X.K g m1 h1 H1 → TreeIt J C vs → C H1 → RDs X.K m1 h1.length H1 xs vs → R J H1) :
    it4 X.K (rd X.K g W fa) σ H R := by
  cases ea : fa δ h with
  | bad => exact absurd ea hb
  | err c p h1 =>
    refine .inl (.inr ⟨δ, m, h, r, s, ?_⟩)
    rw [ea]
    exact he c p h1 ea
  | ok d h1 =>
    obtain ⟨xs, ex, q⟩ := hq d h1 ea
    have go : ∀ {R' : V → Hp → Prop}, (∀ m1 H1 v, Ext m h.length H m1 h1.length H1 → Sim X.K g m1 h1 H1 → RD X.K m1 h1.length H1 d v → R' v H1) → rd X.K g W fa σ H R' := fun {R'} hR => by
      refine ⟨δ, m, h, r, s, ?_⟩
      rw [ea]
      exact fun m1 H1 e1 s1 v r1 => hR m1 H1 v e1 s1 r1
    cases d with
    | tup ys =>
      cases ex
      refine .inl (.inl (.inr (go fun m1 H1 v e1 s1 r1 => ?_)))
      cases r1 with
      | tup h2 h3 => exact ⟨_, rfl, ⟨_, h2.sq⟩, q m1 H1 _ _ _ e1 s1 tree_tup h2 h3⟩
    | fls ys =>
      cases ex
      refine .inl (.inl (.inl (go fun m1 H1 v e1 s1 r1 => ?_)))
      cases r1 with
      | fls h2 h3 => exact ⟨_, rfl, ⟨_, h2.seq⟩, q m1 H1 _ _ _ e1 s1 tree_fls h2 h3⟩
    | str l =>
      cases ex
      refine .inl (.inr (go fun m1 H1 v e1 s1 r1 => ?_))
      cases r1 with
      | str h2 => exact ⟨_, rfl, q m1 H1 _ _ _ e1 s1 tree_str trivial (sign_rel h2)⟩
    | fdc ks vs =>
      cases ex
      refine .inr (go fun m1 H1 v e1 s1 r1 => ?_)
      cases r1 with
      | fdc h1 h2 h3 h4 =>
        subst h2
        exact ⟨_, _, rfl, .inl ⟨_, h1, q m1 H1 _ _ _ e1 s1 tree_keys h1 (keys_rel h3)⟩⟩
    | _ => cases ex
theorem lc_inner {J : It} {C : Hp → Prop} {vs : List V} {xs acc : List FL.D} {m : Nat → Addr} {h : VH} {H : Hp} {G : List FL.D → VH → Out (List FL.D)} {Nx : Hp → Prop} (T : TreeIt J C vs) (c0 : C H) (hD : H0 D = none) (r : RS X.K m h.length H δ σ) (a : Acc X.K g m0 n0 H0 D m h H acc) (rx : RDs X.K m h.length H xs vs)
    (q : FinL X.K g m0 n0 H0 Q ((lcT f ft fe own δ xs h acc).bind G))
    (hN : ∀ h1 m1 H1 acc1, h.length ≤ h1.length → (∀ k, k < h.length → m1 k = m k) → Imm H H1 → Acc X.K g m0 n0 H0 D m1 h1 H1 acc1 → FinL X.K g m0 n0 H0 Q (G acc1 h1) → Nx H1) :
    ∃ W1 : Nat → Nat → Hp → Prop, (∃ m, W1 0 m H) ∧ ∀ j k H, W1 j k H →
      (J.stop j H ∧ Nx H) ∨ (J.go j H ∧ ∃ Nx1 : Hp → Prop, (∀ H', Nx1 H' → ∃ k', k' < k ∧ W1 (j + 1) k' H') ∧ ∀ x H', J.yld j H x H' → rg X.K g own f x (L2.wipe σ own) H' fun σ3 H5 => L2.wipe σ3 own = L2.wipe σ own ∧ rt X.K g W0 ft σ3 H5 fun b H6 =>
        if b = true then rd X.K g W0 fe σ3 H6 fun y H7 => ∃ acc, H7 D = some (.lst acc) ∧ acc.length < sizeLine ∧ Nx1 (upd H7 D (.lst (acc ++ [y]))) else Nx1 H6) := by
  have mo : ∀ {m1 : Nat → Addr} {h1 : VH} {H1 : Hp} {m2 : Nat → Addr} {h2 : VH} {H2 : Hp} {xs : List FL.D} {vs : List V}, h1.length ≤ h2.length → (∀ k, k < h1.length → m2 k = m1 k) → Imm H1 H2 → RDs X.K m1 h1.length H1 xs vs → RDs X.K m2 h2.length H2 xs vs := fun a b c d => RDs.mono a b c _ _ d
  have ms : ∀ {m1 : Nat → Addr} {h1 : VH} {H1 : Hp} {m2 : Nat → Addr} {h2 : VH} {H2 : Hp}, h1.length ≤ h2.length → (∀ k, k < h1.length → m2 k = m1 k) → Imm H1 H2 → RS X.K m1 h1.length H1 δ σ → RS X.K m2 h2.length H2 δ σ := fun a b c r => ⟨r.1, fun i d hd => let ⟨v, h1, h2⟩ := r.2 i d hd; ⟨v, h1, RD.mono a b c _ _ h2⟩⟩
  refine ⟨fun i c H1 => ∃ m1 h1 rest acc, h.length ≤ h1.length ∧ (∀ k, k < h.length → m1 k = m k) ∧ Imm H H1 ∧ C H1 ∧ RS X.K m1 h1.length H1 δ σ ∧ Acc X.K g m0 n0 H0 D m1 h1 H1 acc ∧ RDs X.K m1 h1.length H1 rest (vs.drop i) ∧ c = rest.length ∧ FinL X.K g m0 n0 H0 Q ((lcT f ft fe own δ rest h1 acc).bind G), ⟨_, m, h, xs, acc, Nat.le_refl _, fun _ _ => rfl, Imm.refl _, c0, r, a, rx, rfl, q⟩, ?_⟩
  rintro i c H1 ⟨m1, h1, rest, acc, l1, l2, l3, hc, r, a, rx, rfl, q⟩
  cases rest with
  | nil =>
    have hl := rx.length
    rw [List.length_drop] at hl
    exact .inl ⟨T.stop i H1 hc (by simp at hl; omega), hN h1 m1 H1 acc l1 l2 l3 a q⟩
  | cons x rest =>
    have hi : ∃ v, vs[i]? = some v ∧ RD X.K m1 h1.length H1 x v ∧ RDs X.K m1 h1.length H1 rest (vs.drop (i + 1)) := by
      have hl := rx.length
      rw [List.length_drop] at hl
      have hlt : i < vs.length := by simp at hl; omega
      rw [List.drop_eq_getElem_cons hlt] at rx
      cases rx with
      | cons r1 r2 => exact ⟨vs[i], by simp [hlt], r1, r2⟩
    obtain ⟨v, hv, r1, r2⟩ := hi
    refine .inr ⟨T.go i H1 v hc hv, _, fun H' z => ⟨rest.length, by simp, z⟩, fun y H' hy => ?_⟩
    obtain ⟨e1, e2⟩ := T.yld i H1 y H' v hc hy hv
    subst e1
    subst e2
    rw [lcT_bind] at q
    refine turn_ok hD a r r1 q fun h2 m2 H2 acc2 e1 e2 e3 a2 q2 => ?_
    exact ⟨m2, h2, rest, acc2, Nat.le_trans l1 e1, fun k hk => (e2 k (Nat.lt_of_lt_of_le hk l1)).trans (l2 k hk), l3.trans e3, T.st _ _ e3 hc, ms e1 e2 e3 r, a2, mo e1 e2 e3 r2, rfl, q2⟩
theorem lc2_tree {J : It} {C : Hp → Prop} {vs : List V} {xs : List FL.D} {m : Nat → Addr} {h : VH} {H : Hp} (T : TreeIt J C vs) (c0 : C H) (hD : H D = none) (r : RS X.K m h.length H δ σ) (s : Sim X.K g m h H) (rx : RDs X.K m h.length H xs vs)
    (q : FinL X.K g m h.length H Q (lc2T f ft fa1 f1 ft1 fe own own1 δ xs h [])) :
    ∃ W : Nat → Nat → Hp → Prop, (∃ m, W 0 m (upd H D (.lst []))) ∧ ∀ i m H, W i m H →
      (J.stop i H ∧ FzQ Q (.ref D) H) ∨ (J.go i H ∧ ∃ Nx : Hp → Prop, (∀ H', Nx H' → ∃ m', m' < m ∧ W (i + 1) m' H') ∧ ∀ x H', J.yld i H x H' → rg X.K g own f x (L2.wipe σ own) H' fun σ2 H2 => L2.wipe σ2 own = L2.wipe σ own ∧ rt X.K g W0 ft σ2 H2 fun b H3 =>
        if b = true then it4 X.K (rd X.K g W0 fa1) σ2 H3 fun J1 H4 => ∃ W1 : Nat → Nat → Hp → Prop, (∃ m, W1 0 m H4) ∧ ∀ j k H, W1 j k H →
          (J1.stop j H ∧ Nx H) ∨ (J1.go j H ∧ ∃ Nx1 : Hp → Prop, (∀ H', Nx1 H' → ∃ k', k' < k ∧ W1 (j + 1) k' H') ∧ ∀ x H', J1.yld j H x H' → rg X.K g own1 f1 x (L2.wipe σ2 own1) H' fun σ3 H5 => L2.wipe σ3 own1 = L2.wipe σ2 own1 ∧ rt X.K g W0 ft1 σ3 H5 fun b H6 =>
            if b = true then rd X.K g W0 fe σ3 H6 fun y H7 => ∃ acc, H7 D = some (.lst acc) ∧ acc.length < sizeLine ∧ Nx1 (upd H7 D (.lst (acc ++ [y]))) else Nx1 H6)
        else Nx H3) := by
  obtain ⟨i0, a0⟩ := Acc.new (D := D) s hD
  have mo : ∀ {m1 : Nat → Addr} {h1 : VH} {H1 : Hp} {m2 : Nat → Addr} {h2 : VH} {H2 : Hp} {xs : List FL.D} {vs : List V}, h1.length ≤ h2.length → (∀ k, k < h1.length → m2 k = m1 k) → Imm H1 H2 → RDs X.K m1 h1.length H1 xs vs → RDs X.K m2 h2.length H2 xs vs := fun a b c d => RDs.mono a b c _ _ d
  have ms : ∀ {m1 : Nat → Addr} {h1 : VH} {H1 : Hp} {m2 : Nat → Addr} {h2 : VH} {H2 : Hp}, h1.length ≤ h2.length → (∀ k, k < h1.length → m2 k = m1 k) → Imm H1 H2 → RS X.K m1 h1.length H1 δ σ → RS X.K m2 h2.length H2 δ σ := fun a b c r => ⟨r.1, fun i d hd => let ⟨v, h1, h2⟩ := r.2 i d hd; ⟨v, h1, RD.mono a b c _ _ h2⟩⟩
  refine ⟨fun i c H1 => ∃ m1 h1 rest acc, C H1 ∧ RS X.K m1 h1.length H1 δ σ ∧ Acc X.K g m h.length H D m1 h1 H1 acc ∧ RDs X.K m1 h1.length H1 rest (vs.drop i) ∧ c = rest.length ∧ FinL X.K g m h.length H Q (lc2T f ft fa1 f1 ft1 fe own own1 δ rest h1 acc), ⟨_, m, h, xs, [], T.st _ _ i0 c0, ms (Nat.le_refl _) (fun _ _ => rfl) i0 r, a0, mo (Nat.le_refl _) (fun _ _ => rfl) i0 rx, rfl, q⟩, ?_⟩
  rintro i c H1 ⟨m1, h1, rest, acc, hc, r, a, rx, rfl, q⟩
  cases rest with
  | nil =>
    have hl := rx.length
    rw [List.length_drop] at hl
    exact .inl ⟨T.stop i H1 hc (by simp at hl; omega), a.end hD q⟩
  | cons x rest =>
    have hi : ∃ v, vs[i]? = some v ∧ RD X.K m1 h1.length H1 x v ∧ RDs X.K m1 h1.length H1 rest (vs.drop (i + 1)) := by
      have hl := rx.length
      rw [List.length_drop] at hl
      have hlt : i < vs.length := by simp at hl; omega
      rw [List.drop_eq_getElem_cons hlt] at rx
      cases rx with
      | cons r1 r2 => exact ⟨vs[i], by simp [hlt], r1, r2⟩
    obtain ⟨v, hv, r1, r2⟩ := hi
    refine .inr ⟨T.go i H1 v hc hv, fun H2 => ∃ m2 h2 acc2, h1.length ≤ h2.length ∧ (∀ k, k < h1.length → m2 k = m1 k) ∧ Imm H1 H2 ∧ Acc X.K g m h.length H D m2 h2 H2 acc2 ∧ FinL X.K g m h.length H Q (lc2T f ft fa1 f1 ft1 fe own own1 δ rest h2 acc2), fun H' z => ⟨rest.length, by simp, ?_⟩, fun y H' hy => ?_⟩
    · obtain ⟨m2, h2, acc2, e1, e2, e3, a2, q2⟩ := z
      exact ⟨m2, h2, rest, acc2, T.st _ _ e3 hc, ms e1 e2 e3 r, a2, mo e1 e2 e3 r2, rfl, q2⟩
    obtain ⟨e1, e2⟩ := T.yld i H1 y H' v hc hy hv
    subst e1
    subst e2
    refine ⟨FL.wipe δ own, m1, h1, x, r.wipe own, a.sm, r1, ?_⟩
    have q : FinL X.K g m h.length H Q (match f x (FL.wipe δ own) h1 with
      | none => .bad
      | some (δ1, h) => match ft δ1 h with
        | .ok false h => lc2T f ft fa1 f1 ft1 fe own own1 δ rest h acc
        | .ok true h => match fa1 δ1 h with
          | .ok d h => (inX f1 ft1 fe own1 δ1 acc d h).bind fun acc h => lc2T f ft fa1 f1 ft1 fe own own1 δ rest h acc
          | _ => .bad
        | _ => .bad) := q
    cases eg : f x (FL.wipe δ own) h1 with
    | none => rw [eg] at q; exact q
    | some p =>
      obtain ⟨δ1, h2⟩ := p
      rw [eg] at q
      intro m2 H2 σ2 x2 s2 rr2 hw
      have a2 := a.from x2 s2
      refine ⟨hw.trans (wipe_wipe σ own), δ1, m2, h2, rr2, s2, ?_⟩
      have q : FinL X.K g m h.length H Q (match ft δ1 h2 with
        | .ok false h => lc2T f ft fa1 f1 ft1 fe own own1 δ rest h acc
        | .ok true h => match fa1 δ1 h with
          | .ok d h => (inX f1 ft1 fe own1 δ1 acc d h).bind fun acc h => lc2T f ft fa1 f1 ft1 fe own own1 δ rest h acc
          | _ => .bad
        | _ => .bad) := q
      cases et : ft δ1 h2 with
      | bad => rw [et] at q; exact q
      | err c p h3 => rw [et] at q; exact q.elim
      | ok b h3 =>
        rw [et] at q
        intro m3 H3 x3 s3
        have a3 := a2.from x3 s3
        have x23 := x2.trans x3
        cases b with
        | false => exact ⟨m3, h3, acc, x23.le, x23.eq, x23.im, a3, q⟩
        | true =>
          show it4 X.K (rd X.K g W0 fa1) σ2 H3 _
          have q : FinL X.K g m h.length H Q (match fa1 δ1 h3 with
            | .ok d h => (inX f1 ft1 fe own1 δ1 acc d h).bind fun acc h => lc2T f ft fa1 f1 ft1 fe own own1 δ rest h acc
            | _ => .bad) := q
          refine it4_ok (x3.rs rr2) s3 (fun z => ?_) (fun c p h4 z => ?_) fun d h4 ed => ?_
          · rw [z] at q; exact q
          · rw [z] at q; exact q.elim
          · rw [ed] at q
            have q : FinL X.K g m h.length H Q ((inX f1 ft1 fe own1 δ1 acc d h4).bind fun acc h => lc2T f ft fa1 f1 ft1 fe own own1 δ rest h acc) := q
            unfold inX at q
            cases ei : itOf d with
            | none => rw [ei] at q; exact q.elim
            | some ys =>
              rw [ei] at q
              refine ⟨ys, rfl, fun m4 H4 J1 C1 ws x4 s4 T1 c1 rd1 => ?_⟩
              have a4 := a3.from x4 s4
              have x24 := x23.trans x4
              refine lc_inner T1 c1 hD ((x3.trans x4).rs rr2) a4 rd1 q fun h5 m5 H5 acc5 e1 e2 e3 a5 q5 => ?_
              exact ⟨m5, h5, acc5, Nat.le_trans x24.le e1, fun k hk => (e2 k (Nat.lt_of_lt_of_le hk x24.le)).trans (x24.eq k hk), x24.im.trans e3, a5, q5⟩
end
section
variable {X : Cx} {g : Gc} {W : WX} {f f1 : FG} {ft ft1 : FT} {fe fa fa1 : FE} {sl sl1 : List Nat} {elt tg iter tg1 iter1 : Expr} {ifs ifs1 : List Expr} {scope : Scope} {own : List (Str × Nat)} {pos spos py : Pos}
theorem rd_lc2 : ∀ σ H Q, rd X.K g W (eLc2 fa f ft fa1 f1 ft1 fe sl sl1) σ H Q →
    tLc2 (it4 X.K (rd X.K g W fa)) (rg X.K g sl f) (rt X.K g W0 ft) (it4 X.K (rd X.K g W0 fa1)) (rg X.K g sl1 f1) (rt X.K g W0 ft1) (rd X.K g W0 fe) sl sl1 σ H (FzQ Q) := by
  rintro σ H Q ⟨δ, m, h, r, s, q⟩
  have q : GoodE X.K g (fun c d H' => W c d σ H') m h.length H Q ((fa δ h).bind fun x h => lc2X f ft fa1 f1 ft1 fe sl sl1 δ x h) := q
  refine it4_ok r s (fun z => ?_) (fun c p h1 z => ?_) fun d h1 z => ?_
  · rw [z] at q; exact q
  · rw [z] at q; exact q
  · rw [z] at q
    have q : GoodE X.K g (fun c d H' => W c d σ H') m h.length H Q (lc2X f ft fa1 f1 ft1 fe sl sl1 δ d h1) := q
    unfold lc2X at q
    cases ei : itOf d with
    | none => rw [ei] at q; exact q.elim
    | some xs =>
      rw [ei] at q
      refine ⟨xs, rfl, fun m1 H1 J C vs e1 s1 T c rx => ?_⟩
      exact fun D hD => lc2_tree T c hD (e1.rs r) s1 rx (lc_fin (Gd.from e1 q))
structure Lc2P (X : Cx) (g : Gc) (elt tg : Expr) (ifs : List Expr) (tg1 iter1 : Expr) (ifs1 : List Expr) (scope : Scope) (own : List (Str × Nat)) (sl1 : List Nat) (f : FG) (ft : FT) (fa1 : FE) (f1 : FG) (ft1 : FT) (fe : FE) : Prop where
  ok : BlkOk X.N X.env.scope scope own
  hv : ∀ i ∈ sl1, i ∈ own.map (·.2)
  hg : ∀ (s : Shared) (H : Hp) (C : Addr) (cl : List (Str × Addr)) (fp : List Addr), PG (X.blk s H scope (compEnvC scope cl C X.env) fp) tg (rg X.K g (own.map (·.2)) f)
  ht : ∀ (s : Shared) (H : Hp) (C : Addr) (cl : List (Str × Addr)) (fp : List Addr), PTs (X.blk s H scope (compEnvC scope cl C X.env) fp) ifs (rt X.K g W0 ft)
  ha1 : ∀ (s : Shared) (H : Hp) (C : Addr) (cl : List (Str × Addr)) (fp : List Addr), PE (X.blk s H scope (compEnvC scope cl C X.env) fp) iter1 (rd X.K g W0 fa1)
  hg1 : ∀ (s : Shared) (H : Hp) (C : Addr) (cl : List (Str × Addr)) (fp : List Addr), PG (X.blk s H scope (compEnvC scope cl C X.env) fp) tg1 (rg X.K g sl1 f1)
  ht1 : ∀ (s : Shared) (H : Hp) (C : Addr) (cl : List (Str × Addr)) (fp : List Addr), PTs (X.blk s H scope (compEnvC scope cl C X.env) fp) ifs1 (rt X.K g W0 ft1)
  he : ∀ (s : Shared) (H : Hp) (C : Addr) (cl : List (Str × Addr)) (fp : List Addr), PE (X.blk s H scope (compEnvC scope cl C X.env) fp) elt (rd X.K g W0 fe)
theorem pi_it4 {X : Cx} {tg e : Expr} {te : TE} (he : PE X e te) : PI X tg e (it4 X.K te) := pi_or (pi_or (pi_or (pi_list he) (pi_tup he)) (pi_str he)) (pi_keys he)
theorem fe_lc2 (hc : X.calm = true) (hN : X.N.Nodup) (ha : PE X iter (rd X.K g W fa)) (P : Lc2P X g elt tg ifs tg1 iter1 ifs1 scope own sl1 f ft fa1 f1 ft1 fe) (hsl : own.map (·.2) = sl := by rfl) (hs : ∀ x, foldedSetIterable iter X.env x = pure x := by intro _; rfl) (hs1 : ∀ env x, foldedSetIterable iter1 env x = pure x := by intro _ _; rfl) :
    PE X (.ListComp elt [⟨tg, iter, ifs, 0⟩, ⟨tg1, iter1, ifs1, 0⟩] scope pos) (rd X.K g W (eLc2 fa f ft fa1 f1 ft1 fe sl sl1)) := by
  subst hsl
  exact pe_weak (pe_fz (pe_lc2 hc hN (pi_it4 ha) P.ok P.hv P.hg P.ht (fun s H C cl fp => pi_it4 (P.ha1 s H C cl fp)) P.hg1 P.ht1 P.he hs hs1)) rd_lc2
end
end FL
set_option Elab.async false
set_option linter.all false
set_option maxRecDepth 100000
set_option maxHeartbeats 2000000
namespace FL
open PySem PySem.Spec PyProof.Rows L2
inductive WEs (K : PySem.W.Frag) (w : World) : List DictEntry → List (FL.D × FL.D) → Prop
  | nil : WEs K w [] []
  | cons {e : DictEntry} {es : List DictEntry} {k : Key} {d : FL.D} {r : List (FL.D × FL.D)} : keyIs k e.key = true → e.hash = keyH w k → (∃ v, RelV v e.val ∧ IsC K d v) → WEs K w es r → WEs K w (e :: es) ((kD k, d) :: r)
theorem we_str {K : PySem.W.Frag} {w : World} {x : Str} {l : List Nat} {t : Tok} {u : Value} {d : FL.D} {es : List DictEntry} {r : List (FL.D × FL.D)} (hl : x.cps.toList = l) (h : ∃ v, RelV v u ∧ IsC K d v) (hr : WEs K w es r) : WEs K w (⟨PyData.keyHash w.params x, .str x t, u⟩ :: es) ((.str l, d) :: r) := by
  subst hl
  exact WEs.cons (k := .inr x) (keyIs_str x t) rfl h hr
theorem we_int {K : PySem.W.Frag} {w : World} {i : Int} {t : Tok} {u : Value} {d : FL.D} {es : List DictEntry} {r : List (FL.D × FL.D)} (h : ∃ v, RelV v u ∧ IsC K d v) (hr : WEs K w es r) : WEs K w (⟨hashInt i, .int i t, u⟩ :: es) ((.int i, d) :: r) :=
  WEs.cons (k := .inl i) (keyIs_int i t) rfl h hr
structure WD (K : PySem.W.Frag) (w : World) (mg : Str → Option Value) (x : Str) (c : List (FL.D × FL.D)) : Prop where
  ex : ∃ a es n, mg x = some (.ref a) ∧ K.lookup a = some ⟨.type "dict", none, .dict es n, #[]⟩ ∧ (a == sysModules) = false ∧ WEs K w es.toList c
theorem WEs.keys {K : PySem.W.Frag} {w : World} {P : Program} {l : List DictEntry} {c : List (FL.D × FL.D)} (h : WEs K w l c) : ∀ e ∈ l, ∃ k, (mixKind P w).is k e.key = true ∧ e.hash = (mixKind P w).hash k := by
  induction h with
  | nil => intro e he; cases he
  | cons h1 h2 _ _ ih =>
    intro e he
    rcases List.mem_cons.mp he with rfl | he
    · exact ⟨_, h1, h2⟩
    · exact ih e he
theorem WEs.find {K : PySem.W.Frag} {w : World} {P : Program} {l : List DictEntry} {c : List (FL.D × FL.D)} (h : WEs K w l c) (kk : Key) :
    (∀ d, dGet c (kD kk) = some d → ∃ e v, l.find? (fun e => (mixKind P w).is kk e.key) = some e ∧ RelV v e.val ∧ IsC K d v) ∧ (dGet c (kD kk) = none → l.find? (fun e => (mixKind P w).is kk e.key) = none) := by
  induction h with
  | nil => exact ⟨fun d e => (nomatch e), fun _ => rfl⟩
  | @cons e es k d r h1 h2 h3 _ ih =>
    have his : (mixKind P w).is kk e.key = decide (kk = k) := KeyKind.is_eq_decide (knd := mixKind P w) (show (mixKind P w).is k e.key = true from h1) kk
    rw [List.find?_cons, his]
    by_cases hk : kk = k
    · subst hk
      simp only [decide_true, dGet, kD_eq, if_true]
      refine ⟨fun d' e' => ?_, fun e' => nomatch e'⟩
      cases e'
      obtain ⟨v, hv⟩ := h3
      exact ⟨e, v, rfl, hv⟩
    · have hk' : ¬ k = kk := fun z => hk z.symm
      simp only [decide_eq_false hk, dGet, kD_eq, decide_eq_false hk', Bool.false_eq_true, if_false]
      exact ih
def oWix (c : List (FL.D × FL.D)) : Op1 := fun x h => if isKey x = true then (match dGet c x with
  | some d => some (d, h)
  | none => none) else none
def oWnin (c : List (FL.D × FL.D)) : Op1 := fun x h => if isKey x = true then some (.bl (!(dGet c x).isSome), h) else none
section
variable {X : Cx} {g : Gc} {W : WX} {fb : FE} {b : Expr} {x : Str} {c : List (FL.D × FL.D)} {pos p : Pos}
theorem WD.map {K : PySem.W.Frag} {w : World} {P : Program} {h : Heap} {a : Addr} {es : Array DictEntry} {n : Nat} (Y : K.In h) (l : K.lookup a = some ⟨.type "dict", none, .dict es n, #[]⟩) (we : WEs K w es.toList c) : h.MapOf (mixKind P w) a (fun k => findBy (mixKind P w).is es k) :=
  ⟨_, es, n, Y _ _ l, ⟨rfl, rfl, rfl⟩, rfl, fun e he => we.keys (P := P) e (Array.mem_toList_iff.mpr he), fun _ => rfl⟩
theorem WEs.findBy {K : PySem.W.Frag} {w : World} {P : Program} {es : Array DictEntry} (we : WEs K w es.toList c) (kk : Key) :
    (∀ d, dGet c (kD kk) = some d → ∃ u v, PySem.findBy (mixKind P w).is es kk = some u ∧ RelV v u ∧ IsC K d v) ∧ (dGet c (kD kk) = none → PySem.findBy (mixKind P w).is es kk = none) := by
  obtain ⟨l⟩ := es
  obtain ⟨f1, f2⟩ := we.find (P := P) kk
  unfold PySem.findBy
  rw [List.find?_toArray]
  refine ⟨fun d e => ?_, fun e => ?_⟩
  · obtain ⟨e, v, h1, h2, h3⟩ := f1 d e
    have h1' : List.find? (fun e => (mixKind P w).is kk e.key) l = some e := h1
    exact ⟨e.val, v, by rw [h1']; rfl, h2, h3⟩
  · have h1' : List.find? (fun e => (mixKind P w).is kk e.key) l = none := f2 e
    rw [h1']; rfl
def rW (K : PySem.W.Frag) (g : Gc) (a : Addr) (o : Op1) : R2 := fun x y H Q => x = .ref a ∧ ∃ m h d, Sim K g m h H ∧ RD K m h.length H d y ∧ GoodO K g m h.length H Q (o d h)
def rW' (K : PySem.W.Frag) (g : Gc) (a : Addr) (o : Op1) : R2 := fun x y H Q => y = .ref a ∧ ∃ m h d, Sim K g m h H ∧ RD K m h.length H d x ∧ GoodO K g m h.length H Q (o d h)
theorem rd_W {o : Op1} {a : Addr} : ∀ σ H Q, rd X.K g W (e1 o fb) σ H Q → tOp (rW X.K g a o) (tC (.ref a)) (rd X.K g W fb) σ H Q := by
  rintro σ H Q ⟨δ, m, h, r, s, q⟩
  refine ⟨δ, m, h, r, s, Gd.bind q fun x h1 m1 H1 e1 s1 q1 v r1 => ?_⟩
  exact ⟨rfl, m1, h1, x, s1, r1, Gd.of q1⟩
theorem rd_W' {o : Op1} {a : Addr} : ∀ σ H Q, rd X.K g W (e1 o fb) σ H Q → tOp (rW' X.K g a o) (rd X.K g W fb) (tC (.ref a)) σ H Q := by
  rintro σ H Q ⟨δ, m, h, r, s, q⟩
  refine ⟨δ, m, h, r, s, Gd.bind q fun x h1 m1 H1 e1 s1 q1 v r1 => ?_⟩
  exact ⟨rfl, m1, h1, x, s1, r1, Gd.of q1⟩
theorem ixr_W {a : Addr} {es : Array DictEntry} {n : Nat} (l : X.K.lookup a = some ⟨.type "dict", none, .dict es n, #[]⟩) (we : WEs X.K X.w es.toList c) : IxR X (rW X.K g a (oWix c)) := by
  intro value slice pins s σ H x y v u Q I rx ry h hs
  obtain ⟨rfl, m, vh, d, sm, rd, q⟩ := h
  cases (show v = Value.ref a from rx)
  unfold oWix at q
  split at q
  · rename_i hk
    obtain ⟨kk, rfl, rfl, hok⟩ := key_of rd hk
    split at q
    · rename_i d' hd
      obtain ⟨f1, _⟩ := we.findBy (P := X.prog) kk
      obtain ⟨u0, v0, h1, h2, h3⟩ := f1 d' hd
      have hm := WD.map (P := X.prog) I.kIn l we
      exact tail_any hm.typeIs slot_dict_getitem.lookup (wpAny_getItem_of (kV_is ry) hm h1 ⟨v0, H, I.tok _, h2, q m H _ Ext.refl sm (h3 _ _ _)⟩) hs
    · exact q.elim
  · exact q.elim
theorem opr_Wnin {a : Addr} {es : Array DictEntry} {n : Nat} (l : X.K.lookup a = some ⟨.type "dict", none, .dict es n, #[]⟩) (lo : (a == sysModules) = false) (we : WEs X.K X.w es.toList c) : OpR X (compareOp .NotIn) (rW' X.K g a (oWnin c)) := by
  intro pins s σ H x y v u Q I rx ry h
  obtain ⟨rfl, m, vh, d, sm, rd, q⟩ := h
  cases (show u = Value.ref a from ry)
  unfold oWnin at q
  split at q
  · rename_i hk
    obtain ⟨kk, rfl, rfl, hok⟩ := key_of rd hk
    have hm := WD.map (P := X.prog) I.kIn l we
    refine wpAny_notIn_of (kV_is rx) lo hm ?_
    have hb : (PySem.findBy (mixKind X.prog X.w).is es kk).isSome = (dGet c (kD kk)).isSome := by
      obtain ⟨f1, f2⟩ := we.findBy (P := X.prog) kk
      cases hd : dGet c (kD kk) with
      | none => rw [f2 hd]; rfl
      | some d =>
        obtain ⟨u0, v0, h1, _⟩ := f1 d hd
        rw [h1]; rfl
    rw [hb]
    exact ⟨.bl _, H, I.tok _, rfl, q m H _ Ext.refl sm (.bl _)⟩
  · exact q.elim
theorem fe_wix (hw : WD X.K X.w X.mg x c) (hb : PE X b (rd X.K g W fb)) (hg : Gl X x := by rfl) (hd : (x == ("__debug__" : Str)) = false := by decide) (hs : PlainIx b := by exact fun _ _ => rfl) : PE X (.Subscript (.Name x p) b pos) (rd X.K g W (e1 (oWix c) fb)) := by
  obtain ⟨a, es, n, h1, h2, h3, h4⟩ := hw.ex
  exact pe_weak (pe_ix (ixr_W (g := g) h2 h4) (pe_glob (v := .ref a) hg h1 rfl hd) hb hs) rd_W
theorem ft_wnin (hw : WD X.K X.w X.mg x c) (hb : PE X b (rd X.K g W fb)) (hm : behindInMarks .NotIn (.Name x p) = false := by rfl) (hg : Gl X x := by rfl) (hd : (x == ("__debug__" : Str)) = false := by decide) : PT X (.Compare b [.NotIn] [.Name x p] pos) (rt X.K g W (tV (e1 (oWnin c) fb))) := by
  obtain ⟨a, es, n, h1, h2, h3, h4⟩ := hw.ex
  exact pt_weak (pt_cmpR (opr_Wnin (g := g) h2 h3 h4) hb (pe_glob (v := .ref a) hg h1 rfl hd) hm) (rt_v rd_W')
end
theorem wd_of {K : PySem.W.Frag} {w : World} {mg : Str → Option Value} {x : Str} {a : Addr} {es : Array DictEntry} {n : Nat} {c : List (FL.D × FL.D)} (h1 : mg x = some (.ref a)) (h2 : K.lookup a = some ⟨.type "dict", none, .dict es n, #[]⟩) (h3 : (a == sysModules) = false) (h4 : WEs K w es.toList c) : WD K w mg x c := ⟨a, es, n, h1, h2, h3, h4⟩
end FL
set_option Elab.async false
set_option linter.all false
set_option maxRecDepth 100000
set_option maxHeartbeats 2000000
namespace FL
open PySem
def toQ : Nat → D → PyData
  | 0, _ => .none
  | _ + 1, .non => .none
  | _ + 1, .bl b => .bool b
  | _ + 1, .int i => .int i
  | _ + 1, .str s => .str ⟨s.toArray⟩
  | n + 1, .tup xs => .tuple (xs.map (toQ n))
  | n + 1, .fls xs => .list (xs.map (toQ n))
  | _ + 1, _ => .none
section
variable {h h1 : VH} {δ : DS} {own own1 : List Nat} {g g1 : FG} {t1 : FT} {a a1 e : FE}
theorem lc2T_of {α β : Type} (en : α → D) (ys : α → List β) (en1 : α → β → D) (p : α → β → Bool) (f : α → β → D) : ∀ (xs : List α) (acc : List D), acc.length + (xs.flatMap ys).length ≤ 16777216 →
    (∀ x ∈ xs, ∃ δ1 d, g (en x) (wipe δ own) h = some (δ1, h) ∧ a1 δ1 h = .ok d h ∧ itOf d = some ((ys x).map (en1 x)) ∧ ∀ y ∈ ys x, ∃ δ2, g1 (en1 x y) (wipe δ1 own1) h = some (δ2, h) ∧ t1 δ2 h = .ok (p x y) h ∧ (p x y = true → e δ2 h = .ok (f x y) h)) →
    lc2T g tYes a1 g1 t1 e own own1 δ (xs.map en) h acc = .ok (acc ++ xs.flatMap fun x => ((ys x).filter (p x)).map (f x)) h
  | [], acc, _, _ => by simp [lc2T]
  | x :: xs, acc, hl, H => by
    obtain ⟨δ1, d, e1, e2, e3, e4⟩ := H x List.mem_cons_self
    rw [List.flatMap_cons, List.length_append] at hl
    have q := lcT_mapE (g := g1) (t := t1) (e := e) (own := own1) (δ := δ1) (h := h) (en1 x) (p x) (f x) (ys x) acc (by omega) e4
    have hf : (List.filter (p x) (ys x)).length ≤ (ys x).length := List.length_filter_le _ _
    have ih := lc2T_of en ys en1 p f xs (acc ++ ((ys x).filter (p x)).map (f x)) (by rw [List.length_append, List.length_map]; omega) fun y hy => H y (List.mem_cons_of_mem _ hy)
    rw [List.map_cons]
    unfold lc2T
    rw [e1]
    show (match a1 δ1 h with
      | .ok d h => (inX g1 t1 e own1 δ1 acc d h).bind fun acc h => lc2T g tYes a1 g1 t1 e own own1 δ (xs.map en) h acc
      | _ => .bad) = _
    rw [e2]
    show (inX g1 t1 e own1 δ1 acc d h).bind _ = _
    unfold inX
    rw [e3]
    show (lcT g1 t1 e own1 δ1 ((ys x).map (en1 x)) h acc).bind _ = _
    rw [q, bind_ok, ih, List.flatMap_cons, List.append_assoc]
theorem lc2_of {α β : Type} (en : α → D) (xs : List α) (ys : α → List β) (en1 : α → β → D) (p : α → β → Bool) (f : α → β → D) {d0 : D} (ha : a δ h = .ok d0 h1) (hd : itOf d0 = some (xs.map en)) (hl : (xs.flatMap ys).length ≤ 16777216)
    (H : ∀ x ∈ xs, ∃ δ1 d, g (en x) (wipe δ own) h1 = some (δ1, h1) ∧ a1 δ1 h1 = .ok d h1 ∧ itOf d = some ((ys x).map (en1 x)) ∧ ∀ y ∈ ys x, ∃ δ2, g1 (en1 x y) (wipe δ1 own1) h1 = some (δ2, h1) ∧ t1 δ2 h1 = .ok (p x y) h1 ∧ (p x y = true → e δ2 h1 = .ok (f x y) h1)) :
    eLc2 a g tYes a1 g1 t1 e own own1 δ h = .ok (.fls (xs.flatMap fun x => ((ys x).filter (p x)).map (f x))) h1 := by
  have q := lc2T_of (g := g) (a1 := a1) (g1 := g1) (t1 := t1) (e := e) (own := own) (own1 := own1) (δ := δ) (h := h1) en ys en1 p f xs [] (by simpa using hl) H
  show (a δ h).bind _ = _
  rw [ha, bind_ok]
  unfold lc2X
  rw [hd]
  show lcEnd (lc2T g tYes a1 g1 t1 e own own1 δ (xs.map en) h1 []) = _
  rw [q, List.nil_append]
  rfl
end
@[simp] theorem tru_bl {b : Bool} {h : VH} : tru (.bl b) h = some b := (rfl)
theorem extend_rf {h : VH} {k : Nat} {xs ys : List D} (e : h[k]? = some (.lst xs)) (hz : xs.length + ys.length ≤ 16777216) : mExtend (.ref k) [.fls ys] h = some (.non, h.set k (.lst (xs ++ ys))) := by
  have q : mExtend (.ref k) [.fls ys] h = (match h[k]?, lsOf (.fls ys) h with
    | some (.lst xs), some ys => if xs.length + ys.length ≤ 16777216 then some (.non, h.set k (.lst (xs ++ ys))) else none
    | _, _ => none) := rfl
  rw [q, e]
  exact if_pos hz
theorem set_last {α : Type} (h : List α) (a b : α) : (h ++ [a]).set h.length b = h ++ [b] := by simp
end FL
set_option Elab.async false
set_option linter.all false
set_option maxRecDepth 100000
set_option maxHeartbeats 2000000
namespace FL
open PySem
end FL
set_option Elab.async false
set_option linter.all false
set_option maxRecDepth 100000
set_option maxHeartbeats 2000000
namespace FL
open PySem PySem.Spec PyProof.Rows L2
def keyX (e : Int × Value) : Str := match e.2 with
  | .str k _ => k
  | _ => Str.empty
def SetX (P : Program) (w : World) (h : Heap) (a : Addr) (l : List Str) : Prop :=
  ∃ T : PySem.Froz.SD, h.get? a = some (PySem.Froz.sObj "set" T) ∧ PySem.Froz.TxOk P w T l ∧ ((T.1.toList.map keyX).Perm l ∧ l.Nodup) ∧ L2.Ris T.2.2.place.toList ∧ (w.params.followText "set-order" = true ∨ T.2.2.led = true)
theorem SetX.at {P : Program} {w : World} {h h' : Heap} {a : Addr} {l : List Str} (R : SetX P w h a l) (k : ∀ o, h.get? a = some o → h'.get? a = some o) : SetX P w h' a l :=
  let ⟨T, h1, r⟩ := R; ⟨T, k _ h1, r⟩
theorem tailTx_ris {ep : Nat} {es : Array (Int × Value)} {t : SetTable} {b : Bool} (r : L2.Ris t.place.toList) : L2.Ris (PySem.Froz.tailTx ep es t b).2.2.place.toList := by
  unfold PySem.Froz.tailTx
  by_cases c : (!b && t.tooFull) = true
  · rw [if_pos c]; exact L2.relayAll_ris _ _ _
  · rw [if_neg c]; exact r
theorem tailTx_led {ep : Nat} {es : Array (Int × Value)} {t : SetTable} {b : Bool} : (PySem.Froz.tailTx ep es t b).2.2.led = t.led := by
  unfold PySem.Froz.tailTx
  by_cases c : (!b && t.tooFull) = true
  · rw [if_pos c]; exact L2.relayAll_led _ _ _
  · rw [if_neg c]
theorem addTx_ris {D : PySem.Froz.SD} {h : Int} {v : Value} (r : L2.Ris D.2.2.place.toList) : L2.Ris (PySem.Froz.addTx h v D).2.2.place.toList := by
  have q := L2.layNew_ris D.2.2 D.1 h v r
  refine tailTx_ris ?_
  by_cases c : (layNew D.2.2 D.1 h v).2.1.plain = true
  · rw [if_pos c]; exact q
  · rw [if_neg c]; exact q
theorem addTx_led {D : PySem.Froz.SD} {h : Int} {v : Value} : (PySem.Froz.addTx h v D).2.2.led = D.2.2.led := by
  have q := L2.layNew_led D.2.2 D.1 h v
  refine tailTx_led.trans ?_
  by_cases c : (layNew D.2.2 D.1 h v).2.1.plain = true
  · rw [if_pos c]; exact q
  · rw [if_neg c]; exact q
theorem addTx_perm {D : PySem.Froz.SD} {h : Int} {v : Value} : (PySem.Froz.addTx h v D).1.toList.Perm (D.1.push (h, v)).toList := by
  have q := layNew_perm D.2.2 D.1 h v
  unfold PySem.Froz.addTx PySem.Froz.tailTx
  dsimp only
  generalize (if (layNew D.2.2 D.1 h v).2.1.plain = true then { (layNew D.2.2 D.1 h v).2.1 with plain := false } else (layNew D.2.2 D.1 h v).2.1) = t2
  by_cases c : (!(layNew D.2.2 D.1 h v).2.2.1 && t2.tooFull) = true
  · rw [if_pos c]; exact (relayAll_perm _ _ _).trans q
  · rw [if_neg c]; exact q
section
variable {P : Program} {w : World} {A : Around} {E : Value → Shared → Prop} {s : Shared} {a : Addr} {l : List Str}
def insX (l : List Str) (k : Str) : List Str := if k ∈ l then l else k :: l
theorem setX_hashed {k : Str} {u : Tok} {Q : Bool → Shared → Prop} (R : SetX P w s.heap a l) (room : l.length + 1 < scanBound)
    (hQ : ∀ b h', Heap.SameBut a s.heap h' → SetX P w h' a (insX l k) → Q b { s with heap := h' }) : wpAny (model P w) A (setAddHashed a (.str k u) (hashStr w k)) Q E s := by
  obtain ⟨T, ho, F, nd, hr, hl⟩ := R
  by_cases hk : k ∈ l
  · obtain ⟨es, ep, t⟩ := T
    have hd : (PySem.Froz.sObj "set" (es, ep, t)).data = .set es ep t := rfl
    have hf : t.fits es.size = true := F.fit
    have hel : ElemsOf (strKind P w) es.toList := F.el
    have hsz : es.size = l.length := F.sz
    have hkey : (strKind P w).is k (.str k u) = true := strKind_is P w k u
    obtain ⟨e, he, hek⟩ := (F.mem k).mp hk
    have hfi : ∃ j, List.findIdx? (fun e => (strKind P w).is k e.2) es.toList = some j := by
      cases hq : List.findIdx? (fun e => (strKind P w).is k e.2) es.toList with
      | some j => exact ⟨j, rfl⟩
      | none =>
        have := List.findIdx?_eq_none_iff.mp hq e he
        rw [hek] at this
        cases this
    obtain ⟨j, hj⟩ := hfi
    unfold setAddHashed setAddHashedIn
    refine wpAny_holding (wpAny_bind (wpAny_setState_of ho hd hf ?_))
    dsimp only
    rw [byScan_of (knd := strKind P w) rfl (by omega) hel]
    simp only [↓reduceIte]
    unfold setAddByScan
    refine wpAny_bind (wpAny_bind (wpAny_rule ?_))
    refine wpAny_bind (wpAny_setScan_of (knd := strKind P w) (k := k) hkey ho hd hf hel ?_)
    rw [hj]
    dsimp only
    refine wpAny_pure (wpAny_pure ?_)
    exact hQ _ s.heap (Heap.SameBut.refl a s.heap) (by unfold insX; rw [if_pos hk]; exact ⟨_, ho, F, nd, hr, hl⟩)
  · refine PySem.Froz.add_x ho F hk room ?_
    refine hQ _ _ (Heap.SameBut.update s.heap a _) ?_
    unfold insX
    rw [if_neg hk]
    refine ⟨_, PySem.Froz.get_upd _ ho rfl, PySem.Froz.add_ok u F, ⟨?_, List.nodup_cons.mpr ⟨hk, nd.2⟩⟩, addTx_ris hr, hl.imp id fun z => by rw [addTx_led]; exact z⟩
    refine (addTx_perm.map keyX).trans ?_
    rw [Array.toList_push, List.map_append]
    exact (nd.1.append_right _).trans (List.perm_append_singleton _ _)
    -- addTx_ris hr, hl.imp id fun z => by rw [addTx_led]; exact z⟩
theorem SetX.setOf (R : SetX P w s.heap a l) (hb : l.length < scanBound) : s.heap.SetOf (strKind P w) a (fun k => decide (k ∈ l)) l.length := by
  obtain ⟨T, ho, F, nd, hr, hl⟩ := R
  refine ⟨_, T.1, T.2.1, T.2.2, ho, ⟨rfl, rfl, rfl⟩, rfl, F.el, fun k => ?_, ?_, F.fit, F.sz⟩
  · rw [decide_eq_true_eq]
    exact F.mem k
  · rw [F.sz]; exact hb
theorem setX_add {k : Str} {u : Tok} {Q : Value → Shared → Prop} (R : SetX P w s.heap a l) (room : l.length + 1 < scanBound)
    (hQ : ∀ h', Heap.SameBut a s.heap h' → SetX P w h' a (insX l k) → Q .none { s with heap := h', toks := s.toks + 1 }) :
    wpAny (model P w) A (call (.builtin "set.add") [.ref a, .str k u]) Q E s := by
  have hS := R.setOf (by omega)
  refine wpAny_call_entry F.slot_set_add hS.typeIs F.entry_set_add ?_ (F.args_set_add_2 _ _)
  unfold Builtin.«set.add» Builtin.Frozenset.oneOther
  simp only [List.isEmpty_nil, bind_assoc]
  unfold Builtin.Frozenset.addrOf setAdd
  refine wpAny_bind (wpAny_pure ?_)
  try dsimp only
  refine wpAny_bind (wpAny_pure ?_)
  try dsimp only
  refine wpAny_bind ?_
  refine wpAny_holding ?_
  refine wpAny_bind ((strKind P w).pyHash (strKind_is P w k u) ?_)
  refine setX_hashed (s := { s with toks := s.toks + 1 }) R room fun b h' sb r => ?_
  show wpAny _ _ (ret Value.none) _ _ _
  exact wpAny_pure ⟨_, rfl, hQ h' sb r⟩
end
theorem setX_fresh {P : Program} {w : World} {h : Heap} : SetX P w (h.push { cls := .type "set", dict := none, data := .set #[] 0 (.fresh 0 0 (!w.params.followText "set-order")) }) h.objs.size [] :=
  ⟨(#[], 0, .fresh 0 0 (!w.params.followText "set-order")), Heap.get?_push_size _ rfl, PySem.Froz.TxOk.nil rfl, ⟨List.Perm.nil, List.nodup_nil⟩, List.Pairwise.nil, by
    show _ ∨ (!w.params.followText "set-order") = true
    cases w.params.followText "set-order"
    · exact .inr rfl
    · exact .inl rfl⟩
def SetXO (P : Program) (w : World) (a : Addr) (l : List Str) : HO := .ext fun h => SetX P w h a l
theorem setXO_new {P : Program} {w : World} {H : Hp} {h : Heap} {a : Addr} {l : List Str} (R : SetX P w h a l) : ObjOk P w H h a (SetXO P w a l) := by
  have ⟨T, ho, _⟩ := R
  exact ⟨R, ⟨_, ho⟩, fun h1 h2 p k => SetX.at p k⟩
theorem heap_with (c : Addr) (o : Obj) (ho : o.isFreed = false) : ∃ h : Heap, h.get? c = some o := by
  refine ⟨⟨Array.replicate (c + 1) o, {}⟩, ?_⟩
  have e : (Array.replicate (c + 1) o)[c]? = some o := by simp
  unfold Heap.get?
  rw [e]
  obtain ⟨cl, di, da, sl⟩ := o
  cases da <;> first | rfl | cases ho
theorem setXO_code {P : Program} {w : World} {a : Addr} {l : List Str} {q : Str} : SetXO P w a l ≠ LamX.CodeO a q := fun z => by
  unfold SetXO LamX.CodeO at z
  injection z with z
  obtain ⟨h, hh⟩ := heap_with a { cls := .none, data := .fields #[.none, .str q 0] } rfl
  have e := congrFun z h
  have c : ∃ (oc : Obj) (vs : Array Value) (t : Tok), h.get? a = some oc ∧ oc.data = .fields vs ∧ vs[1]? = some (.str q t) := ⟨_, _, _, hh, rfl, rfl⟩
  rw [← e] at c
  obtain ⟨T, ho, _⟩ := c
  rw [hh] at ho
  have e2 := congrArg Obj.data (Option.some.inj ho)
  cases e2
section
variable {X : Cx}
theorem setXO_get {pins : List (Addr × Obj)} {σ : L2.St} {H : Hp} {s : Shared} {a : Addr} {l : List Str} (I : Inv X pins σ H s) (ha : H a = some (SetXO X.prog X.w a l)) : SetX X.prog X.w s.heap a l := (I.hok a _ ha).1
theorem addX_ok {pins : List (Addr × Obj)} {σ : L2.St} {H : Hp} {s : Shared} {E : Value → Shared → Prop} {D : Addr} {l : List Str} {k : Str} {v : Value} {Q : Value → Shared → Prop} (I : Inv X pins σ H s) (hD : H D = some (SetXO X.prog X.w D l)) (room : l.length + 1 < scanBound) (rv : RelV (.str k) v)
    (h : ∀ s', Inv X pins σ (upd H D (SetXO X.prog X.w D (insX l k))) s' → Q .none s') : wpAny (model X.prog X.w) X.A (call (.builtin "set.add") [.ref D, v]) Q E s := by
  obtain ⟨u, rfl⟩ := rv
  refine setX_add (setXO_get I hD) room fun h' sb new => ?_
  have he : ∃ u, h'.get? D = some u := by
    have ⟨T, ho, _⟩ := new
    exact ⟨_, ho⟩
  exact h _ (I.write (e := D) (t' := s.toks + 1) (by rw [hD]; trivial) (.inl rfl) (fun b u hb hu => (sb.2 b hb).trans hu) he (setXO_new new))
end
end FL
set_option Elab.async false
set_option linter.all false
set_option maxRecDepth 100000
set_option maxHeartbeats 2000000
namespace FL
open PySem PySem.Spec PyProof.Rows L2
section
variable {X : Cx}
def tSx (P : Program) (w : World) (wi : TI) (g : TG) (tt : TT) (te : TE) (vs : List Nat) : TE := fun σ H Q => wi σ H fun J H1 => ∀ D, H1 D = none → ∃ W : Nat → Nat → Hp → Prop, (∃ m, W 0 m (upd H1 D (SetXO P w D []))) ∧ ∀ i m H, W i m H →
  (J.stop i H ∧ Q (.ref D) H) ∨ (J.go i H ∧ ∃ Nx : Hp → Prop, (∀ H', Nx H' → ∃ m', m' < m ∧ W (i + 1) m' H') ∧ ∀ x H', J.yld i H x H' → g x (L2.wipe σ vs) H' fun σ2 H2 => L2.wipe σ2 vs = L2.wipe σ vs ∧ tt σ2 H2 fun b H3 =>
    if b = true then te σ2 H3 fun y H4 => ∃ (k : Str) (l : List Str), y = .str k ∧ H4 D = some (SetXO P w D l) ∧ l.length + 1 < scanBound ∧ Nx (upd H4 D (SetXO P w D (insX l k))) else Nx H3)
theorem pe_sx {elt tg iter : Expr} {ifs : List Expr} {scope : Scope} {own : List (Str × Nat)} {pos : Pos} {wi : TI} {g : TG} {tt : TT} {te : TE} (hc : X.calm = true) (hN : X.N.Nodup) (hi : PI X tg iter wi) (ok : BlkOk X.N X.env.scope scope own)
    (hg : ∀ (s : Shared) (H : Hp) (C : Addr) (cl : List (Str × Addr)) (fp : List Addr), PG (X.blk s H scope (compEnvC scope cl C X.env) fp) tg g) (ht : ∀ (s : Shared) (H : Hp) (C : Addr) (cl : List (Str × Addr)) (fp : List Addr), PTs (X.blk s H scope (compEnvC scope cl C X.env) fp) ifs tt)
    (he : ∀ (s : Shared) (H : Hp) (C : Addr) (cl : List (Str × Addr)) (fp : List Addr), PE (X.blk s H scope (compEnvC scope cl C X.env) fp) elt te) (hs : ∀ x, foldedSetIterable iter X.env x = pure x := by intro _; rfl) :
    PE X (.SetComp elt [⟨tg, iter, ifs, 0⟩] scope pos) (tSx X.prog X.w wi g tt te (own.map (·.2))) := by
  refine ⟨fun pins s σ H Q I h => ?_⟩
  rw [PpSet.eval_SetComp]
  -- the closure's cells are there
  have cells : ∀ y ∈ scope.names, y.2 = .free → ∃ c, X.env.cells.lookup y.1 = some c := fun y hy e =>
    (ok.free y hy e).elim (fun k => I.ok.has _ (.inl k)) fun k => I.ok.has _ (.inr k)
  refine wpAny_comprehension_free rfl hs (closure_ok cells) ok.kind (fun y hy e => by rw [ok.uniq y hy, e])
    (thn (hi.run pins s σ H _ I h) fun _ _ hx => thn hx fun _ sI ⟨it, fp, tn, J, HI, e, II, T, tn0, fpI, q⟩ => ?_)
  subst e
  refine PpSet.newSet_ok (newEnv_comp ?_)
  -- the new set, at D
  obtain ⟨D, hD⟩ : ∃ D, D = sI.heap.objs.size := ⟨_, rfl⟩
  rw [← hD]
  obtain ⟨W, ⟨m0, w0⟩, turn⟩ := q D (II.hok.fresh (Nat.le_of_eq hD.symm))
  obtain ⟨sS, hS⟩ : ∃ sS : Shared, sS = { sI with heap := sI.heap.push { cls := .type "set", dict := none, data := .set #[] 0 (.fresh 0 0 (!X.w.params.followText "set-order")) } } := ⟨_, rfl⟩
  obtain ⟨HS, hHS⟩ : ∃ HS, HS = upd HI D (SetXO X.prog X.w D []) := ⟨_, rfl⟩
  rw [← hHS] at w0
  have hSh : sS.heap = sI.heap.push { cls := .type "set", dict := none, data := .set #[] 0 (.fresh 0 0 (!X.w.params.followText "set-order")) } := by rw [hS]
  have IS : Inv X pins σ HS sS := by
    rw [hS, hHS]
    refine II.laid (t' := sI.toks) (fun b o e => Heap.get?_push_of_some _ e) (Nat.le_of_eq hD.symm) ?_
    rw [hD]
    exact setXO_new setX_fresh
  have lt : ∀ b ∈ fp, b < sI.heap.objs.size := fun b hb => let ⟨_, e, _⟩ := T.obj _ _ tn0 b hb; Heap.lt_size e
  have fpS : ∀ b ∈ fp, FpOk X pins HS b ∧ b < sS.heap.objs.size := fun b hb => by
    refine ⟨⟨?_, (fpI b hb).2⟩, ?_⟩
    · rw [hHS, upd_ne (by rw [hD]; exact Nat.ne_of_lt (lt b hb))]
      exact (fpI b hb).1
    · rw [hSh, Heap.size_push]
      exact Nat.lt_succ_of_lt (lt b hb)
  have tnS : tn 0 sS.heap := T.keep _ _ _ tn0 fun b _ o e => by rw [hSh]; exact Heap.get?_push_of_some _ e
  -- the block
  have IB := block_start IS ok hN fpS
  obtain ⟨ce, hce⟩ : ∃ ce, ce = compEnvC scope (cellsFrom (sS.heap.objs.size + 1) scope.names (cloFrom X.env.cells scope.names [])) sS.heap.objs.size X.env := ⟨_, rfl⟩
  have pg := hg sS HS sS.heap.objs.size (cellsFrom (sS.heap.objs.size + 1) scope.names (cloFrom X.env.cells scope.names [])) fp
  have pt := ht sS HS sS.heap.objs.size (cellsFrom (sS.heap.objs.size + 1) scope.names (cloFrom X.env.cells scope.names [])) fp
  have pe := he sS HS sS.heap.objs.size (cellsFrom (sS.heap.objs.size + 1) scope.names (cloFrom X.env.cells scope.names [])) fp
  rw [← hce] at IB pg pt pe
  have cL : ce.locals = sS.heap.objs.size := by rw [hce]; rfl
  obtain ⟨sB, hB⟩ : ∃ sB : Shared, sB = { sS with heap := pushCells (sS.heap.push { cls := .type "dict", data := .dict #[] }) scope.names } := ⟨_, rfl⟩
  rw [← hB] at IB
  have tnB : tn 0 sB.heap := T.keep _ _ _ tnS fun b _ o e => by rw [hB]; exact pushCells_keeps _ _ _ _ (Heap.get?_push_of_some _ e)
  have fpB : ∀ {σ' : L2.St} {H' : Hp} {s' : Shared}, Inv (X.blk sS HS scope ce fp) [] σ' H' s' → (∀ b ∈ fp, H' b = none) → ∀ b ∈ fp, FpOk (X.blk sS HS scope ce fp) [] H' b := fun {σ' H' s'} I' hn b hb =>
    ⟨hn b hb, (I'.ok.exf b hb).1, I'.ok.exfs b hb, .inl hb, fun x c e => (I'.ok.exf b hb).2 x c e, fun p hp => absurd (show p ∈ ([] : List (Addr × Obj)) ++ [] from hp) (by simp)⟩
  have loop : codeAny (model X.prog X.w) X.A (.compLoop (.SetComp elt [⟨tg, iter, ifs, 0⟩] scope pos) 0 (.ref it) (.ref D) ce) (compPost (model X.prog X.w) X.A X.xe none (EP X pins σ Q) (.ref D) sS.heap.objs.size) sB := by
    refine PpSet.compLoopS_any (fun n s' => ∃ i H', Inv (X.blk sS HS scope ce fp) [] (L2.wipe σ (own.map (·.2))) H' s' ∧ tn i s'.heap ∧ (∀ b ∈ fp, H' b = none) ∧ W i n H') ?_ m0 ⟨0, HS, IB, tnB, fun b hb => (fpS b hb).1.1, w0⟩
    rintro n s1 ⟨i, H1, I1, tn1, n1, w1⟩
    rcases turn i n H1 w1 with ⟨stop, done⟩ | ⟨go, Nx, hNx, step⟩
    · refine thnF (T.done (X.blk sS HS scope ce fp) rfl rfl rfl hc i [] s1 _ H1 (fun _ _ => False) I1 (fpB I1 n1) tn1 stop) fun r s2 ⟨hr, I2⟩ => ?_
      subst hr
      have I3 : Inv X pins σ H1 s2 := IS.call' (ch := fp) I2.os I2.base I2.hok I2.bare fun b hb => ⟨(fpS b hb).1.2.2.2.1, (fpS b hb).1.2.1, (fpS b hb).1.2.2.2.2.1, (fpS b hb).1.2.2.2.2.2⟩
      have nC : H1 sS.heap.objs.size = none := by rw [← cL]; exact I2.free
      obtain ⟨m, hn, _⟩ := I2.loc
      have hn : s2.heap.Ns ce.locals m := hn
      rw [cL] at hn
      have f := IS.fpOk (Nat.le_refl _) nC
      refine ⟨m, hn, fun h'' sb => ?_⟩
      obtain ⟨f0, f1, f2, f3, f4, f5⟩ := f
      exact ⟨.ref D, H1, I3.turned (t' := s2.toks) (fun b o hb e => (sb.2 b hb).trans e) f0 f1 f3 f4 f5, rfl, done⟩
    · refine thnF (T.item (X.blk sS HS scope ce fp) rfl rfl rfl hc i [] s1 _ H1 (fun _ _ => False) I1 (fpB I1 n1) tn1 go) fun r s2 ⟨u, hr, h2⟩ => ?_
      subst hr
      refine thnF h2 fun _ s3 ⟨x, H3, I3, r3, y3, tn3, n3⟩ => ?_
      have I3' := I3.pinned (fpB I3 n3) (T.obj _ _ tn3)
      refine thnF (pg.run _ s3 _ H3 x u _ I3' r3 (step x H3 y3)) fun _ s4 ⟨σ4, H4, I4, hw, q4⟩ => ?_
      refine thnF (pt.run _ s4 σ4 H4 _ I4 q4) fun b s5 ⟨H5, I5, q5⟩ => ?_
      have next : ∀ {s' : Shared} {H' : Hp}, Inv (X.blk sS HS scope ce fp) ([] ++ pinsAt fp s3.heap) σ4 H' s' → Nx H' → ∃ m, m < n ∧ ∃ i H', Inv (X.blk sS HS scope ce fp) [] (L2.wipe σ (own.map (·.2))) H' s' ∧ tn i s'.heap ∧ (∀ b ∈ fp, H' b = none) ∧ W i m H' := fun {s' H'} I' nx => by
        obtain ⟨m', hm, w'⟩ := hNx H' nx
        have pin : ∀ b ∈ fp, ∀ o, s3.heap.get? b = some o → s'.heap.get? b = some o ∧ H' b = none := fun b hb o e =>
          let z := I'.pin (b, o) (List.mem_append_right _ (List.mem_append_right _ (mem_pinsAt hb e)))
          ⟨z.1, z.2.1⟩
        refine ⟨m', hm, i + 1, H', (I'.unpinned (pins := [])).weak (by rw [← hw, wipe_length]) (fun j v e => ?_), T.keep _ _ _ tn3 fun b hb o e => (pin b hb o e).1, fun b hb => ?_, w'⟩
        · rw [← hw] at e
          exact (wipe_some e).1
        · obtain ⟨o, e, _⟩ := T.obj _ _ tn3 b hb
          exact (pin b hb o e).2
      cases b with
      | false =>
        simp only [Bool.false_eq_true, if_false] at q5 ⊢
        exact next I5 q5
      | true =>
        simp only [if_true] at q5 ⊢
        refine thnF (pe.run _ s5 σ4 H5 _ I5 q5) fun z s6 ⟨yv, H6, I6, r6, k, l, ey, hD6, hz6, nx⟩ => ?_
        subst ey
        exact addX_ok (X := X.blk sS HS scope ce fp) I6 hD6 hz6 r6 fun s7 I7 => next I7 nx
  subst hB
  subst hce
  subst hS
  exact PpSet.codeAny_compStart_set loop (T.self X.A 0 _ _ _ tnB loop)
end
end FL
set_option Elab.async false
set_option linter.all false
set_option maxRecDepth 100000
set_option maxHeartbeats 2000000
namespace FL
open PySem PySem.Spec PyProof.Rows L2
def mkS (a : List Nat) : Str := ⟨a.toArray⟩
theorem mkS_inj {a b : List Nat} (e : mkS a = mkS b) : a = b := by
  have := congrArg (fun s : Str => s.cps.toList) e
  simpa [mkS] using this
def insN (l : List (List Nat)) (k : List Nat) : List (List Nat) := if k ∈ l then l else k :: l
theorem insX_map (l : List (List Nat)) (k : List Nat) : insX (l.map mkS) (mkS k) = (insN l k).map mkS := by
  unfold insX insN
  have e : mkS k ∈ l.map mkS ↔ k ∈ l := ⟨fun h => by
    obtain ⟨b, hb, eb⟩ := List.mem_map.mp h
    rw [← mkS_inj eb]; exact hb, fun h => List.mem_map.mpr ⟨k, h, rfl⟩⟩
  by_cases h : k ∈ l
  · rw [if_pos h, if_pos (e.mpr h)]
  · rw [if_neg h, if_neg (fun z => h (e.mp z)), List.map_cons]
theorem insN_ok {l : List (List Nat)} {k : List Nat} (h : ∀ a ∈ l, okS a = true) (hk : okS k = true) : ∀ a ∈ insN l k, okS a = true := by
  unfold insN
  split
  · exact h
  · intro a ha
    rcases List.mem_cons.mp ha with rfl | ha
    · exact hk
    · exact h a ha
def scT (g : FG) (t : FT) (e : FE) (own : List Nat) (δ : DS) : List FL.D → VH → List (List Nat) → Out (List (List Nat))
  | [], h, acc => .ok acc h
  | x :: xs, h, acc => match g x (FL.wipe δ own) h with
    | none => .bad
    | some (δ1, h) => match t δ1 h with
      | .ok false h => scT g t e own δ xs h acc
      | .ok true h => match e δ1 h with
        | .ok (.str k) h => if acc.length < 4095 then scT g t e own δ xs h (insN acc k) else .bad
        | _ => .bad
      | _ => .bad
def scEnd (fin : List (List Nat) → FL.D) (o : Out (List (List Nat))) : Out FL.D := match o with
  | .ok l h => .ok (fin l) h
  | _ => .bad
def eSc (fin : List (List Nat) → FL.D) (a : FE) (g : FG) (t : FT) (e : FE) (own : List Nat) : FE := fun δ h => (a δ h).bind fun x h => match itOf x with
  | some xs => scEnd fin (scT g t e own δ xs h [])
  | none => .bad
section
variable {X : Cx} {g : Gc} {f : FG} {ft : FT} {fe fa : FE} {own : List Nat} {δ : DS} {σ : L2.St} {D : Addr} {Q : VK} {m0 : Nat → Addr} {n0 : Nat} {H0 : Hp}
theorem Sim.ownX {P : Program} {w : World} {K : PySem.W.Frag} {g : Gc} {m : Nat → Addr} {h : VH} {H : Hp} {D : Addr} {l : List Str} (s : Sim K g m h H) (hD : H D = some (SetXO P w D l)) (nD : ∀ k, k < h.length → m k ≠ D) (u : HO) : Imm H (upd H D u) ∧ Sim K g m h (upd H D u) := by
  have im : Imm H (upd H D u) := ⟨fun a xs e => by
    rw [upd_ne (fun z => by rw [z, hD] at e; cases e)]
    exact e, fun a o u e => by
    rw [upd_ne (fun z => by rw [z, hD] at e; cases e)]
    exact e, fun a q e => by
    rw [upd_ne (fun z => by rw [z, hD] at e; exact setXO_code (Option.some.inj e))]
    exact e⟩
  refine ⟨im, ⟨s.inj, fun i o hi => ?_, tabs_upd s.tab (fun ps z => by rw [hD] at z; cases z) (fun q z => by rw [hD] at z; exact setXO_code (Option.some.inj z))⟩⟩
  have hl := (List.getElem?_eq_some_iff.mp hi).1
  exact (s.obj i o hi).mono (Nat.le_refl _) (fun _ _ => rfl) im (upd_ne (nD i hl))
structure AccX (P : Program) (w : World) (K : PySem.W.Frag) (g : Gc) (m0 : Nat → Addr) (n0 : Nat) (H0 : Hp) (D : Addr) (m : Nat → Addr) (h : VH) (H : Hp) (acc : List (List Nat)) : Prop where
  ex : Ext m0 n0 H0 m h.length H
  sm : Sim K g m h H
  nD : ∀ k, k < h.length → m k ≠ D
  at_ : H D = some (SetXO P w D (acc.map mkS))
  ok : ∀ a ∈ acc, okS a = true
theorem AccX.from {P : Program} {w : World} {K : PySem.W.Frag} {g : Gc} {m0 m m1 : Nat → Addr} {n0 : Nat} {H0 H H1 : Hp} {D : Addr} {h h1 : VH} {acc : List (List Nat)} (a : AccX P w K g m0 n0 H0 D m h H acc) (e : Ext m h.length H m1 h1.length H1) (s : Sim K g m1 h1 H1) : AccX P w K g m0 n0 H0 D m1 h1 H1 acc := by
  refine ⟨a.ex.trans e, s, fun k hk z => ?_, e.fr D _ a.nD a.at_ trivial, a.ok⟩
  by_cases hn : k < h.length
  · rw [e.eq k hn] at z
    exact a.nD k hn z
  · have := e.nw k (by omega) hk
    rw [z, a.at_] at this
    exact this.elim
theorem AccX.put {P : Program} {w : World} {K : PySem.W.Frag} {g : Gc} {m0 m : Nat → Addr} {n0 : Nat} {H0 H : Hp} {D : Addr} {h : VH} {acc : List (List Nat)} {k : List Nat} (a : AccX P w K g m0 n0 H0 D m h H acc) (h0 : H0 D = none) (hk : okS k = true) :
    Imm H (upd H D (SetXO P w D (insX (acc.map mkS) (mkS k)))) ∧ AccX P w K g m0 n0 H0 D m h (upd H D (SetXO P w D (insX (acc.map mkS) (mkS k)))) (insN acc k) := by
  obtain ⟨im, s⟩ := a.sm.ownX a.at_ a.nD (SetXO P w D (insX (acc.map mkS) (mkS k)))
  exact ⟨im, a.ex.own h0 _, s, a.nD, by rw [upd_same, insX_map], insN_ok a.ok hk⟩
def EndX (P : Program) (w : World) (K : PySem.W.Frag) (g : Gc) (fin : List (List Nat) → FL.D) (Q : VK) (x : V) (H : Hp) : Prop :=
  ∃ a l m h, x = .ref a ∧ H a = some (SetXO P w a (l.map mkS)) ∧ (∀ a ∈ l, okS a = true) ∧ l.length < 4096 ∧ Sim K g m h H ∧ GoodO K g m h.length H Q (some (fin l, h))
abbrev FinX (K : PySem.W.Frag) (g : Gc) (m0 : Nat → Addr) (n0 : Nat) (H0 : Hp) (fin : List (List Nat) → FL.D) (Q : VK) (o : Out (List (List Nat))) : Prop := GoodE K g (fun _ _ _ => False) m0 n0 H0 Q (scEnd fin o)
theorem sc_tree {J : It} {C : Hp → Prop} {fin : List (List Nat) → FL.D} {vs : List V} {xs : List FL.D} {m : Nat → Addr} {h : VH} {H : Hp} (T : TreeIt J C vs) (c0 : C H) (hD : H D = none) (r : RS X.K m h.length H δ σ) (s : Sim X.K g m h H) (rx : RDs X.K m h.length H xs vs)
    (q : FinX X.K g m h.length H fin Q (scT f ft fe own δ xs h [])) :
    ∃ W : Nat → Nat → Hp → Prop, (∃ m, W 0 m (upd H D (SetXO X.prog X.w D []))) ∧ ∀ i m H, W i m H →
      (J.stop i H ∧ EndX X.prog X.w X.K g fin Q (.ref D) H) ∨ (J.go i H ∧ ∃ Nx : Hp → Prop, (∀ H', Nx H' → ∃ m', m' < m ∧ W (i + 1) m' H') ∧ ∀ x H', J.yld i H x H' → rg X.K g own f x (L2.wipe σ own) H' fun σ2 H2 => L2.wipe σ2 own = L2.wipe σ own ∧ rt X.K g W0 ft σ2 H2 fun b H3 =>
        if b = true then rd X.K g W0 fe σ2 H3 fun y H4 => ∃ (k : Str) (l : List Str), y = .str k ∧ H4 D = some (SetXO X.prog X.w D l) ∧ l.length + 1 < scanBound ∧ Nx (upd H4 D (SetXO X.prog X.w D (insX l k))) else Nx H3) := by
  have i0 : Imm H (upd H D (SetXO X.prog X.w D [])) := Imm.new hD
  have nD0 : ∀ k, k < h.length → m k ≠ D := fun k hk z => by
    obtain ⟨u, hu, _⟩ := s.there hk
    rw [z, hD] at hu
    cases hu
  obtain ⟨e0, s0⟩ := s.tup (o := SetXO X.prog X.w D []) hD
  have a0 : AccX X.prog X.w X.K g m h.length H D m h (upd H D (SetXO X.prog X.w D [])) [] := ⟨e0, s0, nD0, upd_same, fun a ha => nomatch ha⟩
  have mo : ∀ {m1 : Nat → Addr} {h1 : VH} {H1 : Hp} {m2 : Nat → Addr} {h2 : VH} {H2 : Hp} {xs : List FL.D} {vs : List V}, h1.length ≤ h2.length → (∀ k, k < h1.length → m2 k = m1 k) → Imm H1 H2 → RDs X.K m1 h1.length H1 xs vs → RDs X.K m2 h2.length H2 xs vs := fun a b c d => RDs.mono a b c _ _ d
  have ms : ∀ {m1 : Nat → Addr} {h1 : VH} {H1 : Hp} {m2 : Nat → Addr} {h2 : VH} {H2 : Hp}, h1.length ≤ h2.length → (∀ k, k < h1.length → m2 k = m1 k) → Imm H1 H2 → RS X.K m1 h1.length H1 δ σ → RS X.K m2 h2.length H2 δ σ := fun a b c r => ⟨r.1, fun i d hd => let ⟨v, h1, h2⟩ := r.2 i d hd; ⟨v, h1, RD.mono a b c _ _ h2⟩⟩
  refine ⟨fun i c H1 => ∃ m1 h1 rest acc, C H1 ∧ RS X.K m1 h1.length H1 δ σ ∧ AccX X.prog X.w X.K g m h.length H D m1 h1 H1 acc ∧ acc.length < 4096 ∧ RDs X.K m1 h1.length H1 rest (vs.drop i) ∧ c = rest.length ∧ FinX X.K g m h.length H fin Q (scT f ft fe own δ rest h1 acc), ⟨_, m, h, xs, [], T.st _ _ i0 c0, ms (Nat.le_refl _) (fun _ _ => rfl) i0 r, a0, by decide, mo (Nat.le_refl _) (fun _ _ => rfl) i0 rx, rfl, q⟩, ?_⟩
  rintro i c H1 ⟨m1, h1, rest, acc, hc, r, a, hz, rx, rfl, q⟩
  cases rest with
  | nil =>
    have hl := rx.length
    rw [List.length_drop] at hl
    refine .inl ⟨T.stop i H1 hc (by simp at hl; omega), D, acc, m1, h1, rfl, a.at_, a.ok, hz, a.sm, ?_⟩
    have q : GoodE X.K g (fun _ _ _ => False) m h.length H Q (.ok (fin acc) h1) := q
    exact fun m2 H2 v e2 s2 rv => q m2 H2 (a.ex.trans e2) s2 v rv
  | cons x rest =>
    have hi : ∃ v, vs[i]? = some v ∧ RD X.K m1 h1.length H1 x v ∧ RDs X.K m1 h1.length H1 rest (vs.drop (i + 1)) := by
      have hl := rx.length
      rw [List.length_drop] at hl
      have hlt : i < vs.length := by simp at hl; omega
      rw [List.drop_eq_getElem_cons hlt] at rx
      cases rx with
      | cons r1 r2 => exact ⟨vs[i], by simp [hlt], r1, r2⟩
    obtain ⟨v, hv, r1, r2⟩ := hi
    refine .inr ⟨T.go i H1 v hc hv, fun H2 => ∃ m2 h2 acc2, h1.length ≤ h2.length ∧ (∀ k, k < h1.length → m2 k = m1 k) ∧ Imm H1 H2 ∧ AccX X.prog X.w X.K g m h.length H D m2 h2 H2 acc2 ∧ acc2.length < 4096 ∧ FinX X.K g m h.length H fin Q (scT f ft fe own δ rest h2 acc2), fun H' z => ⟨rest.length, by simp, ?_⟩, fun y H' hy => ?_⟩
    · obtain ⟨m2, h2, acc2, e1, e2, e3, a2, z2, q2⟩ := z
      exact ⟨m2, h2, rest, acc2, T.st _ _ e3 hc, ms e1 e2 e3 r, a2, z2, mo e1 e2 e3 r2, rfl, q2⟩
    obtain ⟨e1, e2⟩ := T.yld i H1 y H' v hc hy hv
    subst e1
    subst e2
    refine ⟨FL.wipe δ own, m1, h1, x, r.wipe own, a.sm, r1, ?_⟩
    have q : FinX X.K g m h.length H fin Q (match f x (FL.wipe δ own) h1 with
      | none => .bad
      | some (δ1, h) => match ft δ1 h with
        | .ok false h => scT f ft fe own δ rest h acc
        | .ok true h => match fe δ1 h with
          | .ok (.str k) h => if acc.length < 4095 then scT f ft fe own δ rest h (insN acc k) else .bad
          | _ => .bad
        | _ => .bad) := q
    cases eg : f x (FL.wipe δ own) h1 with
    | none => rw [eg] at q; exact q
    | some p =>
      obtain ⟨δ1, h2⟩ := p
      rw [eg] at q
      intro m2 H2 σ2 x2 s2 rr2 hw
      have a2 := a.from x2 s2
      refine ⟨hw.trans (wipe_wipe σ own), δ1, m2, h2, rr2, s2, ?_⟩
      have q : FinX X.K g m h.length H fin Q (match ft δ1 h2 with
        | .ok false h => scT f ft fe own δ rest h acc
        | .ok true h => match fe δ1 h with
          | .ok (.str k) h => if acc.length < 4095 then scT f ft fe own δ rest h (insN acc k) else .bad
          | _ => .bad
        | _ => .bad) := q
      cases et : ft δ1 h2 with
      | bad => rw [et] at q; exact q
      | err c p h3 => rw [et] at q; exact q.elim
      | ok b h3 =>
        rw [et] at q
        intro m3 H3 x3 s3
        have a3 := a2.from x3 s3
        have x23 := x2.trans x3
        cases b with
        | false => exact ⟨m3, h3, acc, x23.le, x23.eq, x23.im, a3, hz, q⟩
        | true =>
          show rd X.K g W0 fe σ2 H3 _
          refine ⟨δ1, m3, h3, x3.rs rr2, s3, ?_⟩
          have q : FinX X.K g m h.length H fin Q (match fe δ1 h3 with
            | .ok (.str k) h => if acc.length < 4095 then scT f ft fe own δ rest h (insN acc k) else .bad
            | _ => .bad) := q
          cases ee : fe δ1 h3 with
          | bad => rw [ee] at q; exact q
          | err c p h4 => rw [ee] at q; exact q.elim
          | ok y h4 =>
            rw [ee] at q
            cases y with
            | str k =>
              intro m4 H4 x4 s4 w4 rw4
              have q : FinX X.K g m h.length H fin Q (if acc.length < 4095 then scT f ft fe own δ rest h4 (insN acc k) else .bad) := q
              split at q
              · rename_i hlt
                have a4 := a3.from x4 s4
                have x24 := x23.trans x4
                cases rw4 with
                | str hk =>
                  obtain ⟨im, a5⟩ := a4.put hD hk
                  refine ⟨mkS k, acc.map mkS, rfl, a4.at_, by rw [List.length_map]; show acc.length + 1 < 4096; omega, m4, h4, insN acc k, x24.le, x24.eq, x24.im.trans im, a5, ?_, q⟩
                  unfold insN
                  split
                  · exact hz
                  · rw [List.length_cons]; omega
              · exact q.elim
            | _ => exact q.elim
end
section
variable {X : Cx} {g : Gc} {W : WX} {f : FG} {ft : FT} {fe fa : FE} {sl : List Nat} {elt tg iter : Expr} {ifs : List Expr} {scope : Scope} {own : List (Str × Nat)} {pos spos py : Pos} {fin : List (List Nat) → FL.D}
theorem sc_fin {m : Nat → Addr} {n : Nat} {H : Hp} {Q : VK} {o : Out (List (List Nat))} {W : Value → Option Addr → Hp → Prop} (z : GoodE X.K g W m n H Q (scEnd fin o)) : FinX X.K g m n H fin Q o := by
  cases o with
  | ok xs h' => exact z
  | _ => exact z.elim
theorem rd_sx : ∀ σ H Q, rd X.K g W (eSc fin fa f ft fe sl) σ H Q →
    tSx X.prog X.w (it4 X.K (rd X.K g W fa)) (rg X.K g sl f) (rt X.K g W0 ft) (rd X.K g W0 fe) sl σ H (EndX X.prog X.w X.K g fin Q) := by
  rintro σ H Q ⟨δ, m, h, r, s, q⟩
  have q : GoodE X.K g (fun c d H' => W c d σ H') m h.length H Q ((fa δ h).bind fun x h => match itOf x with
    | some xs => scEnd fin (scT f ft fe sl δ xs h [])
    | none => .bad) := q
  refine it4_ok r s (fun z => ?_) (fun c p h1 z => ?_) fun d h1 z => ?_
  · rw [z] at q; exact q
  · rw [z] at q; exact q
  · rw [z] at q
    have q : GoodE X.K g (fun c d H' => W c d σ H') m h.length H Q (match itOf d with
      | some xs => scEnd fin (scT f ft fe sl δ xs h1 [])
      | none => .bad) := q
    cases ei : itOf d with
    | none => rw [ei] at q; exact q.elim
    | some xs =>
      rw [ei] at q
      refine ⟨xs, rfl, fun m1 H1 J C vs e1 s1 T c rx => ?_⟩
      exact fun D hD => sc_tree T c hD (e1.rs r) s1 rx (sc_fin (Gd.from e1 q))
end
end FL
set_option Elab.async false
set_option linter.all false
set_option maxRecDepth 100000
set_option maxHeartbeats 2000000
namespace FL
open PySem PySem.Spec PyProof.Rows L2
section
variable {X : Cx} {g : Gc}
def rX (P : Program) (w : World) (K : PySem.W.Frag) (g : Gc) (fin : List (List Nat) → FL.D) : List V → Hp → VK → Prop
  | [v], H, Q => EndX P w K g fin Q v H
  | _, _, _ => False
def lenFin (l : List (List Nat)) : FL.D := .int (l.length : Nat)
theorem cr_lenX : CallR X (.builtin "len") (rX X.prog X.w X.K g lenFin) := by
  rintro pins s σ H vs us Q I r hh
  match vs, hh with
  | [], hh => exact hh.elim
  | _ :: _ :: _, hh => exact hh.elim
  | [v], hh =>
  obtain ⟨a, l, m, h, rfl, hD, ok, hz, sm, q⟩ := hh
  rw [Vals.ref1 r]
  obtain ⟨T, ho, F, ⟨pm0, nd⟩, hr, hl⟩ := setXO_get I hD
  have hsz := F.sz
  rw [List.length_map] at hsz
  refine call_len_set (es := T.1) (ep := T.2.1) (t := T.2.2) ho ⟨rfl, rfl, rfl⟩ rfl F.fit (by rw [hsz] <;> omega) ⟨.int (l.length : Nat), H, I.tok _, ⟨_, by rw [hsz]⟩, q m H _ Ext.refl sm (.int _)⟩
end
section
variable {X : Cx} {g : Gc} {W : WX} {f : FG} {ft : FT} {fe fa : FE} {sl : List Nat} {elt tg iter : Expr} {ifs : List Expr} {scope : Scope} {own : List (Str × Nat)} {pos cpos p : Pos}
theorem fe_scLen (hc : X.calm = true) (hN : X.N.Nodup) (hm : X.mg "len" = none) (ha : PE X iter (rd X.K g W fa)) (P : LcP X g elt tg ifs scope own f ft fe) (hsl : own.map (·.2) = sl := by rfl) (hs : ∀ x, foldedSetIterable iter X.env x = pure x := by intro _; rfl) (hg : Gl X "len" := by rfl)
    (he : starEach [.SetComp elt [⟨tg, iter, ifs, 0⟩] scope pos] X.env = (false, eval (.SetComp elt [⟨tg, iter, ifs, 0⟩] scope pos) X.env) :: starEach [] X.env := by rfl) :
    PE X (.Call (.Name "len" p) [.SetComp elt [⟨tg, iter, ifs, 0⟩] scope pos] [] cpos) (rd X.K g W (eSc lenFin fa f ft fe sl)) := by
  subst hsl
  exact pe_weak (pe_callB (cr_lenX (g := g)) hg hm (by decide +kernel) (pa_cons (pe_sx hc hN (pi_it4 ha) P.ok P.hg P.ht P.he hs) pa_nil he) (by decide) (by decide) he (by rfl)) fun σ H Q h => rd_sx σ H Q h
end
end FL
set_option Elab.async false
set_option linter.all false
set_option maxRecDepth 100000
set_option maxHeartbeats 2000000
namespace FL
open PySem PySem.Spec PyProof.Rows L2
section
variable {X : Cx} {g : Gc} {W : WX} {pos : Pos} {fk fv : FE} {r : FA} {k v : Expr} {ks : List (Option Expr)} {vs : List Expr}
theorem RKs.len {K : PySem.W.Frag} {m : Nat → Addr} {n : Nat} {H : Hp} : ∀ {xs : List (FL.D × FL.D)} {ws : List (Key × V)}, RKs K m n H xs ws → xs.length = ws.length
  | _, _, .nil => rfl
  | _, _, .cons _ _ r => by rw [List.length_cons, List.length_cons, RKs.len r]
end
end FL
set_option Elab.async false
set_option linter.all false
set_option maxRecDepth 100000
set_option maxHeartbeats 2000000
namespace FL
open PySem PySem.Spec PyProof.Rows L2
inductive RowsAt (P : Program) (w : World) (h : Heap) : List Addr → List (Value × Value) → List (Key × Value) → Prop
  | nil : RowsAt P w h [] [] []
  | cons {a : Addr} {u v : Value} {k : Key} {as : List Addr} {pv : List (Value × Value)} {prs : List (Key × Value)} : PairAt h a u v → keyIs k u = true → RowsAt P w h as pv prs → RowsAt P w h (a :: as) ((u, v) :: pv) ((k, v) :: prs)
theorem RowsAt.len {P : Program} {w : World} {h : Heap} {as : List Addr} {pv : List (Value × Value)} {prs : List (Key × Value)} (r : RowsAt P w h as pv prs) : as.length = pv.length ∧ prs.length = pv.length := by
  induction r with
  | nil => exact ⟨rfl, rfl⟩
  | cons _ _ _ ih => exact ⟨congrArg Nat.succ ih.1, congrArg Nat.succ ih.2⟩
theorem RowsAt.get {P : Program} {w : World} {h : Heap} {as : List Addr} {pv : List (Value × Value)} {prs : List (Key × Value)} (r : RowsAt P w h as pv prs) : ∀ (j : Nat) (u v : Value), pv[j]? = some (u, v) → ∃ a k, as[j]? = some a ∧ PairAt h a u v ∧ prs[j]? = some (k, v) ∧ keyIs k u = true := by
  induction r with
  | nil => intro j u v e; simp at e
  | cons h1 h2 _ ih =>
    intro j u v e
    cases j with
    | zero =>
      simp only [List.getElem?_cons_zero, Option.some.injEq, Prod.mk.injEq] at e
      obtain ⟨rfl, rfl⟩ := e
      exact ⟨_, _, rfl, h1, rfl, h2⟩
    | succ j =>
      obtain ⟨a, k, q1, q2, q3, q4⟩ := ih j u v (by simpa using e)
      exact ⟨a, k, by simpa using q1, q2, by simpa using q3, q4⟩
section
variable {X : Cx} {g : Gc}
end
end FL
set_option Elab.async false
set_option linter.all false
set_option maxRecDepth 100000
set_option maxHeartbeats 2000000
namespace FL
open PySem PySem.Spec PyProof.Rows L2
def eF0 (F : List FL.D → VH → Out FL.D) : FE := fun _ h => F [] h
section
variable {X : Cx} {g : Gc} {W : WX}
@[simp] theorem ap_eF0 {F : List FL.D → VH → Out FL.D} {δ : DS} {h : VH} : eF0 F δ h = F [] h := (rfl)
end
end FL
set_option Elab.async false
set_option linter.all false
set_option maxRecDepth 100000
set_option maxHeartbeats 2000000
namespace FL
open PySem
def nubN (l : List (List Nat)) : List (List Nat) := l.foldl insN []
theorem insN_len (l : List (List Nat)) (k : List Nat) : (insN l k).length ≤ l.length + 1 := by
  unfold insN
  split
  · omega
  · simp
theorem scT_of {α : Type} {g : FG} {t : FT} {e : FE} {own : List Nat} {δ : DS} {h : VH} (en : α → D) (f : α → List Nat) : ∀ (xs : List α) (acc : List (List Nat)), acc.length + xs.length ≤ 4095 →
    (∀ x ∈ xs, ∃ δ1, g (en x) (wipe δ own) h = some (δ1, h) ∧ t δ1 h = .ok true h ∧ e δ1 h = .ok (.str (f x)) h) → scT g t e own δ (xs.map en) h acc = .ok (xs.foldl (fun a x => insN a (f x)) acc) h
  | [], acc, _, _ => rfl
  | x :: xs, acc, hl, H => by
    obtain ⟨δ1, e1, e2, e3⟩ := H x List.mem_cons_self
    rw [List.length_cons] at hl
    have hi := insN_len acc (f x)
    rw [List.map_cons]
    unfold scT
    rw [e1]
    dsimp only
    rw [e2]
    dsimp only
    rw [e3]
    dsimp only
    rw [if_pos (by omega), scT_of en f xs _ (by omega) fun y hy => H y (List.mem_cons_of_mem _ hy)]
    rfl
@[simp] theorem ap_eSc {fin : List (List Nat) → D} {a : FE} {g : FG} {t : FT} {e : FE} {own : List Nat} {δ : DS} {h : VH} : eSc fin a g t e own δ h = (a δ h).bind fun x h => match itOf x with
    | some xs => scEnd fin (scT g t e own δ xs h [])
    | none => .bad := (rfl)
theorem take_succ_flat {α β : Type} {l : List α} {k : Nat} {x : α} (f : α → List β) (hx : l[k]? = some x) : (l.take (k + 1)).flatMap f = (l.take k).flatMap f ++ f x := by
  rw [List.take_add_one, hx, List.flatMap_append]
  simp
end FL
set_option Elab.async false
set_option linter.all false
set_option maxRecDepth 100000
set_option maxHeartbeats 2000000
namespace FL
open PySem PySem.Spec PyProof.Rows L2
theorem KeyD.bot {P : Program} {w : World} {K : PySem.W.Frag} {mg : Str → Option Value} {base : Heap} {g : Gc} {k : Nat} {cs : List (Addr × Addr)} {x : Str} {st : Stmt} {ps : List Str} {q : Str} (D : KeyD K mg g cs x st ps q) : Df P w K mg base g k x (fun _ _ => .bad) := by
  obtain ⟨f, c, Pt, oc, kV, doc, pm, ct, od, an, osl, l, cd, m, kp, b, h1, h2, h3⟩ := D.ex
  have Fn : L2.Fun K x x st f _ := fun_mk l cd kp
  exact Df.bot Fn m b
end FL
set_option Elab.async false
set_option linter.all false
set_option maxRecDepth 100000
set_option maxHeartbeats 2000000
namespace FL
open PySem PySem.Spec PyProof.Rows L2
def isDc : D → VH → Bool := fun x h => match x with
  | .ref k => (match h[k]? with | some (.dct _) => true | _ => false)
  | _ => false
def mSetd : D → List D → VH → Option (D × VH)
  | .ref k, [i, x], h => match h[k]? with
    | some (.dct kvs) => if isKey i = true ∧ kvs.length < 16777216 then (match dGet kvs i with
      | some v => some (v, h)
      | none => some (x, h.set k (.dct (dPut kvs i x)))) else none
    | _ => none
  | _, _, _ => none
section
variable {X : Cx} {g : Gc}
theorem ty_dct : TyOk X g "dict" isDc := by
  intro pins s σ H m h x v u I S r e rv
  cases r with
  | ref hk =>
    rename_i k
    simp only [isDc] at e
    split at e
    · rename_i kvs hx
      obtain ⟨vs, a1, b1⟩ := S.obj k _ hx
      cases (show u = Value.ref (m k) from rv)
      obtain ⟨t1, t2, _⟩ := isD_at I (.inl ⟨vs, .of a1⟩)
      exact ⟨t1, t2⟩
    · cases e
  | _ => cases e
theorem mr_setd : MtR X "dict.setdefault" (rM X.K g mSetd) := by
  intro pins s σ H x xs v us Q I rx rxs q
  obtain ⟨m, h, d, ds, sm, r1, rs, q⟩ := q
  unfold mSetd at q
  split at q
  · rename_i k i x
    cases rs with
    | cons ri rs =>
      obtain ⟨w, rfl, rw'⟩ := rds1 rs
      cases r1 with
      | ref hk =>
        split at q
        · rename_i kvs hx
          split at q
          · rename_i hkey
            obtain ⟨vs, a1, b1⟩ := sm.obj k _ hx
            obtain ⟨kk, rfl, rfl, hok⟩ := key_of ri hkey.1
            obtain ⟨g1, g2⟩ := rks_get kk b1
            cases rxs with
            | cons ry rxs =>
              cases rxs with
              | cons ru rxn =>
              cases rxn
              cases (show v = Value.ref (m k) from rx)
              obtain ⟨z, hd, vs0, rel, dd⟩ := dk_of I.hok a1
              have hz : vs0.length ≤ sizeLine := by rw [← rel.length]; exact z
              have hT := dd.typeIs
              refine call_meetsIn PySem.F.slot_dict_setdefault hT PySem.F.entry_dict_setdefault (PySem.F.args_dict_setdefault_3 _ _ _) (kt_meets_setdefault (mixKind X.prog X.w) _ (kV_is ry) hd _) ⟨vs0, dd, hz, fun u0 hu0 => ?_, fun hn h' dd' hs => ?_⟩
              · have rr := rel.val kk
                rw [hu0] at rr
                cases hv : valV vs kk with
                | none => rw [hv] at rr; exact False.elim rr
                | some y =>
                  rw [hv] at rr
                  cases hg : dGet kvs (kD kk) with
                  | none => rw [g2 hg] at hv; cases hv
                  | some y' =>
                    rw [hg] at q
                    obtain ⟨w2, hw2, rw2⟩ := g1 y' hg
                    rw [hv] at hw2
                    cases hw2
                    exact (⟨y, H, I.tok _, rr, q m H _ Ext.refl sm rw2⟩ : EP X pins σ Q u0 _)
              · have rr := rel.val kk
                rw [hn] at rr
                cases hv : valV vs kk with
                | some y => rw [hv] at rr; exact False.elim rr
                | none =>
                  cases hg : dGet kvs (kD kk) with
                  | some y' =>
                    obtain ⟨w2, hw2, _⟩ := g1 y' hg
                    rw [hv] at hw2
                    cases hw2
                  | none =>
                    rw [hg] at q
                    have hl2 : (putK vs kk w).length ≤ sizeLine := by
                      have := length_putK vs kk w
                      have e1 := rks_len b1
                      have e2 := hkey.2
                      rw [sizeLine_eq]
                      omega
                    obtain ⟨e2, s2⟩ := Sim.write_dct sm hx (rks_put kk hok rw' b1 (knd_of I a1))
                    exact (⟨w, _, d_write (t' := s.toks + 1) I (by rw [a1]; exact True.intro) hs (let ⟨q, _, _, hq, _⟩ := dd'; ⟨q, hq⟩) (dk_new hl2 hd (rel.put kk ru) dd'), ru, q m _ _ e2 s2 (e2.rd rw')⟩ : EP X pins σ Q _ _)
          · exact q.elim
        · exact q.elim
  · exact q.elim
end
end FL
set_option Elab.async false
set_option linter.all false
set_option maxRecDepth 100000
set_option maxHeartbeats 2000000
namespace FL
open PySem PySem.Spec PyProof.Rows L2 GenW
section
variable {X : Cx} {g : Gc} {W : WX} {f : FG} {ft : FT} {fe : FE} {sl : List Nat} {elt tg a b : Expr} {ifs : List Expr} {scope : Scope} {own : List (Str × Nat)} {pos gpos p p2 pos' : Pos} {r : FA} {cc : Bool} {k : Nat} {c P : Addr}
theorem st_rng {δ : DS} {σ : L2.St} {m : Nat → Addr} {h : VH} {H : Hp} {n : Nat} {Q : VK} (hn : ALen r n) (rr : RS X.K m h.length H δ σ) (s : Sim X.K g m h H) (q : GoodE X.K g (fun c d H' => W c d σ H') m h.length H Q (eStR cc r f ft fe sl δ h)) {R : List V → Hp → Prop}
    (hR : ∀ xs vs h1 m1 H1 i j, Ext m h.length H m1 h1.length H1 → Sim X.K g m1 h1 H1 → RDs X.K m1 h1.length H1 xs vs → xs.length = n → rEnds xs = some (i, j) → GW X.K g sl f ft fe cc δ σ Q (Itr i (j - i).toNat) H1 → R vs H1) : FL.ra X.K g W r σ H R := by
  refine ⟨δ, m, h, rr, s, ?_⟩
  have q : GoodE X.K g (fun c d H' => W c d σ H') m h.length H Q ((r δ h).bind fun xs h => match rEnds xs with
    | some (i, j) => stEnd (stT cc f ft fe sl δ (rng i j) h)
    | none => .bad) := q
  cases er : r δ h with
  | bad => rw [er] at q; exact q
  | err c p h1 => rw [er] at q; exact q
  | ok xs h1 =>
    rw [er] at q
    intro m1 H1 e1 s1 vs r1
    have q : GoodE X.K g (fun c d H' => W c d σ H') m h.length H Q (match rEnds xs with
      | some (i, j) => stEnd (stT cc f ft fe sl δ (rng i j) h1)
      | none => .bad) := q
    cases ee : rEnds xs with
    | none => rw [ee] at q; exact q.elim
    | some p =>
      obtain ⟨i, j⟩ := p
      rw [ee] at q
      have q : GoodE X.K g (fun c d H' => W c d σ H') m h.length H Q (stEnd (stT cc f ft fe sl δ (rng i j) h1)) := q
      exact hR xs vs h1 m1 H1 i j e1 s1 r1 (hn _ _ _ _ er) ee ⟨_, _, _, m1, h1, tree_rng, trivial, e1.rs rr, s1, rng_rel i _, st_fin (Gd.from e1 q)⟩
theorem rd_stR1 (hn : ALen r 1) : ∀ σ H Q, rd X.K g W (eStR cc r f ft fe sl) σ H Q → ∃ δ, iRng1 (FL.ra X.K g W r) σ H (GW X.K g sl f ft fe cc δ σ Q) := by
  rintro σ H Q ⟨δ, m, h, rr, s, q⟩
  refine ⟨δ, st_rng hn rr s q fun xs vs h1 m1 H1 i j e1 s1 r1 hl ee w => ?_⟩
  obtain ⟨e2, e3, e4, e5⟩ := rEnds1 r1 ee hl
  subst e3
  exact ⟨j, e2, e4, e5, by simpa using w⟩
theorem fe_allGR1 (hm : X.mg "all" = none) (hmr : X.mg "range" = none) (TB : LamX.TabB X.base X.mg c P) (hcode : X.env.code = .ref c) (hmT : (P, X.env.qual ++ "<genexpr>") ∈ g.T) (hu : ∀ p ∈ g.T, p.1 = P → p.2 = X.env.qual ++ "<genexpr>") (hN : X.N.Nodup) (hr : Room (k + 1 + 1 + 1) X.A) (ha : PA X [a] (FL.ra X.K g W r)) (hn : ALen r 1) (G : GenP X g k elt tg ifs scope own f ft fe) (hsl : own.map (·.2) = sl := by rfl) (hgl : Gl X "all" := by rfl) (hglr : Gl X "range" := by rfl) (hst : starEach [a] X.env = [(false, eval a X.env)] := by rfl)
    (hs : ∀ v, genFold (.Call (.Name "range" p2) [a] [] pos') X.env v = pure v := by intro _; rfl)
    (he : starEach [.GeneratorExp elt [⟨tg, .Call (.Name "range" p2) [a] [] pos', ifs, 0⟩] scope gpos] X.env = (false, eval (.GeneratorExp elt [⟨tg, .Call (.Name "range" p2) [a] [] pos', ifs, 0⟩] scope gpos) X.env) :: starEach [] X.env := by rfl) :
    PE X (.Call (.Name "all" p) [.GeneratorExp elt [⟨tg, .Call (.Name "range" p2) [a] [] pos', ifs, 0⟩] scope gpos] [] pos) (rd X.K g W (eStR false r f ft fe sl)) := by
  subst hsl
  refine ⟨fun pins s σ H Q I hh => ?_⟩
  obtain ⟨δ, hw⟩ := rd_stR1 hn σ H Q hh
  refine wpAny_Call_Name_kw (ld_blt I hgl hm (u := .builtin "all") (by decide +kernel) ?_)
  refine PyProof.Rows.callWith_builtin1 ?_ he (by rfl)
  rw [he]
  show wpAny _ _ (spliced ((false, eval (.GeneratorExp elt [⟨tg, .Call (.Name "range" p2) [a] [] pos', ifs, 0⟩] scope gpos) X.env) :: backTo pos (starEach [] X.env))) _ _ s
  refine Calls.spliced_cons (gx_make (A := X.A.in1.in1) (g := g) hr hN hr.hd I.ok.frames TB hcode hmT hu G.C G.h0 (pi_range1 hglr hmr ha hst) hs I hw (fun J H2 w => w.tabs) fun s4 H2 H4 fp it tn J a gn ob code s5 w e t GM => ?_)
  exact Calls.spliced_nil (gx_all hr G GM (w.ext e t))
end
@[simp] theorem ap_eStR {c : Bool} {r : FA} {g : FG} {t : FT} {e : FE} {own : List Nat} {δ : DS} {h : VH} : eStR c r g t e own δ h = (r δ h).bind fun xs h => match rEnds xs with
  | some (i, j) => stEnd (stT c g t e own δ (rng i j) h)
  | none => .bad := (rfl)
end FL
set_option Elab.async false
set_option linter.all false
set_option maxRecDepth 100000
set_option maxHeartbeats 2000000
namespace FL
open PySem PySem.Spec PyProof.Rows L2
def cLtD : Op2 := fun x y h => match x, y with
  | .tup xs, .tup ys => (match allS ([D.tup xs, D.tup ys].map (toP deep h)) with
    | some [a, b] => if (PySem.W.alike a b && isTupC a) = true then some (.bl (PySem.W.dataLt a b), h) else none
    | _ => none)
  | x, y => cLt x y h
section
variable {X : Cx} {g : Gc}
theorem or_ltD (hu : X.A.units + 64 < cLine) : OpR X (compareOp .Lt) (rO2 X.K g cLtD) := by
  rintro pins st σ H x y v u Q I rx ry ⟨m, h, d, e, s, r1, r2, q⟩
  unfold cLtD at q
  split at q
  · rename_i xs ys
    split at q
    · rename_i a b hl
      split at q
      · rename_i hc
        rw [Bool.and_eq_true] at hc
        obtain ⟨er, dp⟩ := each_read (xs := [D.tup xs, D.tup ys]) I s (.cons r1 (.cons r2 .nil)) (.cons rx (.cons ry .nil)) hl
        cases er with
        | cons ea er =>
          cases er with
          | cons eb _ =>
            obtain ⟨as, ra⟩ := ea
            obtain ⟨bs, rb⟩ := eb
            have d1 : a.depth ≤ 12 := dp (D.tup xs, a) (by simp)
            refine PySem.W.lt_data ra rb hc.1 (fun z => ?_) (by
              have := Nat.min_le_left a.depth b.depth
              show X.A.units + min a.depth b.depth < cLine
              omega) ?_
            · have z : a = .none := z
              rw [z] at hc; exact absurd hc.2 (by decide)
            · exact ⟨.bl _, H, I, rfl, q m H _ Ext.refl s (.bl _)⟩
      · exact q.elim
    · exact q.elim
  · exact or_lt pins st σ H x y v u Q I rx ry ⟨m, h, _, _, s, r1, r2, q⟩
end
end FL
set_option Elab.async false
set_option linter.all false
set_option maxRecDepth 100000
set_option maxHeartbeats 2000000
namespace FL
open PySem PySem.Spec PyProof.Rows L2
section
variable {X : Cx} {g : Gc}
end
end FL
set_option Elab.async false
set_option linter.all false
set_option maxRecDepth 100000
set_option maxHeartbeats 2000000
namespace FL
open PySem PySem.Spec PyProof.Rows L2
theorem un_lock {fs ex : List Addr} {H H1 : Hp} {h h1 : Heap} {p : Addr} {w : HO} {od : Obj} (u : Un fs ex H H1 h h1) (e : H1 p = some w) (mu : L2.Mut (some w)) : Un fs ex H (upd H1 p (.frz od w)) h h1 where
  keep := u.keep
  slot := u.slot
  free := fun b o h1 h2 h3 => by
    have q := u.free b o h1 h2 h3
    rw [upd_ne (fun z => by rw [z, e] at q; cases q)]
    exact q
  there := u.there
  tups := fun b xs h1 => by
    have q := u.tups b xs h1
    rw [upd_ne (fun z => by rw [z, e] at q; cases q; exact mu)]
    exact q
  frzs := fun b o v h1 => by
    have q := u.frzs b o v h1
    rw [upd_ne (fun z => by rw [z, e] at q; cases q; exact mu)]
    exact q
  tbls := fun b ps h1 => by
    obtain ⟨more, q⟩ := u.tbls b ps h1
    refine ⟨more, ?_⟩
    rw [upd_ne (fun z => by rw [z, e] at q; cases q; exact mu)]
    exact q
theorem hok_lock {P : Program} {w : World} {H : Hp} {h : Heap} {d : Addr} {u : HO} (I : HOk P w H h) (e : H d = some u) (mu : L2.Mut (some u)) : ∃ od, HOk P w (upd H d (.frz od u)) h := by
  have x := I d u e
  have ex : ∃ od, h.get? d = some od := by
    cases u with
    | lst xs => obtain ⟨_, _, _, _, e⟩ := x; exact ⟨_, e⟩
    | dK kvs => obtain ⟨_, _, _, _, o, _, _, e, _⟩ := x; exact ⟨o, e⟩
    | dT kvs => obtain ⟨_, _, _, _, o, _, _, e, _⟩ := x; exact ⟨o, e⟩
    | set S n => obtain ⟨o, _, _, _, e, _⟩ := x; exact ⟨o, e⟩
    | ins C dx fs => obtain ⟨_, _, _, e, _⟩ := x; exact ⟨_, e⟩
    | ext φ => obtain ⟨_, ⟨_, e⟩, _⟩ := x; exact ⟨_, e⟩
    | _ => exact False.elim mu
  obtain ⟨od, eo⟩ := ex
  have st : ∀ (b : Addr) (v : HO), ObjOk P w H h b v → ObjOk P w (upd H d (.frz od u)) h b v := fun b v y => y.stay (fun b v _ q => q) (fun b q => by
    rw [upd_ne (fun z => by rw [z, e] at q; cases q; exact mu)]; exact q) fun b xs q => by
    rw [upd_ne (fun z => by rw [z, e] at q; cases q; exact mu)]; exact q
  refine ⟨od, fun b v q => ?_⟩
  by_cases hb : b = d
  · subst hb
    rw [upd_same] at q
    cases q
    exact ⟨eo, st _ _ x⟩
  · rw [upd_ne hb] at q
    exact st b v (I b v q)
theorem ce_fz {outer : List Env} {P : Program} {w : World} {H : Hp} {s s' : Shared} {Q : VK} {u : Value} (q : CE outer P w H s (FzQ Q) u s') : CE outer P w H s Q u s' := by
  obtain ⟨v, H', h1, h2, h3, h4, h5, h6⟩ := q
  have h6 : FzP (Q v) H' := h6
  induction h6 with
  | base z => exact ⟨v, _, h1, h2, h3, h4, h5, z⟩
  | lock p x e mu z ih =>
    obtain ⟨od, h4'⟩ := hok_lock h4 e mu
    exact ih od (un_lock h3 e mu) h4' (z od)
theorem FnOk.fz {P : Program} {w : World} {K : PySem.W.Frag} {mg : Str → Option Value} {base : Heap} {CX : CXT} {k : Nat} {f : Addr} {fd : FuncData} {ps : List Str} {sp : Sp} (F : FnOk P w K mg base CX k f fd ps sp) : FnOk P w K mg base CX k f fd ps (fun vs H Q E => sp vs H (FzQ Q) E) :=
  ⟨fun vs H Q E q => F.len vs H (FzQ Q) E q, fun A outer s H args us vs Q E hr e0 hb rv q => codeAny_mono (F.run A outer s H args us vs (FzQ Q) E hr e0 hb rv q) fun r s' z => by
    cases r with
    | ok v =>
      cases v with
      | ret u => exact ce_fz z
      | _ => exact z
    | error e => exact z⟩
end FL
set_option Elab.async false
set_option linter.all false
set_option maxRecDepth 100000
set_option maxHeartbeats 2000000
namespace FL
open PySem PySem.Spec PyProof.Rows L2
def fzD (n : Nat) (h1 : VH) : Nat → D → Option D
  | 0, d => if bnd n d = true then some d else none
  | f + 1, d => if bnd n d = true then some d else match d with
    | .ref k => match h1[k]? with
      | some (.lst xs) => match allS (xs.map (fzD n h1 f)) with
        | some l => some (.fls l)
        | none => none
      | some (.dct kvs) => match allS (kvs.map fun p => fzD n h1 f p.2) with
        | some l => some (.fdc (kvs.map (·.1)) l)
        | none => none
      | _ => none
    | _ => none
theorem fz_all {T : List (Addr × Str)} {P : Hp → Prop} : ∀ (L : List Addr) (H : Hp), L.Nodup → (∀ a ∈ L, ∃ u, H a = some u ∧ L2.Mut (some u) ∧ (∀ q, u ≠ LamX.CodeO a q)) → LamX.Tabs T H → (∀ H' : Hp, (∀ a ∈ L, ∀ u, H a = some u → ∃ o, H' a = some (.frz o u)) → (∀ a, a ∉ L → H' a = H a) → LamX.Tabs T H' → P H') → FzP P H
  | [], H, _, _, t, q => .base (q H (fun a ha => absurd ha List.not_mem_nil) (fun _ _ => rfl) t)
  | a :: L, H, nd, ex, t, q => by
    obtain ⟨u, hu, mu, hc⟩ := ex a List.mem_cons_self
    have nd := List.nodup_cons.mp nd
    refine .lock a u hu mu fun o => fz_all L (upd H a (.frz o u)) nd.2 (fun b hb => ?_) (tabs_upd t (fun ps z => by rw [hu] at z; cases z; exact mu) (fun q z => by rw [hu] at z; exact hc q (Option.some.inj z))) fun H' h1 h2 t' => q H' (fun b hb w hw => ?_) (fun b hb => ?_) t'
    · obtain ⟨x, hx, mx, hx2⟩ := ex b (List.mem_cons_of_mem _ hb)
      exact ⟨x, by rw [upd_ne (fun z => nd.1 (by rw [← z]; exact hb))]; exact hx, mx, hx2⟩
    · rcases List.mem_cons.mp hb with rfl | hb'
      · rw [hu] at hw
        cases hw
        exact ⟨o, by rw [h2 _ nd.1, upd_same]⟩
      · exact h1 b hb' w (by rw [upd_ne (fun z => nd.1 (by rw [← z]; exact hb'))]; exact hw)
    · rw [h2 b (fun z => hb (List.mem_cons_of_mem _ z)), upd_ne (fun z => hb (by rw [z]; exact List.mem_cons_self))]
section
variable {K : PySem.W.Frag} {g : Gc} {m m0 : Nat → Addr} {n : Nat} {H H' : Hp} {h : VH}
def notFk : O → Bool
  | .fdk _ => false
  | .nkd _ => false
  | _ => true
theorem RO.nocode {a : Addr} : ∀ {o : O}, notFk o = true → RO K g m n H a o → ∃ u, H a = Option.some u ∧ L2.Mut (Option.some u) ∧ ∀ q, u ≠ LamX.CodeO a q
  | .lst xs, _, ⟨vs, h1, _⟩ => ⟨_, h1, trivial, fun q z => by unfold LamX.CodeO at z; cases z⟩
  | .dct xs, _, ⟨vs, h1, _⟩ => ⟨_, h1, trivial, fun q z => by unfold LamX.CodeO at z; cases z⟩
  | .ins c xs, _, ⟨C, dx, vs, _, h1, _⟩ => ⟨_, h1, trivial, fun q z => by unfold LamX.CodeO at z; cases z⟩
theorem RD.less {d : D} {v : V} (b : FL.bnd n d = true) (r : RD K m h.length H d v) : RD K m n H d v := by
  have e : FL.ren _root_.id d = d := ren.id (n := n) (fun _ _ => rfl) d b
  rw [← e] at r
  exact RD.ren (ρ := _root_.id) d v b r
theorem RO.less {a : Addr} {o : O} (b : bndO n o = true) (r : RO K g m h.length H a o) : RO K g m n H a o := by
  have e : renO _root_.id o = o := renO.id (n := n) (fun _ _ => rfl) o b
  rw [← e] at r
  exact RO.ren (ρ := _root_.id) o b r
theorem rks_ks : ∀ {kvs : List (D × D)} {vs : List (Key × V)}, RKs K m n H kvs vs → kvs.map (·.1) = vs.map (fun p => kD p.1) ∧ ∀ p ∈ vs, okK p.1 = true
  | _, _, .nil => ⟨rfl, fun p hp => absurd hp List.not_mem_nil⟩
  | _, _, .cons h0 h1 h2 => by
    obtain ⟨a, b⟩ := rks_ks h2
    refine ⟨by rw [List.map_cons, List.map_cons, a], fun p hp => ?_⟩
    rcases List.mem_cons.mp hp with rfl | hp
    · exact h0
    · exact b p hp
theorem rks_vals : ∀ {kvs : List (D × D)} {vs : List (Key × V)}, RKs K m n H kvs vs → RDs K m n H (kvs.map (·.2)) (vs.map (·.2))
  | _, _, .nil => .nil
  | _, _, .cons h0 h1 h2 => .cons h1 (rks_vals h2)
theorem rd_fz (s : Sim K g m h H) (hn : n ≤ h.length) (im : Imm H H') (hm : ∀ k, k < n → m0 k = m k) (hF : ∀ k u, n ≤ k → k < h.length → H (m k) = some u → ∃ o, H' (m k) = some (.frz o u)) : ∀ (f : Nat) (d d' : D) (v : V), fzD n h f d = some d' → RD K m h.length H d v → RD K m0 n H' d' v := by
  have base : ∀ (d d' : D) (v : V), bnd n d = true → d = d' → RD K m h.length H d v → RD K m0 n H' d' v := fun d d' v b e r => by
    subst e
    exact RD.mono (Nat.le_refl _) hm im _ _ (r.less b)
  intro f
  induction f with
  | zero =>
    intro d d' v e r
    unfold fzD at e
    split at e
    · rename_i b
      exact base d d' v b (Option.some.inj e) r
    · cases e
  | succ f ih =>
    have ihs : ∀ (xs l : List D) (vs : List V), allS (xs.map (fzD n h f)) = some l → RDs K m h.length H xs vs → RDs K m0 n H' l vs := by
      intro xs
      induction xs with
      | nil =>
        intro l vs e r
        cases r
        simp [allS] at e
        subst e
        exact .nil
      | cons x xs ihx =>
        intro l vs e r
        cases r with
        | cons r1 r2 =>
          rw [List.map_cons] at e
          obtain ⟨y, l', e1, e2, e3⟩ := allS_cons e
          subst e3
          exact .cons (ih _ _ _ e1 r1) (ihx _ _ e2 r2)
    intro d d' v e r
    unfold fzD at e
    split at e
    · rename_i b
      exact base d d' v b (Option.some.inj e) r
    · rename_i b
      split at e
      · rename_i k
        cases r with
        | ref hk =>
          have hnk : n ≤ k := Nat.le_of_not_lt fun z => b (by unfold bnd; exact decide_eq_true z)
          split at e
          · rename_i xs hx
            split at e
            · rename_i l hl
              cases e
              obtain ⟨vs, a1, b1⟩ := s.obj k _ hx
              obtain ⟨o, ho⟩ := hF k _ hnk hk a1
              exact .fls (.inl ⟨o, ho⟩) (ihs _ _ _ hl b1)
            · cases e
          · rename_i kvs hx
            split at e
            · rename_i l hl
              cases e
              obtain ⟨vs, a1, b1⟩ := s.obj k _ hx
              obtain ⟨o, ho⟩ := hF k _ hnk hk a1
              obtain ⟨k1, k2⟩ := rks_ks b1
              refine .fdc ho k1 k2 (ihs (kvs.map (·.2)) _ _ (by rw [List.map_map]; exact hl) ?_)
              exact rks_vals b1
            · cases e
          · cases e
      · cases e
end
inductive Fz (h : VH) : Out D → Out D → Prop
  | ok {f : Nat} {d d' : D} {g : VH} : g.all notFk = true → fzD h.length (h ++ g) f d = some d' → Fz h (.ok d (h ++ g)) (.ok d' h)
  | err {c : Nat} {g : VH} : Fz h (.err c none (h ++ g)) (.err c none h)
  | bad {o : Out D} : Fz h o .bad
theorem Gd.mono {α : Type} {K : PySem.W.Frag} {g : Gc} {W : Value → Option Addr → Hp → Prop} {m : Nat → Addr} {n : Nat} {H : Hp} {P P' : α → (Nat → Addr) → Nat → Hp → Prop} {o : Out α} (x : Gd K g W m n H P o) (hP : ∀ a m' n' H', P a m' n' H' → P' a m' n' H') : Gd K g W m n H P' o := x.imp (fun a m' n' H' _ => hP a m' n' H') fun _ _ _ z => z
theorem Gd.fz {K : PySem.W.Frag} {g : Gc} {W : Value → Option Addr → Hp → Prop} {m : Nat → Addr} {h : VH} {H : Hp} {Q : VK} {o1 o2 : Out D} (s : Sim K g m h H) (c : Fz h o1 o2) (q : GoodE K g W m h.length H Q o2) : GoodE K g W m h.length H (FzQ Q) o1 := by
  cases c with
  | bad => exact q.elim
  | err => exact (Gd.cl (Cl.e s.wf) q).mono fun a m' n' H' z v r => .base (z v r)
  | ok nf e =>
    rename_i f d d' g1
    intro m1 H1 e1 s1 v r
    have hl : (h ++ g1).length = h.length + g1.length := List.length_append
    have hlt : ∀ a, a ∈ (List.range g1.length).map (fun k => m1 (h.length + k)) ↔ ∃ k, h.length ≤ k ∧ k < (h ++ g1).length ∧ m1 k = a := fun a => by
      rw [List.mem_map]
      constructor
      · rintro ⟨k, hk, rfl⟩
        exact ⟨h.length + k, by omega, by rw [hl]; have := List.mem_range.mp hk; omega, rfl⟩
      · rintro ⟨k, h1, h2, rfl⟩
        exact ⟨k - h.length, List.mem_range.mpr (by rw [hl] at h2; omega), by rw [Nat.add_sub_cancel' h1]⟩
    refine fz_all (T := g.T) ((List.range g1.length).map (fun k => m1 (h.length + k))) H1 ?_ (fun a ha => ?_) s1.tab fun H' f1 f2 t' => ?_
    · refine List.Pairwise.map (R := fun a b => a < b ∧ a < g1.length ∧ b < g1.length) (fun k => m1 (h.length + k)) (fun a b hab z => ?_) ?_
      · have := s1.inj _ _ (by rw [hl]; omega) (by rw [hl]; omega) z
        omega
      · refine List.Pairwise.imp_of_mem (fun {a b} ha hb hab => ⟨hab, List.mem_range.mp ha, List.mem_range.mp hb⟩) List.pairwise_lt_range
    · obtain ⟨k, h1, h2, rfl⟩ := (hlt a).mp ha
      refine RO.nocode ?_ (s1.obj k _ (List.getElem?_eq_getElem h2))
      rw [List.getElem_append_right h1]
      exact List.all_eq_true.mp nf _ (List.getElem_mem _)
    · have hF : ∀ k u, h.length ≤ k → k < (h ++ g1).length → H1 (m1 k) = some u → ∃ o, H' (m1 k) = some (.frz o u) := fun k u h1 h2 hu => f1 _ ((hlt _).mpr ⟨k, h1, h2, rfl⟩) u hu
      have stay : ∀ a, (∀ k, h.length ≤ k → k < (h ++ g1).length → m1 k ≠ a) → H' a = H1 a := fun a ha => f2 a fun z => by
        obtain ⟨k, h1, h2, e⟩ := (hlt a).mp z
        exact ha k h1 h2 e
      have mtb : ∀ k, h.length ≤ k → k < (h ++ g1).length → ∃ u, H1 (m1 k) = some u ∧ L2.Mut (some u) := fun k h1 h2 => by
        obtain ⟨u, a, b, _⟩ := RO.nocode (by rw [List.getElem_append_right h1]; exact List.all_eq_true.mp nf _ (List.getElem_mem _)) (s1.obj k _ (List.getElem?_eq_getElem h2))
        exact ⟨u, a, b⟩
      have im1 : Imm H1 H' := ⟨fun a xs z => by
        rw [stay a fun k h1 h2 e => by
          obtain ⟨u, hu, mu⟩ := mtb k h1 h2
          rw [e, z] at hu; cases hu; exact mu]
        exact z, fun a o u z => by
        rw [stay a fun k h1 h2 e => by
          obtain ⟨u, hu, mu⟩ := mtb k h1 h2
          rw [e, z] at hu; cases hu; exact mu]
        exact z, fun a q z => by
        rw [stay a fun k h1 h2 e => by
          obtain ⟨u, a', b', hq⟩ := RO.nocode (by rw [List.getElem_append_right h1]; exact List.all_eq_true.mp nf _ (List.getElem_mem _)) (s1.obj k _ (List.getElem?_eq_getElem h2))
          rw [e, z] at a'
          rw [e] at hq
          exact hq q (Option.some.inj a').symm]
        exact z⟩
      have ex : Ext m h.length H m h.length H' := ⟨Nat.le_refl _, fun _ _ => rfl, e1.im.trans im1, fun a o ha hb hf => by
        have z := e1.fr a o ha hb hf
        rw [stay a fun k h1 h2 e => by
          have y := e1.nw k h1 h2
          rw [e, hb] at y
          exact Fre.no y hf]
        exact z, fun k h1 h2 => by omega, fun a z => by
        by_cases hk : ∃ k, h.length ≤ k ∧ k < (h ++ g1).length ∧ m1 k = a
        · obtain ⟨k, h1, h2, rfl⟩ := hk
          obtain ⟨u, hu, mu⟩ := mtb k h1 h2
          obtain ⟨o, ho⟩ := hF k u h1 h2 hu
          rw [ho] at z
          exact z.elim
        · rw [stay a fun k h1 h2 e => hk ⟨k, h1, h2, e⟩] at z
          exact e1.al a z⟩
      have sm : Sim K g m h H' := ⟨s.inj, fun i o hi => by
        have hil : i < h.length := (List.getElem?_eq_some_iff.mp hi).1
        have hi1 : (h ++ g1)[i]? = some o := by rw [List.getElem?_append_left hil]; exact hi
        have b := s.wf o (List.mem_of_getElem? hi)
        have x := (s1.obj i o hi1).less b
        rw [e1.eq i hil] at x
        refine x.mono (Nat.le_refl _) (fun k hk => (e1.eq k hk).symm) im1 (stay _ fun k h1 h2 z => ?_)
        rw [← e1.eq i hil] at z
        have := s1.inj _ _ h2 (by rw [hl]; omega) z
        omega, t'⟩
      exact q m H' ex sm v (rd_fz s1 (by rw [hl]; omega) im1 (fun k hk => (e1.eq k hk).symm) hF f d d' v e r)
theorem Df.frz {P : Program} {w : World} {K : PySem.W.Frag} {mg : Str → Option Value} {base : Heap} {g : Gc} {k : Nat} {x : Str} {F F' : List D → VH → Out D} (d : Df P w K mg base g k x F) (h : ∀ xs h, wf h → bnds h.length xs = true → Fz h (F xs h) (F' xs h)) : Df P w K mg base g k x F' := by
  obtain ⟨f, fd, ps, h1, h2, h3, h4⟩ := d.ex
  exact ⟨f, fd, ps, h1, h2, h3, FL.FnOk.impS (FnOk.fz h4) fun vs H Q E ⟨m, vh, xs, s, r, q⟩ => ⟨m, vh, xs, s, r, Gd.fz s (h xs vh s.wf (RDs.bnds _ _ r)) q⟩⟩
end FL
set_option Elab.async false
set_option linter.all false
set_option maxRecDepth 100000
set_option maxHeartbeats 2000000
namespace FL
open PySem PySem.Spec PyProof.Rows L2
abbrev yH (P : Program) (w : World) (k : List Str) : Int := tupleKeyHash (strKind P w) k
section
variable {P : Program} {w : World} {A : Around} {E : Value → Shared → Prop} {s : Shared}
structure SetYR (P : Program) (w : World) (h : Heap) (a : Addr) (L : List (Addr × List Str)) (es : Array (Int × Value)) (ep : Nat) (t : SetTable) : Prop where
  at_ : h.get? a = some (PySem.Froz.sObj "set" (es, ep, t))
  row : es.toList = L.map fun p => (yH P w p.2, Value.ref p.1)
  tbl : TabOk t (L.map fun p => yH P w p.2)
  one : (L.map (·.2)).Nodup
  ld : w.params.followText "set-order" = true ∨ t.led = true
  rm : L.length * 5 < t.mask * 3
  fw : L.length < 5
variable {a : Addr} {L : List (Addr × List Str)} {es : Array (Int × Value)} {ep : Nat} {t : SetTable}
theorem SetYR.sz (R : SetYR P w s.heap a L es ep t) : es.size = L.length := by
  have e := congrArg List.length R.row
  rwa [Array.length_toList, List.length_map] at e
theorem SetYR.fit (R : SetYR P w s.heap a L es ep t) : t.fits es.size = true := by
  have e1 := R.tbl.sz
  rw [List.length_map] at e1
  have e2 := R.sz
  have e3 := R.rm
  unfold SetTable.fits SetTable.fill
  rw [R.tbl.dm, Bool.and_eq_true, beq_iff_eq, decide_eq_true_eq]
  refine ⟨by omega, ?_⟩
  show t.place.size + 0 ≤ t.mask
  omega
end
end FL
set_option Elab.async false
set_option linter.all false
set_option maxRecDepth 100000
set_option maxHeartbeats 2000000
namespace FL
open PySem PySem.Spec PyProof.Rows L2
def SetYO (P : Program) (w : World) (a : Addr) (L : List (Addr × List Str)) : HO := .ext fun h => ∃ es ep t, SetYR P w h a L es ep t
theorem SetYR.keep {P : Program} {w : World} {h h' : Heap} {a : Addr} {L : List (Addr × List Str)} {es : Array (Int × Value)} {ep : Nat} {t : SetTable} (R : SetYR P w h a L es ep t) (k : ∀ o, h.get? a = some o → h'.get? a = some o) : SetYR P w h' a L es ep t :=
  ⟨k _ R.at_, R.row, R.tbl, R.one, R.ld, R.rm, R.fw⟩
theorem setYO_code {P : Program} {w : World} {a : Addr} {L : List (Addr × List Str)} {q : Str} : SetYO P w a L ≠ LamX.CodeO a q := fun z => by
  unfold SetYO LamX.CodeO at z
  injection z with z
  obtain ⟨h, hh⟩ := heap_with a { cls := .none, data := .fields #[.none, .str q 0] } rfl
  have e := congrFun z h
  have c : ∃ (oc : Obj) (vs : Array Value) (t : Tok), h.get? a = some oc ∧ oc.data = .fields vs ∧ vs[1]? = some (.str q t) := ⟨_, _, _, hh, rfl, rfl⟩
  rw [← e] at c
  obtain ⟨es, ep, t, r⟩ := c
  have ho := r.at_
  rw [hh] at ho
  have e2 := congrArg Obj.data (Option.some.inj ho)
  cases e2
section
variable {X : Cx}
end
section
variable {X : Cx}
end
end FL
set_option Elab.async false
set_option linter.all false
set_option maxRecDepth 100000
set_option maxHeartbeats 2000000
namespace FL
open PySem PySem.Spec PyProof.Rows L2
abbrev YK := List (List Nat)
def insY (l : List YK) (k : YK) : List YK := if k ∈ l then l else k :: l
section
variable {X : Cx} {g : Gc} {f : FG} {ft : FT} {fe fa : FE} {own : List Nat} {δ : DS} {σ : L2.St} {D : Addr} {Q : VK} {m0 : Nat → Addr} {n0 : Nat} {H0 : Hp}
theorem Sim.ownY {P : Program} {w : World} {K : PySem.W.Frag} {g : Gc} {m : Nat → Addr} {h : VH} {H : Hp} {D : Addr} {L : List (Addr × List Str)} (s : Sim K g m h H) (hD : H D = some (SetYO P w D L)) (nD : ∀ k, k < h.length → m k ≠ D) (u : HO) : Imm H (upd H D u) ∧ Sim K g m h (upd H D u) := by
  have im : Imm H (upd H D u) := ⟨fun a xs e => by
    rw [upd_ne (fun z => by rw [z, hD] at e; cases e)]
    exact e, fun a o u e => by
    rw [upd_ne (fun z => by rw [z, hD] at e; cases e)]
    exact e, fun a q e => by
    rw [upd_ne (fun z => by rw [z, hD] at e; exact setYO_code (Option.some.inj e))]
    exact e⟩
  refine ⟨im, ⟨s.inj, fun i o hi => ?_, tabs_upd s.tab (fun ps z => by rw [hD] at z; cases z) (fun q z => by rw [hD] at z; exact setYO_code (Option.some.inj z))⟩⟩
  have hl := (List.getElem?_eq_some_iff.mp hi).1
  exact (s.obj i o hi).mono (Nat.le_refl _) (fun _ _ => rfl) im (upd_ne (nD i hl))
abbrev keyY (k : YK) : List Str := k.map mkS
theorem keyY_inj {a b : YK} (e : keyY a = keyY b) : a = b := by
  induction a generalizing b with
  | nil => cases b with
    | nil => rfl
    | cons _ _ => cases e
  | cons x a ih => cases b with
    | nil => cases e
    | cons y b =>
      simp only [keyY, List.map_cons, List.cons.injEq] at e
      rw [mkS_inj e.1, ih e.2]
structure OfY (K : PySem.W.Frag) (H : Hp) (L : List (Addr × List Str)) (acc : List YK) : Prop where
  pm : (L.map (·.2)).Perm (acc.map keyY)
  tu : ∀ p ∈ L, Plt K H p.1 (p.2.map V.str)
theorem OfY.len {K : PySem.W.Frag} {H : Hp} {L : List (Addr × List Str)} {acc : List YK} (o : OfY K H L acc) : L.length = acc.length := by
  have e := o.pm.length_eq
  rwa [List.length_map, List.length_map] at e
theorem OfY.put {K : PySem.W.Frag} {H H' : Hp} {L L' : List (Addr × List Str)} {acc : List YK} {b : Addr} {k : YK} (o : OfY K H L acc) (im : Imm H H') (pk : Plt K H b ((keyY k).map V.str)) (h1 : keyY k ∈ L.map (·.2) → L' = L) (h2 : keyY k ∉ L.map (·.2) → L'.Perm ((b, keyY k) :: L)) : OfY K H' L' (insY acc k) := by
  have e : keyY k ∈ L.map (·.2) ↔ k ∈ acc := by
    rw [o.pm.mem_iff, List.mem_map]
    exact ⟨fun ⟨x, hx, e⟩ => by rw [← keyY_inj e]; exact hx, fun h => ⟨k, h, rfl⟩⟩
  unfold insY
  by_cases hk : k ∈ acc
  · rw [if_pos hk, h1 (e.mpr hk)]
    exact ⟨o.pm, fun p hp => im.plt (o.tu p hp)⟩
  · rw [if_neg hk]
    have q := h2 (fun z => hk (e.mp z))
    refine ⟨?_, fun p hp => ?_⟩
    · refine (q.map (·.2)).trans ?_
      rw [List.map_cons, List.map_cons]
      exact o.pm.cons _
    · rcases List.mem_cons.mp (q.mem_iff.mp hp) with z | z
      · rw [z]; exact im.plt pk
      · exact im.plt (o.tu p z)
structure AccY (P : Program) (w : World) (K : PySem.W.Frag) (g : Gc) (m0 : Nat → Addr) (n0 : Nat) (H0 : Hp) (D : Addr) (m : Nat → Addr) (h : VH) (H : Hp) (L : List (Addr × List Str)) (acc : List YK) : Prop where
  ex : Ext m0 n0 H0 m h.length H
  sm : Sim K g m h H
  nD : ∀ k, k < h.length → m k ≠ D
  at_ : H D = some (SetYO P w D L)
  ok : OfY K H L acc
theorem AccY.from {P : Program} {w : World} {K : PySem.W.Frag} {g : Gc} {m0 m m1 : Nat → Addr} {n0 : Nat} {H0 H H1 : Hp} {D : Addr} {h h1 : VH} {L : List (Addr × List Str)} {acc : List YK} (a : AccY P w K g m0 n0 H0 D m h H L acc) (e : Ext m h.length H m1 h1.length H1) (s : Sim K g m1 h1 H1) : AccY P w K g m0 n0 H0 D m1 h1 H1 L acc := by
  refine ⟨a.ex.trans e, s, fun k hk z => ?_, e.fr D _ a.nD a.at_ trivial, ⟨a.ok.pm, fun p hp => e.im.plt (a.ok.tu p hp)⟩⟩
  by_cases hn : k < h.length
  · rw [e.eq k hn] at z
    exact a.nD k hn z
  · have := e.nw k (by omega) hk
    rw [z, a.at_] at this
    exact this.elim
theorem AccY.put {P : Program} {w : World} {K : PySem.W.Frag} {g : Gc} {m0 m : Nat → Addr} {n0 : Nat} {H0 H : Hp} {D b : Addr} {h : VH} {L L' : List (Addr × List Str)} {acc : List YK} {k : YK} (a : AccY P w K g m0 n0 H0 D m h H L acc) (h0 : H0 D = none) (pk : Plt K H b ((keyY k).map V.str)) (h1 : keyY k ∈ L.map (·.2) → L' = L) (h2 : keyY k ∉ L.map (·.2) → L'.Perm ((b, keyY k) :: L)) :
    Imm H (upd H D (SetYO P w D L')) ∧ AccY P w K g m0 n0 H0 D m h (upd H D (SetYO P w D L')) L' (insY acc k) := by
  obtain ⟨im, s⟩ := a.sm.ownY a.at_ a.nD (SetYO P w D L')
  exact ⟨im, a.ex.own h0 _, s, a.nD, upd_same, a.ok.put im pk h1 h2⟩
end
section
variable {X : Cx} {g : Gc} {W : WX} {f : FG} {ft : FT} {fe fa : FE} {sl : List Nat} {elt tg iter : Expr} {ifs : List Expr} {scope : Scope} {own : List (Str × Nat)} {pos spos py : Pos} {fin : List YK → FL.D}
end
section
variable {X : Cx} {g : Gc} {W : WX} {f : FG} {ft : FT} {fe fa : FE} {sl : List Nat} {elt tg iter : Expr} {ifs : List Expr} {scope : Scope} {own : List (Str × Nat)} {pos cpos p : Pos}
end
end FL
set_option Elab.async false
set_option linter.all false
set_option maxRecDepth 100000
set_option maxHeartbeats 2000000
namespace FL
open PySem PySem.Spec PyProof.Rows L2
def insOf (c : Nat) (x : D) (h : VH) : Option (List (Str × D)) := match x with
  | .ref k => match h[k]? with
    | some (.ins c' fs) => if c' = c then some fs else none
    | _ => none
  | _ => none
def oFld (c : Nat) (f : Str) : Op1 := fun x h => match insOf c x h with
  | some fs => (match fs.lookup f with
    | some v => some (v, h)
    | none => none)
  | none => none
def putFD (f : Str) (v : D) : List (Str × D) → List (Str × D)
  | [] => [(f, v)]
  | (g, x) :: r => if g = f then (g, v) :: r else (g, x) :: putFD f v r
def stFld (c : Nat) (f : Str) (x y : D) (h : VH) : Option VH := match x with
  | .ref k => match h[k]? with
    | some (.ins c' fs) => if c' = c ∧ fs.length < 1000 then some (h.set k (.ins c (putFD f y fs))) else none
    | _ => none
  | _ => none
def sFld (c : Nat) (f : Str) (o e : FE) : FSt := fun δ h => thenS δ (e δ h) fun y h => thenS δ (o δ h) fun x h => match stFld c f x y h with
  | some h => .nx δ h
  | none => .bad
def hasM (c : Nat) (m : Str) (x : D) (h : VH) : Bool := match insOf c x h with
  | some fs => (fs.lookup m).isNone
  | none => false
def eMeth (c : Nat) (m : Str) (F : List D → VH → Out D) (a : FE) (r : FA) : FE := fun δ h => (a δ h).bind fun x h => if hasM c m x h = true then (r δ h).bind fun xs h => F (x :: xs) h else .bad
def newK (n : Nat) : Out D → Out D
  | .ok .non h => .ok (.ref n) h
  | .err c p h => .err c p h
  | _ => .bad
def eNew (c : Nat) (F : List D → VH → Out D) (r : FA) : FE := fun δ h => (r δ h).bind fun xs h => newK h.length (F (.ref h.length :: xs) (h ++ [.ins c []]))
structure FldA (K : PySem.W.Frag) (g : Gc) (c : Nat) (f : Str) : Prop where
  ex : ∃ C, g.ks[c]? = some C ∧ Cls K C ∧ NoAttr K C f
structure Mf (P : Program) (w : World) (K : PySem.W.Frag) (mg : Str → Option Value) (base : Heap) (g : Gc) (k : Nat) (c : Nat) (m : Str) (F : List D → VH → Out D) : Prop where
  ex : ∃ C f fd ps, g.ks[c]? = some C ∧ Cls K C ∧ Meth K C m f ∧ Binds K fd ps [] ∧ FnOk P w K mg base (L2.CX P w) k f fd ps (spF K g F)
structure Nf (P : Program) (w : World) (K : PySem.W.Frag) (mg : Str → Option Value) (base : Heap) (g : Gc) (k : Nat) (x : Str) (c : Nat) (F : List D → VH → Out D) : Prop where
  ex : ∃ C f fd ps, g.ks[c]? = some C ∧ mg x = some (.ref C) ∧ Mk K C f ∧ Binds K fd ps [] ∧ FnOk P w K mg base (L2.CX P w) k f fd ps (spF K g F)
theorem rfs_lookup {K : PySem.W.Frag} {m : Nat → Addr} {n : Nat} {H : Hp} {f : Str} : ∀ {fs : List (Str × D)} {vs : List (Str × V)}, RFs K m n H fs vs → (∀ d, fs.lookup f = some d → ∃ v, vs.lookup f = some v ∧ RD K m n H d v) ∧ (fs.lookup f = none → vs.lookup f = none)
  | _, _, .nil => ⟨fun d e => (by cases e), fun _ => rfl⟩
  | _, _, .cons (f := g) (x := x) (v := v) h1 h2 => by
    obtain ⟨a, b⟩ := rfs_lookup (f := f) h2
    simp only [List.lookup]
    cases hb : f == g with
    | true => exact ⟨fun d e => ⟨v, rfl, (by cases e; exact h1)⟩, fun e => (by cases e)⟩
    | false => exact ⟨a, b⟩
theorem rfs_put {K : PySem.W.Frag} {m : Nat → Addr} {n : Nat} {H : Hp} {f : Str} {d : D} {v : V} (rd : RD K m n H d v) : ∀ {fs : List (Str × D)} {vs : List (Str × V)}, RFs K m n H fs vs → RFs K m n H (putFD f d fs) (putF f v vs)
  | _, _, .nil => .cons rd .nil
  | _, _, .cons (f := g) h1 h2 => by
    show RFs K m n H (if g = f then _ else _) (if g = f then _ else _)
    by_cases e : g = f
    · rw [if_pos e, if_pos e]; exact .cons rd h2
    · rw [if_neg e, if_neg e]; exact .cons h1 (rfs_put rd h2)
theorem rfs_len {K : PySem.W.Frag} {m : Nat → Addr} {n : Nat} {H : Hp} : ∀ {fs : List (Str × D)} {vs : List (Str × V)}, RFs K m n H fs vs → fs.length = vs.length
  | _, _, .nil => rfl
  | _, _, .cons _ h2 => by rw [List.length_cons, List.length_cons, rfs_len h2]
section
variable {K : PySem.W.Frag} {g : Gc} {m : Nat → Addr} {h : VH} {H : Hp}
theorem ins_of (s : Sim K g m h H) {c : Nat} {x : D} {v : V} {fs : List (Str × D)} (r : RD K m h.length H x v) (e : insOf c x h = some fs) : ∃ k C dx vs, x = .ref k ∧ v = .ref (m k) ∧ k < h.length ∧ h[k]? = some (.ins c fs) ∧ g.ks[c]? = some C ∧ H (m k) = some (.ins C dx vs) ∧ RFs K m h.length H fs vs := by
  unfold insOf at e
  split at e
  · rename_i k
    cases r with
    | ref hk =>
      split at e
      · rename_i c' fs' hx
        split at e
        · rename_i hc
          subst hc
          cases e
          obtain ⟨C, dx, vs, h0, h1, h2⟩ := s.obj k _ hx
          exact ⟨k, C, dx, vs, rfl, rfl, hk, hx, h0, h1, h2⟩
        · cases e
      · cases e
  · cases e
theorem Sim.write_ins (s : Sim K g m h H) {i c : Nat} {C dx : Addr} {fs fs' : List (Str × D)} {vs vs' : List (Str × V)} (e : h[i]? = some (.ins c fs)) (hc : g.ks[c]? = some C) (hH : H (m i) = some (.ins C dx vs)) (r : RFs K m h.length H fs' vs') :
    Ext m h.length H m (h.set i (.ins c fs')).length (upd H (m i) (.ins C dx vs')) ∧ Sim K g m (h.set i (.ins c fs')) (upd H (m i) (.ins C dx vs')) :=
  s.write (List.getElem?_eq_some_iff.mp e).1 (fun im => ⟨C, dx, vs', hc, upd_same, r.mono (Nat.le_refl _) (fun _ _ => rfl) im⟩) (fun q z => by rw [hH] at z; have z' := Option.some.inj z; unfold LamX.CodeO at z'; cases z') (by rw [hH]; trivial)
end
section
variable {X : Cx} {g : Gc} {W : WX} {fa fo fe : FE} {e o value : Expr} {es : List Expr} {r : FA} {c k j : Nat} {f x : Str} {pos apos p pos' : Pos} {F : List D → VH → Out D}
theorem fe_fld (A : FldA X.K g c f) (ha : PE X e (rd X.K g W fa)) (hb : attributeBase e f X.env (eval e X.env) = eval e X.env := by rfl) : PE X (.Attribute e f pos) (rd X.K g W (e1 (oFld c f) fa)) := by
  obtain ⟨C, hC, hcl, hno⟩ := A.ex
  refine pe_weak (pe_fld ha hb) ?_
  rintro σ H Q ⟨δ, m, h, r, s, q⟩
  refine ⟨δ, m, h, r, s, Gd.bind q fun x h1 m1 H1 e1 s1 q1 v rv => ?_⟩
  have q2 := Gd.of q1
  clear q1
  unfold oFld at q2
  split at q2
  · rename_i fs hi
    obtain ⟨k, C', dx, vs, rfl, rfl, hk, hx, hC', hH, rfs⟩ := ins_of s1 rv hi
    rw [hC] at hC'
    cases hC'
    split at q2
    · rename_i d hd
      obtain ⟨w, hw, rw'⟩ := (rfs_lookup rfs).1 d hd
      exact ⟨_, C, dx, vs, w, rfl, hH, hcl, hno, hw, q2 m1 H1 w Ext.refl s1 rw'⟩
    · exact q2.elim
  · exact q2.elim
theorem fs_fld (A : FldA X.K g c f) (ho : PE X o (rd X.K g W fo)) (hv : PE X value (rd X.K g W fe)) (hs : swapsWith value (some (.Attribute o f pos')) pos.line X.env = pure false := by rfl) : PS X (.Assign [.Attribute o f pos'] value pos) (rs X.K g W (FL.sFld c f fo fe)) := by
  obtain ⟨C, hC, hcl, hno⟩ := A.ex
  refine ps_weak (ps_fld ho hv hs) ?_
  rintro D σ H ⟨δ, m, h, r, s, q⟩
  refine ⟨δ, m, h, r, s, GoodS.thn r q fun y h1 m1 H1 e1 s1 q1 v r1 => ?_⟩
  refine ⟨δ, m1, h1, e1.rs r, s1, GoodS.thn (e1.rs r) q1 fun x h2 m2 H2 e2 s2 q2 u r2 => ?_⟩
  cases ef : stFld c f x y h2 with
  | none => simp only [ef] at q2; exact q2.elim
  | some h3 =>
    simp only [ef] at q2
    unfold stFld at ef
    split at ef
    · rename_i k
      cases r2 with
      | ref hk =>
        split at ef
        · rename_i c' fs hx
          split at ef
          · rename_i hc
            obtain ⟨rfl, hl⟩ := hc
            cases ef
            obtain ⟨C', dx, vs, hC', hH, rfs⟩ := s2.obj k _ hx
            rw [hC] at hC'
            cases hC'
            have r1' := e2.rd r1
            obtain ⟨e3, s3⟩ := s2.write_ins hx hC hH (rfs_put (f := f) r1' rfs)
            exact ⟨_, C, dx, vs, rfl, hH, hcl, hno, by rw [← rfs_len rfs]; exact hl, q2 m2 _ σ e3 s3 ((e1.trans (e2.trans e3)).rs r)⟩
          · cases ef
        · cases ef
    · cases ef
theorem fe_meth {pl : Sem Bool} (d : Mf X.prog X.w X.K X.mg X.base g k c f F) (tk : Takes X W) (hr : Room j X.A) (ho : PE X o (rd X.K g W fo)) (ha : PA X (e :: es) (FL.ra X.K g W r)) (hk : k ≤ j := by decide)
    (hst : starEach (e :: es) X.env = (false, eval e X.env) :: starEach es X.env := by rfl) (hpl : (backTo pos (starEach es X.env)).any (·.1) = false := by rfl)
    (ht : eval (.Call (.Attribute o f apos) (e :: es) [] pos) X.env = (do
      let ov ← eval o X.env
      standAt apos.atName
      let (f, first) ← holding [ov] (getMethod ov f pl)
      callWith pos f first (backTo pos (starEach (e :: es) X.env)) (backToKw pos (keywordEach [] X.env))) := by rfl) :
    PE X (.Call (.Attribute o f apos) (e :: es) [] pos) (rd X.K g W (eMeth c f F fo r)) := by
  obtain ⟨C, fA, fd, ps, hC, hcl, hm, hb, hF⟩ := d.ex
  refine ⟨fun pins s σ H Q I h => ?_⟩
  obtain ⟨δ, m, vh, rr, sm, q⟩ := h
  refine PySem.W.methodCall_KW (pl := pl) (thn (ho.run pins s σ H (fun v H1 => ∃ m1 h1 x, Sim X.K g m1 h1 H1 ∧ RS X.K m1 h1.length H1 δ σ ∧ RD X.K m1 h1.length H1 x v ∧ GoodE X.K g (fun c d H' => W c d σ H') m1 h1.length H1 Q (if hasM c f x h1 = true then (r δ h1).bind fun xs h => F (x :: xs) h else .bad)) I ⟨δ, m, vh, rr, sm, Gd.bind q fun x h1 m1 H1 e1 s1 q1 v rv => ⟨m1, h1, x, s1, e1.rs rr, rv, q1⟩⟩) fun u s1 ⟨v, H1, I1, rv, m1, h1, x, sm1, rr1, rx, q1⟩ => ?_) ht
  split at q1
  · rename_i hM
    unfold hasM at hM
    split at hM
    · rename_i fs hi
      obtain ⟨kk, C', dx, vs, rfl, rfl, hkk, hx, hC', hH, rfs⟩ := ins_of sm1 rx hi
      rw [hC] at hC'
      cases hC'
      obtain rfl : u = Value.ref (m1 kk) := rv
      have hno : vs.lookup f = none := (rfs_lookup rfs).2 (by cases hl : fs.lookup f with | none => rfl | some _ => rw [hl] at hM; cases hM)
      refine getmeth_ok I1 hH hcl hm hno ?_
      refine PySem.W.callWith_K (first := [.ref (m1 kk)]) (h₀ := X.base) I1.ok.mod.kin hm.kp (thn (ha.run pos pins s1 σ H1 (fun vs H2 => spF X.K g F (.ref (m1 kk) :: vs) H2 Q (WE W σ)) I1 ⟨δ, m1, h1, rr1, sm1, Gd.bind q1 fun xs h2 m2 H2 e2 s2 q2 ws rws => ⟨m2, h2, .ref kk :: xs, s2, .cons (e2.rd rx) rws, q2⟩⟩) fun us s2 ⟨ws, H2, I2, rw', q2⟩ => ⟨I2.kIn, ?_⟩) hst hpl
      exact run_fnS (us := .ref (m1 kk) :: us) (vs := .ref (m1 kk) :: ws) hF (hr.mono hk) hb (passAt tk σ) I2 (.cons rfl rw') q2
    · cases hM
  · exact q1.elim
theorem fe_new (d : Nf X.prog X.w X.K X.mg X.base g k x c F) (tk : Takes X W) (hr : Room (j + 1) X.A) (ha : PA X (e :: es) (FL.ra X.K g W r)) (hk : k ≤ j := by decide) (hg : Gl X x := by rfl) (hdb : (x == ("__debug__" : Str)) = false := by decide)
    (he : starEach (e :: es) X.env = (false, eval e X.env) :: starEach es X.env := by rfl) (hpl : (backTo pos (starEach es X.env)).any (·.1) = false := by rfl) : PE X (.Call (.Name x p) (e :: es) [] pos) (rd X.K g W (eNew c F r)) := by
  obtain ⟨C, fA, fd, ps, hC, hm, M, hb, hF⟩ := d.ex
  refine ⟨fun pins s σ H Q I h => ?_⟩
  obtain ⟨δ, m, vh, rr, sm, q⟩ := h
  refine wpAny_Call_Name_kw (ld_glob I hg hm ?_ hdb)
  refine PySem.W.callWith_K (h₀ := X.base) I.ok.mod.kin M.kp (thn (ha.run pos pins s σ H (fun vs H1 => ∃ m1 h1 xs, Sim X.K g m1 h1 H1 ∧ RDs X.K m1 h1.length H1 xs vs ∧ GoodE X.K g (fun c d H' => W c d σ H') m1 h1.length H1 Q (newK h1.length (F (.ref h1.length :: xs) (h1 ++ [.ins c []])))) I ⟨δ, m, vh, rr, sm, Gd.bind q fun xs h1 m1 H1 e1 s1 q1 v rv => ⟨m1, h1, xs, s1, rv, q1⟩⟩) fun us s1 ⟨vs, H1, I1, rv, m1, h1, xs, s1', rxs, q1⟩ => ⟨I1.kIn, ?_⟩) he hpl
  have dn := I1.hok.fresh (Nat.le_refl s1.heap.objs.size)
  have xn := I1.hok.fresh (Nat.le_succ s1.heap.objs.size)
  have ne : s1.heap.objs.size ≠ s1.heap.objs.size + 1 := Nat.ne_of_lt (Nat.lt_succ_self _)
  have I2 := Inv.made (C := C) I1
  obtain ⟨e0, s0⟩ := s1'.tup (o := .own (s1.heap.objs.size + 1)) dn
  have xn' : upd H1 s1.heap.objs.size (.own (s1.heap.objs.size + 1)) (s1.heap.objs.size + 1) = none := by rw [upd_ne (Ne.symm ne)]; exact xn
  obtain ⟨m2, e2, s2, r2⟩ := s0.alloc (o := .ins C s1.heap.objs.size []) (ob := .ins c []) xn' (fun m' _ => ⟨C, _, [], hC, upd_same, .nil⟩)
  have e02 := e0.trans e2
  have hsp : spF X.K g F (.ref (s1.heap.objs.size + 1) :: vs) (upd (upd H1 s1.heap.objs.size (.own (s1.heap.objs.size + 1))) (s1.heap.objs.size + 1) (.ins C s1.heap.objs.size [])) (fun v H2 => v = .non ∧ Q (.ref (s1.heap.objs.size + 1)) H2) (WE W σ) := by
    refine ⟨m2, h1 ++ [.ins c []], .ref h1.length :: xs, s2, .cons r2 (e02.rds rxs), ?_⟩
    have q2 := Gd.from e02 q1
    cases eF : F (.ref h1.length :: xs) (h1 ++ [.ins c []]) with
    | bad => rw [eF] at q2; exact q2
    | err cc pp hh => rw [eF] at q2; exact q2
    | ok y hh =>
      rw [eF] at q2
      cases y with
      | non =>
        intro m3 H3 e3 s3 v rv3
        cases rv3
        refine ⟨rfl, ?_⟩
        have q2 : Gd X.K g (fun c d H' => W c d σ H') m2 (h1 ++ [O.ins c []]).length _ (PD X.K Q) (.ok (.ref h1.length) hh) := q2
        refine q2 m3 H3 e3 s3 (.ref (s1.heap.objs.size + 1)) ?_
        have := e3.rd r2
        exact this
      | _ => exact q2.elim
  have rv2 : Vals (V.ref (s1.heap.objs.size + 1) :: vs) (Value.ref (s1.heap.objs.size + 1) :: us) := .cons rfl rv
  have hl : (Value.ref (s1.heap.objs.size + 1) :: us ++ ([] : List Value)).length = ps.length := by
    rw [List.append_nil]
    have e := rv2.length
    rw [hF.len _ _ _ _ hsp] at e
    exact e.symm
  refine wpAny_call (make_map (f := fA) I1.kIn M.makes M.init (beq_iff_eq.mp M.fn) (codeAny_mono (hF.run _ X.stack _ _ ⟨Value.ref (s1.heap.objs.size + 1) :: us, []⟩ (Value.ref (s1.heap.objs.size + 1) :: us) _ _ (WE W σ) ((hr.mono (Nat.succ_le_succ hk)).make C us [])
    (I2.env0.make C us []) (by have z := hb _ (Value.ref (s1.heap.objs.size + 1) :: us) I2.kIn hl; rw [List.append_nil] at z; exact z) rv2 hsp) fun r s' hq' => ?_))
  cases r with
  | error e => exact passAt tk σ pins _ _ e s' I2 hq'
  | ok fl =>
    cases fl with
    | ret u =>
      obtain ⟨v, H', I3, rv, ev, q3⟩ := I2.after hq'
      subst ev
      exact ⟨rv, ⟨V.ref (s1.heap.objs.size + 1), H', I3, rfl, q3⟩⟩
    | next => exact False.elim hq'
    | brk => exact False.elim hq'
    | cont => exact False.elim hq'
end
end FL
set_option Elab.async false
set_option linter.all false
set_option maxRecDepth 100000
set_option maxHeartbeats 2000000
namespace FL
open PySem PySem.Spec PyProof.Rows L2
section
variable {X : Cx} {g : Gc} {W : WX} {sb : FSt} {f : FG} {own : List Nat} {D : Ends} {tg iter : Expr} {body : List Stmt} {pos p p2 : Pos} {fa : FE}
end
section
variable {X : Cx} {g : Gc} {W : WX} {sb : FSt} {f : FG} {own : List Nat} {e e2 : Expr} {elts : List Expr} {kk : Nat} {tpos : Pos} {body : List Stmt} {pos p p2 : Pos} {r : FA}
end
end FL
set_option Elab.async false
set_option linter.all false
set_option maxRecDepth 100000
set_option maxHeartbeats 2000000
namespace FL
open PySem PySem.Spec PyProof.Rows L2
section
variable {X : Cx} {g : Gc} {W : WX} {f : FG} {ft : FT} {fe fa : FE} {sl : List Nat} {elt tg e : Expr} {elts : List Expr} {kk : Nat} {tpos : Pos} {ifs : List Expr} {scope : Scope} {own : List (Str × Nat)} {pos apos cpos py spos : Pos}
end
end FL
set_option Elab.async false
set_option linter.all false
set_option maxRecDepth 100000
set_option maxHeartbeats 2000000
namespace FL
open PySem PySem.Spec PyProof.Rows L2 GenW
def itI : FL.D → Option Int
  | .int i => some i
  | _ => none
def intsL : List FL.D → Option (List Int)
  | [] => some []
  | x :: xs => match itI x, intsL xs with
    | some i, some l => some (i :: l)
    | _, _ => none
def fitB (ns : List Int) : Bool := decide (ns.length ≤ 1048576) && ns.all fun i => decide (0 ≤ i) && decide (i ≤ 1048576)
def suEnd (o : Out (List FL.D)) : Out FL.D := match o with
  | .ok xs h => match intsL xs with
    | some ns => if fitB ns = true then .ok (.int ns.sum) h else .bad
    | none => .bad
  | _ => .bad
def suX (g : FG) (t : FT) (e : FE) (own : List Nat) (δ : DS) (x : FL.D) (h : VH) : Out FL.D := match x with
  | .tup xs => suEnd (lcT g t e own δ xs h [])
  | .fls xs => suEnd (lcT g t e own δ xs h [])
  | .fdc ks _ => suEnd (lcT g t e own δ ks h [])
  | .str s => suEnd (lcT g t e own δ (s.map fun c => .str [c]) h [])
  | _ => .bad
def eSumG (a : FE) (g : FG) (t : FT) (e : FE) (own : List Nat) : FE := fun δ h => (a δ h).bind fun x h => suX g t e own δ x h
section
variable {X : Cx} {A : Around} {cenv : Env} {s₁ : Shared} {H₁ : Hp} {fp : List Addr} {pg : List (Addr × Obj)} {tn : Nat → Heap → Prop} {sl : List Nat} {σ : L2.St}
theorem GenS.put {S : Addr} {i : Nat} {H : Hp} {s : Shared} {xs : List V} {its : List Value} {c tk : Nat} {v : Int} (hfp : ∀ b ∈ fp, b ≠ S) {J : It} {tg : Expr} {it : Addr} (T : Turn X.prog X.w X.K tg J fp it tn) (G : GenS X A cenv s₁ H₁ fp pg tn sl σ i H s) (hS : H S = some (.lst xs)) (ho : s.heap.get? S = some { cls := .type "list", data := .seq its.toArray c }) :
    GenS X A cenv s₁ H₁ fp pg tn sl σ i (upd H S (.lst [.int v])) { s with heap := s.heap.update S (Obj.mapSeq fun _ => #[.int v tk]), toks := tk + 1 } := by
  have e : ∃ c', (s.heap.update S (Obj.mapSeq fun _ => #[.int v tk])).get? S = some { cls := .type "list", data := .seq (([.int v tk] : List Value)).toArray c' } := by
    rw [Heap.get?_update_self _ ho (by rfl)]
    exact ⟨_, rfl⟩
  obtain ⟨c', e⟩ := e
  have k : ∀ b u, b ≠ S → s.heap.get? b = some u → (s.heap.update S (Obj.mapSeq fun _ => #[.int v tk])).get? b = some u := fun b u hb q => (Heap.get?_update_other _ _ (Ne.symm hb)).trans q
  refine ⟨G.inv.write (x := S) (e := S) (by rw [hS]; trivial) (.inl rfl) k ⟨_, e⟩ ⟨by rw [sizeLine_eq]; simp, _, c', .cons ⟨tk, rfl⟩ .nil, e⟩, T.keep _ _ _ G.tn fun b hb o q => k b o (hfp b hb) q, fun b hb => ?_⟩
  rw [upd_ne (hfp b hb)]
  exact G.fr b hb
end
section
variable {X : Cx} {pins : List (Addr × Obj)} {σ : L2.St} {H : Hp} {s : Shared} {g : Gc} {W : WX} {own : List Nat} {f : FG} {ft : FT} {fe : FE} {δ : DS} {Q : VK}
abbrev GoodSu (K : PySem.W.Frag) (g : Gc) (m : Nat → Addr) (n : Nat) (H : Hp) (Q : VK) (o : Out (List FL.D)) : Prop := GoodE K g (fun _ _ _ => False) m n H Q (suEnd o)
def GWS (K : PySem.W.Frag) (g : Gc) (own : List Nat) (f : FG) (ft : FT) (fe : FE) (δ : DS) (σ : L2.St) (Q : VK) (J : It) (H : Hp) : Prop :=
  ∃ (C : Hp → Prop) (vs : List V) (xs : List FL.D) (m : Nat → Addr) (h : VH), TreeIt J C vs ∧ C H ∧ RS K m h.length H δ σ ∧ Sim K g m h H ∧ RDs K m h.length H xs vs ∧ GoodSu K g m h.length H Q (lcT f ft fe own δ xs h [])
theorem Acc.val {K : PySem.W.Frag} {m0 m : Nat → Addr} {n0 : Nat} {H0 H : Hp} {D : Addr} {h : VH} {v : Int} (a : Acc K g m0 n0 H0 D m h H [.int v]) : H D = some (.lst [.int v]) := by
  obtain ⟨vs, hD, ra⟩ := a.at_
  cases ra with
  | cons r1 r2 =>
    cases r2
    cases r1
    exact hD
theorem GWS.ext {J : It} {H2 H4 : Hp} (w : GWS X.K g own f ft fe δ σ Q J H2) (e : LamX.ExtN H2 H4) (t : LamX.Tabs g.T H4) : GWS X.K g own f ft fe δ σ Q J H4 := by
  obtain ⟨C, vs, xs, m, h, T, hc, r, sm, rx, q⟩ := w
  obtain ⟨e1, s1⟩ := Ext_of sm e t
  exact ⟨C, vs, xs, m, h, T, T.st _ _ e1.im hc, e1.rs r, s1, e1.rds rx, Gd.from e1 q⟩
theorem GWS.tabs {J : It} {H2 : Hp} (w : GWS X.K g own f ft fe δ σ Q J H2) : LamX.Tabs g.T H2 := by
  obtain ⟨C, vs, xs, m, h, T, hc, r, sm, rx, q⟩ := w
  exact sm.tab
end
section
variable {X : Cx} {g : Gc} {W : WX} {f : FG} {ft : FT} {fe fa : FE} {sl : List Nat} {elt tg iter : Expr} {ifs : List Expr} {scope : Scope} {own : List (Str × Nat)} {pos gpos p : Pos} {k : Nat} {c P : Addr}
end
@[simp] theorem ap_eSumG {a : FE} {g : FG} {t : FT} {e : FE} {own : List Nat} {δ : DS} {h : VH} : eSumG a g t e own δ h = (a δ h).bind fun x h => suX g t e own δ x h := (rfl)
@[simp] theorem ap_suTup {g : FG} {t : FT} {e : FE} {own : List Nat} {δ : DS} {xs : List FL.D} {h : VH} : suX g t e own δ (.tup xs) h = suEnd (lcT g t e own δ xs h []) := (rfl)
@[simp] theorem ap_suFls {g : FG} {t : FT} {e : FE} {own : List Nat} {δ : DS} {xs : List FL.D} {h : VH} : suX g t e own δ (.fls xs) h = suEnd (lcT g t e own δ xs h []) := (rfl)
end FL
set_option Elab.async false
set_option linter.all false
set_option maxRecDepth 100000
set_option maxHeartbeats 2000000
namespace FL
open PySem PySem.Spec PyProof.Rows L2
section
variable {X : Cx} {g : Gc}
end
end FL
set_option Elab.async false
set_option linter.all false
set_option maxRecDepth 100000
set_option maxHeartbeats 2000000
namespace FL
open PySem PySem.Spec PyProof.Rows L2
section
variable {X : Cx} {pins : List (Addr × Obj)} {σ : L2.St} {H : Hp} {s : Shared} {g : Gc} {m : Nat → Addr} {n : Nat}
mutual
/-- a tree that may be a key is that key in the heap -/
theorem nk_is (I : Inv X pins σ H s) : ∀ (d : FL.D) (v : V) (u : Value) (k : NestedKey), RD X.K m n H d v → RelV v u → nkOf d = some k → NestedIs s.heap k u
  | .non, _, u, k, r, ru, e => by
    unfold nkOf at e
    cases e
    cases r
    rw [show u = Value.none from ru]
    exact .none
  | .bl b, _, u, k, r, ru, e => by
    unfold nkOf at e
    cases e
    cases r
    rw [show u = Value.bool b from ru]
    exact .bool rfl
  | .str z, _, u, k, r, ru, e => by
    unfold nkOf at e
    cases e
    cases r with
    | str hs =>
      obtain ⟨t, rfl⟩ := ru
      exact .text _ t
  | .tup xs, _, u, k, r, ru, e => by
    unfold nkOf at e
    cases r with
    | tup h1 h2 =>
      rename_i a vs
      cases (show u = Value.ref a from ru)
      cases ek : nksOf xs with
      | none => rw [ek] at e; cases e
      | some l =>
        rw [ek] at e
        cases e
        obtain ⟨its, rv, ht, _⟩ := I.tuple h1.sq
        obtain ⟨o, ho, hc, n', hd⟩ := ht
        exact .tup ho hc hd (nks_are I xs vs its.toArray.toList l h2 rv ek)
  | .int _, _, _, _, _, _, e => by unfold nkOf at e; cases e
  | .fls _, _, _, _, _, _, e => by unfold nkOf at e; cases e
  | .fdc _ _, _, _, _, _, _, e => by unfold nkOf at e; cases e
  | .ref _, _, _, _, _, _, e => by unfold nkOf at e; cases e
  | .ty _, _, _, _, _, _, e => by unfold nkOf at e; cases e
  | .adr _, _, _, _, _, _, e => by unfold nkOf at e; cases e
  | .clo _ _, _, _, _, _, _, e => by unfold nkOf at e; cases e
theorem nks_are (I : Inv X pins σ H s) : ∀ (d : List FL.D) (v : List V) (us : List Value) (ks : List NestedKey), RDs X.K m n H d v → Vals v us → nksOf d = some ks → NestedAll s.heap ks us
  | [], _, us, ks, r, ru, e => by
    unfold nksOf at e
    cases e
    cases r
    cases ru
    exact .nil
  | x :: xs, _, us, ks, r, ru, e => by
    unfold nksOf at e
    cases r with
    | cons r1 r2 =>
      cases ru with
      | cons u1 u2 =>
        cases e1 : nkOf x with
        | none => rw [e1] at e; cases e
        | some k =>
          cases e2 : nksOf xs with
          | none => rw [e1, e2] at e; cases e
          | some l =>
            rw [e1, e2] at e
            cases e
            exact .cons (nk_is I x _ _ k r1 u1 e1) (nks_are I xs _ _ l r2 u2 e2)
end
end
def addK (ks : List FL.D) (l : List NestedKey) (d : FL.D) (q : NestedKey) : List FL.D := if q ∈ l then ks else ks ++ [d]
def nkdOf : Option O → Option (List FL.D)
  | some (.dct []) => some []
  | some (.nkd ks) => some ks
  | _ => none
def setN : FL.D → FL.D → FL.D → VH → Option VH
  | .ref k, .tup xs, .bl true, h => match nkdOf h[k]?, nkOf (.tup xs) with
    | some ks, some q => match nksOf ks with
      | some l => if q.depth ≤ 8 ∧ ks.length < 16777216 then some (h.set k (.nkd (addK ks l (.tup xs) q))) else none
      | none => none
    | _, _ => none
  | _, _, _, _ => none
section
variable {X : Cx} {pins : List (Addr × Obj)} {σ : L2.St} {H : Hp} {s : Shared} {g : Gc} {m : Nat → Addr} {h : VH}
theorem nk_dict (I : Inv X pins σ H s) (sm : Sim X.K g m h H) (hw : g.hw = fun k => NestedKey.hash X.w k) {k : Nat} {ks : List FL.D} (hk : k < h.length) (e : nkdOf h[k]? = some ks) :
    ∃ xs : List (NestedKey × Addr × Value), s.heap.DictOfH (nestedKind X.prog X.w) (m k) xs ∧ nksOf ks = some (xs.map (·.1)) ∧ (∀ x ∈ xs, x.2.2 = .bool true) ∧ RDs X.K m h.length H ks (xs.map fun x => V.ref x.2.1) ∧ (m k == sysModules) = false ∧ L2.Mut (H (m k)) ∧ ∀ q, H (m k) ≠ some (LamX.CodeO (m k) q) := by
  have hx : h[k]? = some h[k] := by simp [hk]
  have ro := sm.obj k _ hx
  rw [hx] at e
  generalize h[k] = o at *
  unfold nkdOf at e
  split at e
  · rename_i e1
    cases e1
    cases e
    obtain ⟨vs, h1, h2⟩ := ro
    cases h2
    obtain ⟨z, hd, ws, rel, dd⟩ := dk_of I.hok h1
    cases rel
    obtain ⟨q, es, ep, hq, hx1, hx2, hx3, hx4, _⟩ := dd
    have he : es.toList = [] := by
      cases hh : es.toList with
      | nil => rfl
      | cons a l => rw [hh] at hx4; cases hx4
    refine ⟨[], ⟨q, es, ep, hq, hx1, hx2, he, fun x hx => absurd hx List.not_mem_nil, List.nodup_nil⟩, rfl, fun x hx => absurd hx List.not_mem_nil, .nil, hd, by rw [h1]; trivial, fun q z => by rw [h1] at z; unfold LamX.CodeO at z; cases z⟩
  · rename_i e1
    cases e1
    cases e
    obtain ⟨es, ep, xs, N⟩ := ro
    obtain ⟨⟨q, hq, hx1, hx2⟩, _⟩ := I.hok _ _ N.at_
    refine ⟨xs, ⟨q, es, ep, hq, hx1, hx2, ?_, ?_, N.nd⟩, N.nk, N.tr, N.rd, N.sy, by rw [N.at_]; trivial, fun q z => by rw [N.at_] at z; exact rawD_code (Option.some.inj z)⟩
    · rw [N.es_, hw]
      rfl
    · have key : ∀ (ds : List FL.D) (ys : List (NestedKey × Addr × Value)), RDs X.K m h.length H ds (ys.map fun x => V.ref x.2.1) → nksOf ds = some (ys.map (·.1)) → (∀ x ∈ ys, x.1.depth ≤ 8) → ∀ x ∈ ys, (nestedKind X.prog X.w).is s.heap x.1 x.2.1 := by
        intro ds
        induction ds with
        | nil =>
          intro ys r e _ x hx
          cases ys with
          | nil => cases hx
          | cons y ys => cases r
        | cons d ds ih =>
          intro ys r e dp x hx
          cases ys with
          | nil => cases hx
          | cons y ys =>
            rw [List.map_cons] at r
            cases r with
            | cons r1 r2 =>
              unfold nksOf at e
              cases e1 : nkOf d with
              | none => rw [e1] at e; cases e
              | some k0 =>
                cases e2 : nksOf ds with
                | none => rw [e1, e2] at e; cases e
                | some l0 =>
                  rw [e1, e2] at e
                  simp only [List.map_cons, Option.some.injEq, List.cons.injEq] at e
                  rcases List.mem_cons.mp hx with rfl | hx
                  · refine ⟨?_, dp _ List.mem_cons_self⟩
                    have := nk_is I d _ _ k0 r1 rfl e1
                    rw [← e.1]
                    exact this
                  · exact ih ys r2 (by rw [e2, e.2]) (fun z hz => dp z (List.mem_cons_of_mem _ hz)) x hx
      exact key ks xs N.rd N.nk N.dp
  · cases e
theorem storedH_nk {xs : List (NestedKey × Addr × Value)} {q : NestedKey} {b : Addr} (tr : ∀ x ∈ xs, x.2.2 = .bool true) : storedH xs q b (.bool true) = if q ∈ xs.map (·.1) then xs else xs ++ [(q, b, .bool true)] := by
  by_cases hq : q ∈ xs.map (·.1)
  · rw [if_pos hq]
    have hf : (atKey xs q).isSome = true := by
      unfold atKey
      rw [Option.isSome_map, List.find?_isSome]
      obtain ⟨x, hx, e⟩ := List.mem_map.mp hq
      exact ⟨x, hx, decide_eq_true e⟩
    unfold storedH
    rw [if_pos hf]
    refine (List.map_congr_left fun x hx => ?_).trans (List.map_id _)
    unfold putAt
    split
    · obtain ⟨a, b, c⟩ := x
      have := tr _ hx
      show (a, b, Value.bool true) = (a, b, c)
      rw [← this]
    · rfl
  · rw [if_neg hq]
    have hf : ¬ (atKey xs q).isSome = true := by
      unfold atKey
      rw [Option.isSome_map, List.find?_isSome]
      rintro ⟨x, hx, e⟩
      exact hq (List.mem_map.mpr ⟨x, hx, of_decide_eq_true e⟩)
    unfold storedH
    rw [if_neg hf]
theorem nksOf_snoc : ∀ {ds : List FL.D} {l : List NestedKey} {d : FL.D} {q : NestedKey}, nksOf ds = some l → nkOf d = some q → nksOf (ds ++ [d]) = some (l ++ [q])
  | [], l, d, q, e1, e2 => by
    unfold nksOf at e1
    cases e1
    show nksOf [d] = some [q]
    unfold nksOf
    rw [e2]
    rfl
  | x :: xs, l, d, q, e1, e2 => by
    unfold nksOf at e1
    rw [List.cons_append]
    unfold nksOf
    cases h1 : nkOf x with
    | none => rw [h1] at e1; cases e1
    | some k =>
      cases h2 : nksOf xs with
      | none => rw [h1, h2] at e1; cases e1
      | some l' =>
        rw [h1, h2] at e1
        cases e1
        rw [nksOf_snoc h2 e2]
        rfl
theorem ps_setN (hu : X.A.units + 65 < cLine) (hw : g.hw = fun k => NestedKey.hash X.w k) : PSet X (rP X.K g setN) := by
  rintro pins st σ H o i v ov iv u Q I ro ri rv ⟨m, h, x, y, z, s, r1, r2, r3, q⟩
  unfold setN at q
  split at q
  · rename_i h' hf
    split at hf
    · rename_i k xs
      split at hf
      · rename_i ks nk hd hn
        split at hf
        · rename_i l hl
          split at hf
          · rename_i hc
            cases hf
            cases r1 with
            | ref hk =>
              cases r2 with
              | tup t1 t2 =>
                rename_i b vs
                cases r3
                cases ro
                cases (show iv = Value.ref b from ri)
                cases (show u = Value.bool true from rv)
                obtain ⟨ys, dd, e1, tr, rd, sy, mu, nc⟩ := nk_dict I s hw hk hd
                rw [hl] at e1
                have e1 : l = ys.map (·.1) := Option.some.inj e1
                subst e1
                have key : (nestedKind X.prog X.w).is st.heap nk b := ⟨nk_is I (.tup xs) (.ref b) (.ref b) nk (.tup t1 t2) rfl hn, hc.1⟩
                have hyl : ys.length ≤ sizeLine := by
                  have := rd.length
                  rw [List.length_map] at this
                  rw [sizeLine_eq, ← this]
                  omega
                refine wpAny_setItem_heap (hsz := hyl) (show X.A.units + 1 + 8 < cLine by omega) key dd fun hp' dd' sb => ?_
                rw [storedH_nk tr] at dd'
                obtain ⟨q0, es, ep, hq0, f1, f2, f3, f4, f5⟩ := dd'
                have new : ObjOk X.prog X.w (upd H (m k) (RawD (m k) es ep)) hp' (m k) (RawD (m k) es ep) := ⟨⟨q0, hq0, f1, f2⟩, ⟨q0, hq0⟩, fun h1 h2 ⟨o, a1, a2⟩ hx => ⟨o, hx o a1, a2⟩⟩
                have I2 := I.write (x := m k) (e := m k) (o := RawD (m k) es ep) (h' := hp') (t' := st.toks + (nestedKind X.prog X.w).draws nk) mu (.inl rfl) (fun b' u' hb hu' => (sb.2 b' hb).trans hu') ⟨q0, hq0⟩ new
                have nks : nksOf (addK ks (ys.map (·.1)) (.tup xs) nk) = some ((if nk ∈ ys.map (·.1) then ys else ys ++ [(nk, b, .bool true)]).map (·.1)) := by
                  unfold addK
                  split
                  · exact hl
                  · rw [nksOf_snoc hl hn, List.map_append]
                    rfl
                have trs : ∀ x ∈ (if nk ∈ ys.map (·.1) then ys else ys ++ [(nk, b, .bool true)]), x.2.2 = .bool true := by
                  intro x hx
                  split at hx
                  · exact tr x hx
                  · rcases List.mem_append.mp hx with z | z
                    · exact tr x z
                    · rw [List.mem_singleton.mp z]
                have rds : RDs X.K m h.length H (addK ks (ys.map (·.1)) (.tup xs) nk) ((if nk ∈ ys.map (·.1) then ys else ys ++ [(nk, b, .bool true)]).map fun x => V.ref x.2.1) := by
                  unfold addK
                  split
                  · exact rd
                  · rw [List.map_append]
                    exact rd.append (.cons (.tup t1 t2) .nil)
                obtain ⟨e2, s2⟩ := s.write (i := k) (o := RawD (m k) es ep) (ob := .nkd (addK ks (ys.map (·.1)) (.tup xs) nk)) hk (fun im => ⟨es, ep, _, ⟨upd_same, sy, by rw [f3, hw]; rfl, nks, f5, trs, fun x hx => (f4 x hx).2, RDs.mono (Nat.le_refl _) (fun _ _ => rfl) im _ _ rds⟩⟩) nc mu
                exact ⟨_, I2, q m _ e2 s2⟩
          · cases hf
        · cases hf
      · cases hf
    · cases hf
  · exact q.elim
end
end FL
set_option Elab.async false
set_option linter.all false
set_option maxRecDepth 100000
set_option maxHeartbeats 2000000
namespace FL
open PySem PySem.Spec PyProof.Rows L2
section
variable {X : Cx} {pins : List (Addr × Obj)} {σ : L2.St} {H : Hp} {s : Shared} {g : Gc} {W : WX}
theorem paired_of : ∀ {vs : List V} {us : List Value}, vs.length = us.length → (∀ (j : Nat) (v : V) (u : Value), vs[j]? = some v → us[j]? = some u → RelV v u) → Vals vs us
  | [], [], _, _ => .nil
  | [], _ :: _, h, _ => by simp at h
  | _ :: _, [], h, _ => by simp at h
  | v :: vs, u :: us, h, r => .cons (r 0 v u rfl rfl) (paired_of (by simpa using h) fun j v' u' e1 e2 => r (j + 1) v' u' (by simpa using e1) (by simpa using e2))
theorem sortK_core {k i : Nat} {params : Arguments} {body : Expr} {scope : Scope} {own : List (Str × Nat)} {fe : FE} {δ : DS} {f c' a : Addr} {hp : Heap} {tk : Nat} {its : List Value} {E' : Value → Shared → Prop} {pm ctv : Value} {m : Nat → Addr} {h : VH} {xs : List FL.D} {us : List V} {ll : List (FL.D × PyData)} {Q : VK} (F : LamF X g k params body scope own i fe) (hN : X.N.Nodup) (hr : Room (k + 1 + 1 + 1) X.A)
    (I : Inv X (pins ++ [(f, PySem.W.kla_obj "<lambda>" (X.env.qual ++ "<lambda>") params body scope (cloFrom X.env.cells scope.names []) pm c' ctv)]) σ H s) (sm : Sim X.K g m h H) (rr : RS X.K m h.length H δ σ) (hc : H c' = some (LamX.CodeO c' (X.env.qual ++ "<lambda>")))
    (rv : Vals us its) (hz : us.length ≤ sizeLine) (ru : RDs X.K m h.length H xs us) (hk : allS (xs.map (keyC (own.map (·.2)) i fe δ h)) = some ll) (al : alikes (ll.map (·.2)) = true) (so : sortable (ll.map (·.2)) = true)
    (q : GoodE X.K g (fun c d H' => W c d σ H') m h.length H Q (.ok (.fls (sortD (xs.zip (ll.map (·.2))))) h)) (ho : hp.get? a = some (seqObj "list" its.toArray 0)) (k1 : ∀ b o, s.heap.get? b = some o → hp.get? b = some o) (hsa0 : s.heap.objs.size ≤ a) :
    wpAny (model X.prog X.w) X.A.in1.in1 (Builtin.«list.sort» ⟨[.ref a], [(Str.ofString "key", .ref f)]⟩) (fun r s' => r = .done (.ret .none) ∧ EP X pins σ Q (.ref a) s') E' { s with heap := hp, toks := tk } := by
  have hlen := rv.length
  have hZ : its.length ≤ sizeLine := by rw [← hlen]; exact hz
  have hxl := ru.length
  have hll : ll.length = xs.length := allS_len hk
  have lt0 : ∀ b o, s.heap.get? b = some o → b ≠ a := fun b o e => Nat.ne_of_lt (Nat.lt_of_lt_of_le (Heap.lt_size e) hsa0)
  rw [ksk_t1]
  have ha : a < hp.objs.size := Heap.lt_size ho
  have s1 := Heap.SameBut.update hp a (Obj.mapSeq fun _ => (#[] : Array Value))
  obtain ⟨e1, ho1⟩ : ∃ e1, (hp.update a (Obj.mapSeq fun _ => (#[] : Array Value))).get? a = some (seqObj "list" #[] e1) := ⟨_, get?_update_seq ho fun _ => #[]⟩
  have hkS : ((hp.update a (Obj.mapSeq fun _ => (#[] : Array Value))).push (seqObj "tuple" its.toArray 0)).objs.size = hp.objs.size + 1 := by rw [size_push', Heap.size_update]
  unfold ksk_tree
  refine wpAny_bind (listItems_at ho rfl ?_)
  refine wpAny_bind (listUpdate_at ho rfl ?_ (by rw [List.size_toArray]; exact hZ) (Nat.zero_le _))
  refine wpAny_bind (seqEpoch_at ho1 rfl ?_)
  refine wpAny_bind (wpAny_newTuple ?_ (by show its.length ≤ _; exact hZ))
  refine wpAny_bind (wpAny_newList ?_ (Nat.zero_le _))
  refine wpAny_holding ?_
  show wpAny _ _ (ksk_rest a (.ref f) false its.toArray e1 (.ref ((hp.update a (Obj.mapSeq fun _ => (#[] : Array Value))).push (seqObj "tuple" its.toArray 0)).objs.size)) _ _ { s with toks := tk, heap := ((hp.update a (Obj.mapSeq fun _ => (#[] : Array Value))).push (seqObj "tuple" its.toArray 0)).push (seqObj "list" #[] 0) }
  have hkat : (((hp.update a (Obj.mapSeq fun _ => (#[] : Array Value))).push (seqObj "tuple" its.toArray 0)).push (seqObj "list" #[] 0)).get? (hp.objs.size + 1) = some (seqObj "list" #[] 0) := by rw [← hkS]; exact Heap.get?_push_size _ rfl
  have hat : (((hp.update a (Obj.mapSeq fun _ => (#[] : Array Value))).push (seqObj "tuple" its.toArray 0)).push (seqObj "list" #[] 0)).get? a = some (seqObj "list" #[] e1) := Heap.get?_push_of_some _ (Heap.get?_push_of_some _ ho1)
  have k2 : ∀ b o, s.heap.get? b = some o → (((hp.update a (Obj.mapSeq fun _ => (#[] : Array Value))).push (seqObj "tuple" its.toArray 0)).push (seqObj "list" #[] 0)).get? b = some o := fun b o e => Heap.get?_push_of_some _ (Heap.get?_push_of_some _ ((s1.2 b (lt0 b o e)).trans (k1 b o e)))
  rw [hkS]
  generalize (((hp.update a (Obj.mapSeq fun _ => (#[] : Array Value))).push (seqObj "tuple" its.toArray 0)).push (seqObj "list" #[] 0)) = h4 at hkat hat k2 ⊢
  have hka : hp.objs.size + 1 ≠ a := Nat.ne_of_gt (Nat.lt_succ_of_lt ha)
  have hsz : s.heap.objs.size ≤ hp.objs.size + 1 := Nat.le_succ_of_le (Nat.le_trans hsa0 (Nat.le_of_lt ha))
  have hsa : s.heap.objs.size ≤ a := hsa0
  generalize hp.objs.size + 1 = kS at hkat hka hsz ⊢
  have fk : ∀ H', H' kS = none → FpOk X (pins ++ [(f, PySem.W.kla_obj "<lambda>" (X.env.qual ++ "<lambda>") params body scope (cloFrom X.env.cells scope.names []) pm c' ctv)]) H' kS := fun H' hn => I.fpOk hsz hn
  have fa : ∀ H', H' a = none → FpOk X (pins ++ [(f, PySem.W.kla_obj "<lambda>" (X.env.qual ++ "<lambda>") params body scope (cloFrom X.env.cells scope.names []) pm c' ctv)]) H' a := fun H' hn => I.fpOk hsa hn
  have I4 : Inv X (pins ++ [(f, PySem.W.kla_obj "<lambda>" (X.env.qual ++ "<lambda>") params body scope (cloFrom X.env.cells scope.names []) pm c' ctv)]) σ H { s with heap := h4, toks := tk } := I.kept k2
  have nk := I.hok.fresh hsz
  have na := I.hok.fresh hsa
  have I5 := FL.Inv.pin1 (FL.Inv.pin1 I4 (fk H nk) hkat (fun v z => by cases z)) (o := seqObj "list" #[] e1) (a := a) ⟨na, (fa H na).2.1, (fa H na).2.2.1, (fa H na).2.2.2.1, (fa H na).2.2.2.2.1, fun p hp => by
    rcases List.mem_append.mp hp with z | z
    · exact (fa H na).2.2.2.2.2 p (List.mem_append_left _ z)
    · rcases List.mem_append.mp z with z | z
      · exact (fa H na).2.2.2.2.2 p (List.mem_append_right _ z)
      · rw [List.mem_singleton.mp z]
        exact hka⟩ hat (fun v z => by cases z)
  rw [List.append_assoc] at I5
  refine sort_keys (ys := ll.map (·.1)) (g := g) (m0 := m) (h := h) (H0 := H) (by rw [List.length_map, hll, hxl, hlen]) hZ hka fk fa ⟨m, H, #[], 0, [], I5, sm, Ext.refl, .nil, by rw [List.take_zero]; exact .nil⟩ (fun j v y hv hy s' pins' m1 H1 I1 sm1 ex1 => ?_) fun s' kA e m1 H1 ws I1 sm1 ex1 vw rw' => ?_
  · have hj : j < us.length := by
      have := (List.getElem?_eq_some_iff.mp hv).1
      omega
    obtain ⟨x, hx⟩ : ∃ x, xs[j]? = some x := ⟨_, List.getElem?_eq_getElem (by omega)⟩
    obtain ⟨u, hu, rx⟩ := ru.get hx
    obtain ⟨v', hv', rv'⟩ := rv.get hu
    rw [hv] at hv'
    cases hv'
    obtain ⟨⟨y', p⟩, hb, hkx⟩ := allS_get hk hx
    rw [List.getElem?_map, hb] at hy
    cases hy
    obtain ⟨he, hp⟩ := keyC_some hkx
    have pf := I1.pin (f, PySem.W.kla_obj "<lambda>" (X.env.qual ++ "<lambda>") params body scope (cloFrom X.env.cells scope.names []) pm c' ctv) (List.mem_append_right _ (List.mem_append_left _ (List.mem_append_right _ List.mem_cons_self)))
    refine lam_call (A := X.A.in1.in1) F hN I1 pf.1 (Ext.code sm ex1 hc) hr.in1.in1 I.ok.frames rv' ?_
    refine ⟨(FL.wipe δ (own.map (·.2))).set i (some x), m1, h, ((RS.wipe (ex1.rs rr) _).set i (ex1.rd rx)), sm1, ?_⟩
    rw [he]
    exact fun m2 H2 e2 s2 w r2 => ⟨m2, s2, e2, r2⟩
  · have hu : X.A.in1.in1.units + 13 < cLine := by
      have := hr.un
      show X.A.units + 1 + 1 + 13 < cLine
      omega
    have pk := I1.pin (kS, seqObj "list" kA e) (List.mem_append_right _ (List.mem_append_right _ List.mem_cons_self))
    have pa := I1.pin (a, seqObj "list" #[] e1) (List.mem_append_right _ (List.mem_append_right _ (List.mem_cons_of_mem _ List.mem_cons_self)))
    refine sort_end hu hZ hka (fk H1 pk.2.1) (fa H1 pa.2.1) I1 sm1 vw rw' rv (ex1.rds ru) (keys_nil hk) (by rw [List.length_map]; exact hll) al so fun h3 tk zs I6 rz => ⟨rfl, ?_⟩
    have I7 := FL.Inv.pinsub I6 fun p hp => List.mem_append_left _ hp
    exact ep_fz ⟨.ref a, _, I7, rfl, sm1.fls pa.2.1 rz fun m2 H2 v e2 s2 r2 => q m2 H2 (ex1.trans e2) s2 v r2⟩
theorem sortKN_run {k i : Nat} {params : Arguments} {body : Expr} {scope : Scope} {own : List (Str × Nat)} {fe : FE} {δ : DS} {f c' : Addr} {pm ctv : Value} {m : Nat → Addr} {h : VH} {xs : List FL.D} {ll : List (FL.D × PyData)} {Q : VK} {kk : Nat} (hw : g.hw = fun k => NestedKey.hash X.w k) (F : LamF X g k params body scope own i fe) (hN : X.N.Nodup) (hr : Room (k + 1 + 1 + 1) X.A)
    (I : Inv X (pins ++ [(f, PySem.W.kla_obj "<lambda>" (X.env.qual ++ "<lambda>") params body scope (cloFrom X.env.cells scope.names []) pm c' ctv)]) σ H s) (sm : Sim X.K g m h H) (rr : RS X.K m h.length H δ σ) (hc : H c' = some (LamX.CodeO c' (X.env.qual ++ "<lambda>")))
    (hkk : kk < h.length) (ed : nkdOf h[kk]? = some xs) (hk : allS (xs.map (keyC (own.map (·.2)) i fe δ h)) = some ll) (al : alikes (ll.map (·.2)) = true) (so : sortable (ll.map (·.2)) = true) (hlx : xs.length ≤ 16777216)
    (q : GoodE X.K g (fun c d H' => W c d σ H') m h.length H Q (.ok (.fls (sortD (xs.zip (ll.map (·.2))))) h)) :
    wpAny (model X.prog X.w) X.A (call (.builtin "sorted") [.ref (m kk)] [(Str.ofString "key", .ref f)]) (EP X pins σ Q) X.xe s := by
  obtain ⟨ys, dd, e1, tr, rd, sy, mu, nc⟩ := nk_dict I sm hw hkk ed
  obtain ⟨o, es, ep, ho, hx, hd, hes, his, nd⟩ := id dd
  have raw : s.heap.DictRaw (m kk) es ep := ⟨o, ho, hx, hd⟩
  have hsz : es.size = ys.length := size_of_entries hes
  have hyx : ys.length = xs.length := by
    have := rd.length
    rw [List.length_map] at this
    exact this.symm
  have hZ : es.size ≤ sizeLine := by rw [hsz, hyx, sizeLine_eq]; exact hlx
  refine call_function_entry_kw PyProof.Rows.kind_sorted PyProof.Rows.plain_sorted PyProof.Rows.entry_sorted (ksk_s1 _ _) ?_
  unfold Builtin.«sorted»
  refine wpAny_bind (m := checkCount "sorted" 1 1 _) (wpAny_pure ?_)
  refine wpAny_bind (PySem.W.kdu_collect (A := X.A.in1) (KdlSrc.rawDict sy) hr.hd raw hZ fun h' tk acc hk' hacc => ?_)
  have hal : acc.toList.length = ys.length := by rw [Array.length_toList, hacc.1, hsz]
  have va : Vals (ys.map fun x => V.ref x.2.1) acc.toList := by
    refine paired_of (by rw [List.length_map, hal]) fun j v u e1 e2 => ?_
    obtain ⟨hi, hv⟩ := hacc.2 j u (by rw [← Array.getElem?_toList]; exact e2)
    rw [List.getElem?_map] at e1
    cases ey : ys[j]? with
    | none => rw [ey] at e1; cases e1
    | some y =>
      rw [ey] at e1
      cases e1
      have := entry_at hes j
      rw [ey, Array.getElem?_eq_getElem hi] at this
      have this := Option.some.inj this
      rw [hv, this]
      rfl
  refine wpAny_bind (wpAny_newList ?_ (by rw [hal, ← hsz]; exact hZ))
  have hoL : (h'.push (seqObj "list" acc.toList.toArray 0)).get? h'.objs.size = some (seqObj "list" acc.toList.toArray 0) := Heap.get?_push_size _ rfl
  have I1 := I.kept (t' := tk) hk'
  show wpAny _ _ _ _ _ { s with heap := h'.push (seqObj "list" acc.toList.toArray 0), toks := tk }
  refine wpAny_bind (wpAny_holding (wpAny_call_entry_kw PySem.F.slot_list_sort ⟨_, hoL, rfl⟩ PySem.F.entry_list_sort ?body (ksk_l1 _ _)))
  case body =>
    refine wpAny_mono (sortK_core (s := { s with heap := h', toks := tk }) (tk := tk) (its := acc.toList) F hN hr I1 sm rr hc va (by rw [List.length_map, ← hsz]; exact hZ) rd hk al so q hoL (fun b o e => Heap.get?_push_of_some _ e) (Nat.le_refl _)) (fun f s' hf => ?_) fun _ _ e => e
    obtain ⟨rfl, hq⟩ := hf
    exact ⟨_, rfl, wpAny_pure ⟨_, rfl, hq⟩⟩
def nkX (x : FL.D) (h : VH) : Option (List FL.D) := match x with
  | .ref k => nkdOf h[k]?
  | _ => none
theorem nkX_some {x : FL.D} {h : VH} {xs : List FL.D} (e : nkX x h = some xs) : ∃ k, x = .ref k ∧ nkdOf h[k]? = some xs := by
  cases x with
  | ref k => exact ⟨k, rfl, e⟩
  | _ => cases e
noncomputable def eSortKN (a : FE) (own : List Nat) (i : Nat) (fe : FE) : FE := fun δ h => (a δ h).bind fun x h => match nkX x h with
  | some xs => match allS (xs.map (keyC own i fe δ h)) with
    | some l => if (decide (xs.length ≤ 16777216) && (alikes (l.map (·.2)) && sortable (l.map (·.2)))) = true then .ok (.fls (sortD (xs.zip (l.map (·.2))))) h else .bad
    | none => .bad
  | none => .bad
theorem fe_sortKN {c P : Addr} {k i : Nat} {ae : Expr} {params : Arguments} {body : Expr} {scope : Scope} {own : List (Str × Nat)} {sl : List Nat} {fa fe : FE} {p lpos kpos pos : Pos} (hw : g.hw = fun k => NestedKey.hash X.w k) (hm : X.mg "sorted" = none) (TB : LamX.TabB X.base X.mg c P) (hcode : X.env.code = .ref c)
    (hmT : (P, X.env.qual ++ "<lambda>") ∈ g.T) (hu : ∀ p ∈ g.T, p.1 = P → p.2 = X.env.qual ++ "<lambda>") (hN : X.N.Nodup) (hr : Room (k + 1 + 1 + 1) X.A) (ha : PE X ae (rd X.K g W fa)) (F : LamF X g k params body scope own i fe) (hdef : defaultsOf params X.env = ([], [])) (hsl : own.map (·.2) = sl := by rfl) (hgl : Gl X "sorted" := by rfl)
    (he : backTo pos (starEach [ae] X.env) = (false, eval ae X.env) :: backTo pos (starEach [] X.env) := by rfl) (hpl : (backTo pos (starEach [ae] X.env)).any (·.1) = false := by rfl) :
    PE X (.Call (.Name "sorted" p) [ae] [⟨some "key", .Lambda params body scope lpos, kpos⟩] pos) (rd X.K g W (eSortKN fa sl i fe)) := by
  subst hsl
  refine ⟨fun pins s σ H Q I hh => ?_⟩
  obtain ⟨δ, m, h, r, sm, q⟩ := hh
  refine wpAny_Call_Name_kw (ld_blt I hgl hm (u := .builtin "sorted") (by decide +kernel) ?_)
  refine PyProof.Rows.callWith_kw ?_ he hpl rfl rfl
  rw [he]
  refine Calls.spliced_cons (thn (ha.run pins s σ H (fun v H1 => ∃ x m1 h1 xs ll, Ext m h.length H m1 h1.length H1 ∧ Sim X.K g m1 h1 H1 ∧ RD X.K m1 h1.length H1 x v ∧ nkX x h1 = some xs ∧ allS (xs.map (keyC (own.map (·.2)) i fe δ h1)) = some ll ∧ alikes (ll.map (·.2)) = true ∧ sortable (ll.map (·.2)) = true ∧ xs.length ≤ 16777216 ∧
      GoodE X.K g (fun c d H' => W c d σ H') m1 h1.length H1 Q (.ok (.fls (sortD (xs.zip (ll.map (·.2))))) h1)) I ⟨δ, m, h, r, sm, Gd.bind q fun x h1 m1 H1 e1 s1 q1 v rv => ?_⟩) fun u s1 ⟨v, H1, I1, r1, x, m1, h1, xs, ll, e1, s1', rv, el, ek, al, so, hlx, q1⟩ => ?_)
  · cases el : nkX x h1 with
    | none => rw [el] at q1; exact q1.elim
    | some xs =>
      rw [el] at q1
      simp only at q1
      cases ek : allS (xs.map (keyC (own.map (·.2)) i fe δ h1)) with
      | none => rw [ek] at q1; exact q1.elim
      | some ll =>
        rw [ek] at q1
        simp only at q1
        split at q1
        · rename_i hc
          rw [Bool.and_eq_true, Bool.and_eq_true] at hc
          exact ⟨x, m1, h1, xs, ll, e1, s1, rv, el, ek, hc.2.1, hc.2.2, of_decide_eq_true hc.1, q1⟩
        · exact q1.elim
  · refine Calls.spliced_nil ?_
    show wpAny _ _ (evalAll [(do let v ← eval (.Lambda params body scope lpos) X.env; standAt pos; pure v)]) _ _ s1
    refine wpAny_evalAll_cons (wpAny_bind ?_)
    refine lam_mk I1 s1' TB hcode hmT hu F.C hdef fun f c' pm ctv H2 s2 I2 e2 sm2 hc => wpAny_bind (wpAny_standAt (wpAny_pure (wpAny_evalAll_nil ?_)))
    obtain ⟨kk, rfl, ed⟩ := nkX_some el
    cases rv with
    | ref hkk =>
      have rr := (e1.trans e2).rs r
      obtain rfl : u = Value.ref (m1 kk) := r1
      exact sortKN_run hw F hN hr I2 sm2 rr hc hkk ed ek al so hlx (Gd.from e2 q1)
end
end FL
set_option Elab.async false
set_option linter.all false
set_option maxRecDepth 100000
set_option maxHeartbeats 2000000
namespace FL
open PySem PySem.Spec PyProof.Rows L2
section
variable {prog : Program} {w : World} {A : Around} {E : Value → Shared → Prop} {s : Shared}
theorem same_empty {nm : String} {a b : Addr} {es : Array DictEntry} {ep ep' : Nat} {Q : Bool → Shared → Prop} (ha : (a == sysModules) = false) (hb : (b == sysModules) = false) (da : s.heap.DictRaw a es ep) (db : s.heap.DictRaw b #[] ep') (h : Q (es.size == 0) s) :
    wpAny (model prog w) A (Builtin.Dict.samePairs nm a b) Q E s := by
  obtain ⟨oa, hoa, _, hda⟩ := da
  obtain ⟨ob, hob, _, hdb⟩ := db
  unfold Builtin.Dict.samePairs Builtin.Dict.showsAll
  rw [if_neg (show ¬ (a == sysModules) = true by rw [ha]; exact Bool.false_ne_true), if_neg (show ¬ (b == sysModules) = true by rw [hb]; exact Bool.false_ne_true)]
  refine wpAny_bind (wpAny_pure (wpAny_bind (wpAny_pure ?_)))
  refine wpAny_bind (wpAny_dictEntries hoa hda ?_)
  dsimp only
  refine wpAny_bind (wpAny_dictEntries hob hdb ?_)
  by_cases hsz : es.size = 0
  case neg =>
    rw [if_pos (by simpa using hsz)]
    have hbf : (es.size == 0) = false := by simpa using hsz
    rw [hbf] at h
    exact wpAny_bind (wpAny_rule (wpAny_pure h))
  case pos =>
    have h' : Q true s := by simpa [hsz] using h
    rw [if_neg (by rw [hsz]; simp)]
    refine wpAny_bind (wpAny_dictEpoch hoa hda ?_)
    refine wpAny_bind ?_
    rw [Std.Legacy.Range.forIn_eq_forIn_range']
    simp only [Std.Legacy.Range.size, Nat.sub_zero, Nat.add_sub_cancel, Nat.div_one, hsz]
    exact wpAny_pure (wpAny_pure h')
theorem rc_empty {a b : Addr} {es : Array DictEntry} {ep ep' : Nat} (ha : (a == sysModules) = false) (hb : (b == sysModules) = false) (da : s.heap.DictRaw a es ep) (db : s.heap.DictRaw b #[] ep') (hu : A.units < cLine) (E Q : Value → Shared → Prop) (h : Q (.bool (es.size == 0)) s) : wpAny (model prog w) A (richCompare .Eq (.ref a) (.ref b)) Q E s := by
  refine wpAny_richCompare_same_room (op := .Eq) da.typeIs db.typeIs PySem.F.slot_dict_eq (wpAny_call_entry PySem.F.slot_dict_eq da.typeIs PySem.F.entry_dict_eq ?_ (PySem.F.args_dict_eq_2 _ _)) hu
  show wpAny _ _ (Builtin.Dict.dictSlotArgs "__eq__" ⟨[.ref a, .ref b], []⟩ >>= _) _ _ s
  refine wpAny_bind ?_
  unfold Builtin.Dict.dictSlotArgs
  refine wpAny_bind (wpAny_notOrdered_dict da.typeIs ?_)
  show wpAny _ _ (pure (Value.ref a, Value.ref b)) _ _ s
  refine wpAny_pure ?_
  refine wpAny_bind (wpAny_isInstance (T := "dict") db.typeIs PySem.F.sub_dict_dict ?_)
  simp only [Bool.not_true, Bool.false_eq_true, if_false]
  refine wpAny_bind (wpAny_pure (wpAny_bind (wpAny_pure ?_)))
  refine wpAny_bind (same_empty ha hb da db ?_)
  refine wpAny_pure ⟨_, rfl, ?_, ?_⟩
  · exact fun x => nomatch x
  · simpa using h
end
def isEd : Option O → Bool
  | some (.dct []) => true
  | _ => false
def cEqN : Op2
  | .ref k, .ref j, h => match nkdOf h[k]? with
    | some ks => if isEd h[j]? = true then some (.bl ks.isEmpty, h) else none
    | none => none
  | _, _, _ => none
section
variable {X : Cx} {g : Gc}
theorem or_eqN (hu : X.A.units + 64 < cLine) (hw : g.hw = fun k => NestedKey.hash X.w k) : OpR X (compareOp .Eq) (rO2 X.K g cEqN) := by
  rintro pins st σ H x y v u Q I rx ry ⟨m, h, d, e, s, r1, r2, q⟩
  unfold cEqN at q
  split at q
  · rename_i k j
    cases r1 with
    | ref hk =>
      cases r2 with
      | ref hj =>
        cases ek : nkdOf h[k]? with
        | none => rw [ek] at q; exact q.elim
        | some ks =>
          rw [ek] at q
          dsimp only at q
          split at q
          · rename_i he
            obtain ⟨ys, dd, e1, tr, rd, sy, mu, nc⟩ := nk_dict I s hw hk ek
            have ek2 : nkdOf h[j]? = some [] := by
              cases ej : h[j]? with
              | none => rw [ej] at he; cases he
              | some o =>
                rw [ej] at he
                unfold isEd at he
                split at he
                · rename_i eo
                  cases eo
                  rfl
                · cases he
            obtain ⟨ys2, dd2, e2, tr2, rd2, sy2, mu2, nc2⟩ := nk_dict I s hw hj ek2
            have hy2 : ys2 = [] := by
              cases ys2 with
              | nil => rfl
              | cons a l => cases rd2
            subst hy2
            obtain ⟨o, es, ep, ho, hx, hd, hes, his, nd⟩ := id dd
            obtain ⟨o2, es2, ep2, ho2, hx2, hd2, hes2, his2, nd2⟩ := id dd2
            have z2 : es2 = #[] := by
              have : es2.toList = [] := hes2
              exact Array.toList_inj.mp this
            subst z2
            cases (show v = Value.ref (m k) from rx)
            cases (show u = Value.ref (m j) from ry)
            have hsz : (es.size == 0) = ks.isEmpty := by
              rw [size_of_entries hes]
              have := rd.length
              rw [List.length_map] at this
              cases ks with
              | nil => simp at this; simp [← this]
              | cons a l => simp at this; simp [← this]
            refine rc_empty (ep := ep) (ep' := ep2) sy sy2 ⟨o, ho, hx, hd⟩ ⟨o2, ho2, hx2, hd2⟩ (by omega) _ _ ?_
            rw [hsz]
            exact ⟨.bl _, H, I, rfl, q m H _ Ext.refl s (.bl _)⟩
          · exact q.elim
  · exact q.elim
end
end FL
set_option Elab.async false
set_option linter.all false
set_option maxRecDepth 100000
set_option maxHeartbeats 2000000
namespace FL
open PySem PySem.Spec PyProof.Rows L2
def IteF (K : PySem.W.Frag) (a : Addr) (us : List V) : It := ⟨fun i H => Frz K H a us ∧ i < us.length, fun i H v H' => ∃ (T : Addr) (o : Obj) (x : V), v = .ref T ∧ H T = none ∧ o.dict = none ∧ H' = upd H T (.frz o (.tup [.int (i : Nat), x])) ∧ us[i]? = some x, fun i H => Frz K H a us ∧ us.length ≤ i⟩
theorem turn_enumF {P : Program} {w : World} {K : PySem.W.Frag} {elts : List Expr} {kk : Nat} {tpos : Pos} {us : List V} (a e it : Addr) :
    Turn P w K (.Tuple elts kk tpos) (IteF K a us) [e, it] e (fun i h => (∃ old, IsEnum h e it ((i : Nat) : Int) old) ∧ h.IsListIter it a i ∧ e ≠ it) where
  mem := by simp
  obj := fun i h st b hb => by
    obtain ⟨⟨old, he⟩, ⟨o, ho, hc, hd⟩, _⟩ := st
    have e' : b = e ∨ b = it := by simpa using hb
    rcases e' with z | z
    · rw [z]; exact ⟨_, he, fun v q => nomatch q⟩
    · rw [z]; exact ⟨o, ho, fun v q => by rw [hd] at q; cases q⟩
  keep := fun i h h' st k => let ⟨⟨old, he⟩, hi, hne⟩ := st; ⟨⟨old, k e (by simp) _ he⟩, hi.at fun o q => k it (by simp) o q, hne⟩
  item := by
    intro X hP hw hK hc i pins s σ H E I hf st hg
    subst hP hw hK
    obtain ⟨⟨old, he⟩, hit, hne⟩ := st
    obtain ⟨hq, hlt⟩ := hg
    have hx : us[i]? = some us[i] := List.getElem?_eq_getElem hlt
    obtain ⟨its, rv, p, hz⟩ := I.list hq.seq
    obtain ⟨u, hu, ru⟩ := rv.get hx
    have hel : e < s.heap.objs.size := Heap.lt_size he
    have hil : it < s.heap.objs.size := by obtain ⟨_, q, _⟩ := hit; exact Heap.lt_size q
    refine wpAny_pyNext_enum_item he hit p.isList (x := u) (by simpa using hu) hne fun h' ho hit' hT hsz hk => ?_
    refine ⟨_, rfl, wpAny_letOwnedTupleGo_enum (s := { s with heap := h', toks := s.toks + 1 }) ho fun h'' he' sb => ?_⟩
    have hT2 : h''.get? s.heap.objs.size = some { cls := .type "tuple", data := .seq #[.int i s.toks, u] } := (sb.2 _ (Nat.ne_of_gt hel)).trans hT
    have new : ObjOk X.prog X.w (upd H s.heap.objs.size (.frz { cls := .type "tuple", data := .seq #[.int i s.toks, u] } (.tup [.int (i : Nat), us[i]]))) h'' s.heap.objs.size (.frz { cls := .type "tuple", data := .seq #[.int i s.toks, u] } (.tup [.int (i : Nat), us[i]])) :=
      ⟨hT2, by show 2 ≤ sizeLine; decide, [.int i s.toks, u], .cons ⟨_, rfl⟩ (.cons ru .nil), ⟨_, hT2, rfl, _, rfl⟩⟩
    have I1 := I.turnedNew (t' := s.toks + 1) (ch := [e, it]) (fun b ob hb q => (sb.2 b (fun z => hb (by simp [z]))).trans (hk b ob (fun z => hb (by simp [z])) (fun z => hb (by simp [z])) q)) hf (Nat.le_refl _) new
    refine ⟨.ref s.heap.objs.size, _, I1, rfl, ⟨_, _, us[i], rfl, I.hok.fresh (Nat.le_refl _), rfl, rfl, hx⟩, ⟨⟨u, ?_⟩, hit'.at fun o q => (sb.2 it (Ne.symm hne)).trans q, hne⟩, fun b hb => ?_⟩
    · have e1 : ((i + 1 : Nat) : Int) = (i : Int) + 1 := by omega
      rw [e1]; exact he'
    · have hb' : b < s.heap.objs.size := by
        have e' : b = e ∨ b = it := by simpa using hb
        rcases e' with z | z
        · rw [z]; exact hel
        · rw [z]; exact hil
      rw [upd_ne (Nat.ne_of_lt hb')]
      exact (hf b hb).1
  done := by
    intro X hP hw hK hc i pins s σ H E I hf st hg
    subst hP hw hK
    obtain ⟨⟨old, he⟩, hit, hne⟩ := st
    obtain ⟨hq, hx⟩ := hg
    obtain ⟨its, rv, p, hz⟩ := I.list hq.seq
    obtain ⟨f0, f1, f2, f3, f4, f5⟩ := hf it (by simp)
    have hl := rv.length
    exact wpAny_pyNext_enum_end (I.ok.hd hc) he hit p.isList (by simp; omega) fun h' eb => ⟨rfl, I.turned (t' := s.toks) (fun b o hb q => eb b o hb q) f0 f1 f3 f4 f5⟩
  self := fun A i s Q E st h => let ⟨⟨_, he⟩, _⟩ := st; wpAny_pyIter_enum he h
def iEnumF (K : PySem.W.Frag) (ta : TA) : TI := fun σ H R => ta σ H fun vs H1 => ∃ a us, vs = [.ref a] ∧ Frz K H1 a us ∧ R (IteF K a us) H1
theorem pi_enumF {X : Cx} {e : Expr} {ta : TA} {p pos tpos : Pos} {elts : List Expr} {kk : Nat} (hg : Gl X "enumerate") (hm : X.mg "enumerate" = none) (ha : PA X [e] ta) (hs : starEach [e] X.env = [(false, eval e X.env)] := by rfl) :
    PI X (.Tuple elts kk tpos) (.Call (.Name "enumerate" p) [e] [] pos) (iEnumF X.K ta) := by
  refine ⟨fun pins s σ H R I h => ?_⟩
  refine Call_ (ld_blt I hg hm boot_enumerate (PyProof.Rows.callWith_type1 (thn (ha.run pos pins s σ H _ I h) fun us s1 ⟨vs, H1, I1, r1, q1⟩ => ?_) hs rfl))
  obtain ⟨a, xs, ex, hq, q⟩ := q1
  subst ex
  cases r1 with
  | cons r rr =>
    cases rr
    cases r
    obtain ⟨its, rv, p', hz⟩ := I1.list hq.seq
    refine call_enumerate_list p'.isList fun h' he hit hsz hk => wpAny_pyIter_enum he ?_
    have I2 : Inv X pins σ H1 { s1 with heap := h' } := I1.kept (t' := s1.toks) hk
    refine ⟨s1.heap.objs.size + 1, [s1.heap.objs.size + 1, s1.heap.objs.size], _, _, H1, rfl, I2, turn_enumF a (s1.heap.objs.size + 1) s1.heap.objs.size, ⟨⟨.none, he⟩, hit, Nat.succ_ne_self _⟩, fun b hb => ?_, q⟩
    have e' : b = s1.heap.objs.size + 1 ∨ b = s1.heap.objs.size := by simpa using hb
    have hle : s1.heap.objs.size ≤ b := by
      rcases e' with z | z
      · rw [z]; exact Nat.le_add_right _ _
      · rw [z]; exact Nat.le_refl _
    exact I1.fpOk hle (I1.hok.fresh hle)
theorem src_enumF {K : PySem.W.Frag} {g : Gc} {a : Addr} {xs : List FL.D} {us : List V} : SrcOk K g (IteF K a us) (enumFrom 0 xs) (fun m n H => Frz K H a us ∧ RDs K m n H xs us) where
  st := fun hn hm im c => ⟨im.fz c.1, RDs.mono hn hm im _ _ c.2⟩
  stop := fun m n H i c hi => by
    rw [enumFrom_len, c.2.length] at hi
    exact ⟨c.1, hi⟩
  item := fun m h H i x sm c hx => by
    rw [enumFrom_get] at hx
    cases hli : xs[i]? with
    | none => rw [hli] at hx; cases hx
    | some d =>
      rw [hli] at hx
      simp only [Option.map_some, Option.some.injEq, Nat.zero_add] at hx
      subst hx
      obtain ⟨v, hv, rv⟩ := c.2.get hli
      refine ⟨⟨c.1, (List.getElem?_eq_some_iff.mp hv).1⟩, ?_⟩
      rintro y H' ⟨T, o, x', rfl, hT, ho, rfl, hc'⟩
      rw [hv] at hc'
      cases hc'
      obtain ⟨e, s'⟩ := sm.tup (o := .frz o (.tup [.int (i : Nat), v])) hT
      exact ⟨e, s', .tup (.of upd_same ho) (.cons (.int _) (.cons (e.rd rv) .nil))⟩
def sForE (r : FA) (g : FG) (b : FSt) : FSt := fun δ h => thenS δ (r δ h) fun xs h => match xs with
  | [.fls xs] => forT g b (enumFrom 0 xs) δ h
  | _ => .bad
section
variable {X : Cx} {g : Gc} {W : WX} {sb : FSt} {f : FG} {r : FA} {own : List Nat} {e : Expr} {elts : List Expr} {kk : Nat} {tpos : Pos} {body : List Stmt} {pos p p2 : Pos}
theorem fs_forE (hp : PassesOwn (model X.prog X.w) X.A X.env X.xe) (hc : X.calm = true) (hm : X.mg "enumerate" = none) (ha : PA X [e] (FL.ra X.K g W r)) (hg : PG X (.Tuple elts kk tpos) (rg X.K g own f)) (hb : PSs X body (rs X.K g W sb)) (hgl : Gl X "enumerate" := by rfl) (hs : starEach [e] X.env = [(false, eval e X.env)] := by rfl)
    (hfs : ∀ x, foldedSetIterable (.Call (.Name "enumerate" p) [e] [] p2) X.env x = pure x := by intro _; rfl) :
    PS X (.For (.Tuple elts kk tpos) (.Call (.Name "enumerate" p) [e] [] p2) body [] pos) (rs X.K g W (FL.sForE r f sb)) := ps_weak (ps_for hp hc (pi_enumF hgl hm ha hs) hg hb hfs) (by
  rintro D σ H ⟨δ, m, h, rr, s, q⟩
  have q : GoodS X.K g W m h.length H D (thenS δ (r δ h) fun xs h => match xs with
    | [.fls xs] => forT f sb (enumFrom 0 xs) δ h
    | _ => .bad) := q
  refine ⟨δ, m, h, rr, s, GoodS.thn rr q fun ds h1 m1 H1 e1 s1 q1 vs rv => ?_⟩
  split at q1
  · rename_i xs
    cases rv with
    | cons r1 rv =>
      cases rv
      cases r1 with
      | fls t1 u1 => exact ⟨_, _, rfl, t1, for_src src_enumF ⟨t1, u1⟩ (e1.rs rr) s1 q1⟩
  · exact q1.elim)
end
end FL
set_option Elab.async false
set_option linter.all false
set_option maxRecDepth 100000
set_option maxHeartbeats 2000000
namespace FL
open PySem PySem.Spec PyProof.Rows L2
def bDictC : List FL.D → VH → Option (FL.D × VH)
  | [.ref k], h => match h[k]? with
    | some (.dct kvs) => some (.ref h.length, h ++ [.dct kvs])
    | _ => none
  | _, _ => none
@[simp] theorem ap_bDictC {k : Nat} {h : VH} : bDictC [.ref k] h = match h[k]? with
    | some (.dct kvs) => some (.ref h.length, h ++ [.dct kvs])
    | _ => none := (rfl)
end FL
set_option Elab.async false
set_option linter.all false
set_option maxRecDepth 100000
set_option maxHeartbeats 2000000
namespace FL
open PySem PySem.Spec PyProof.Rows L2
end FL
set_option Elab.async false
set_option linter.all false
set_option maxRecDepth 100000
set_option maxHeartbeats 2000000
namespace FL
open PySem PySem.Spec PyProof.Rows L2
section
variable {X : Cx} {pins : List (Addr × Obj)} {σ : L2.St} {H : Hp} {s : Shared}
theorem inv_lamO {L : LamD} {cl : List (Str × Addr)} {c' : Addr} {o : Obj} {t' : Nat} {pm ctv : Value} (I : Inv X pins σ H s) (ho : o = PySem.W.kla_obj "<lambda>" L.qual L.params L.body L.scope cl pm c' ctv) :
    Inv X pins σ (upd H s.heap.objs.size (.frz o (LamO s.heap.objs.size L cl c'))) { s with heap := s.heap.push o, toks := t' } := by
  refine I.laid (a := s.heap.objs.size) (fun b u e => Heap.get?_push_of_some _ e) (Nat.le_refl _) ?_
  have e : (s.heap.push o).get? s.heap.objs.size = some o := Heap.get?_push_size _ (by rw [ho]; rfl)
  refine ⟨e, ⟨pm, ctv, by rw [e, ho]⟩, ⟨_, e⟩, fun h1 h2 ⟨p, d, z⟩ st => ⟨p, d, st _ z⟩⟩
theorem lam_make3 {T : List (Addr × Str)} {c P : Addr} {L : LamD} {pos : Pos} {E : Value → Shared → Prop} {Q : Value → Shared → Prop} (I : Inv X pins σ H s) (TB : LamX.TabB X.base X.mg c P) (hcode : X.env.code = .ref c)
    (hm : (P, X.env.qual ++ "<lambda>") ∈ T) (hu : ∀ p ∈ T, p.1 = P → p.2 = X.env.qual ++ "<lambda>") (hT : LamX.Tabs T H) (hdef : defaultsOf L.params X.env = ([], [])) (hfree : ∀ y ∈ L.scope.names, y.2 = .free → ∃ c, X.env.cells.lookup y.1 = some c) (hq : L.qual = X.env.qual ++ "<lambda>")
    (h : ∀ (f c' : Addr) (o : Obj) (H1 : Hp) (s' : Shared), Inv X pins σ H1 s' → LamX.ExtN H H1 → LamX.Tabs T H1 → H f = none →
      H1 f = some (.frz o (LamO f L (cloFrom X.env.cells L.scope.names []) c')) → H1 c' = some (LamX.CodeO c' L.qual) → Q (.ref f) s') :
    wpAny (model X.prog X.w) X.A (eval (.Lambda L.params L.body L.scope pos) X.env) Q E s := by
  obtain ⟨ps, hP, ht, ha⟩ := hT _ hm
  refine PySem.W.kla_eval hdef ?_
  rw [← hq] at hm hu ha ⊢
  have bP : s.heap.BuiltinsAt X.mg P := TB.bm.keeps I.bk
  have hP' : s.heap.get? P = some { cls := .none, data := .fields ps } := I.hok P _ hP
  cases hc : codeAmong pos ps.toList with
  | none =>
    refine PySem.W.kla_makeFunction (mg := X.mg) (c := c) (P := P) (ps := ps) (closure_ok hfree) I.ok.glob (I.mod.glob.keeps I.bk) hcode (TB.code.keeps I.bk) hP' ht hc TB.gP bP fun c' ctv h' tk hx hge hlt hrec htb => ?_
    obtain ⟨c2, oc, vs, t, e2, hoc, hd, hv⟩ := hrec
    cases e2
    have hsz : s.heap.objs.size ≤ h'.objs.size := Nat.le_trans hge (Nat.le_of_lt hlt)
    have nC : H c' = none := I.hok.fresh hge
    have I1 := LamX.inv_table (t' := tk) (more := #[rawInt pos.line, rawInt pos.col, .ref c']) (h' := h') I hP (fun b o hb e => hx b o hb e) htb hge ⟨oc, vs, t, hoc, hd, hv⟩
    have hE : LamX.ExtN H (upd (upd H P (.tbl (ps ++ #[rawInt pos.line, rawInt pos.col, .ref c']))) c' (LamX.CodeO c' L.qual)) := fun b o e n => by
      rw [upd_ne (ne_of_none e nC), upd_ne (fun z => n ps (Option.some.inj (e.symm.trans (by rw [z]; exact hP))))]
      exact e
    have eL : (ps ++ #[rawInt pos.line, rawInt pos.col, .ref c']).toList = ps.toList ++ [rawInt pos.line, rawInt pos.col, .ref c'] := by simp
    have T1 : LamX.Tabs T (upd (upd H P (.tbl (ps ++ #[rawInt pos.line, rawInt pos.col, .ref c']))) c' (LamX.CodeO c' L.qual)) := fun p hp => by
      by_cases hb : p.1 = P
      · rw [hu p hp hb, hb]
        refine ⟨_, by rw [upd_ne (ne_of_none hP nC), upd_same], by rw [eL]; exact PySem.TriplesOk_snoc _ _ _ _ ht, fun p' cv hcv => ?_⟩
        rw [eL] at hcv
        rcases LamX.among_app _ ht hcv with z | z
        · obtain ⟨c0, e1, e2⟩ := ha p' cv z
          exact ⟨c0, e1, hE _ _ e2 LamX.codeO_ne⟩
        · exact ⟨c', z, upd_same⟩
      · obtain ⟨ps', a1, a2, a3⟩ := hT p hp
        refine ⟨ps', by rw [upd_ne (ne_of_none a1 nC), upd_ne hb]; exact a1, a2, fun p' cv hcv => ?_⟩
        obtain ⟨c0, e1, e2⟩ := a3 p' cv hcv
        exact ⟨c0, e1, hE _ _ e2 LamX.codeO_ne⟩
    have nF := I1.hok.fresh (Nat.le_refl _)
    have I2 := inv_lamO (L := L) (cl := cloFrom X.env.cells L.scope.names []) (c' := c') (t' := tk) (pm := (X.mg "__name__").getD .none) (ctv := ctv) I1 rfl
    refine h h'.objs.size c' _ _ _ I2 (fun b o e n => ?_) (T1.ext fun b o e => ?_) (I.hok.fresh hsz) upd_same ?_
    · exact (upd_ne (ne_of_none (hE b o e n) nF)).trans (hE b o e n)
    · exact (upd_ne (ne_of_none e nF)).trans e
    · exact (upd_ne (Nat.ne_of_lt hlt)).trans upd_same
  | some cv =>
    obtain ⟨c', e, hco⟩ := ha pos cv hc
    subst e
    refine PySem.W.kla_makeFunctionHit (mg := X.mg) (c := c) (P := P) (ps := ps) (closure_ok hfree) I.ok.glob (I.mod.glob.keeps I.bk) hcode (TB.code.keeps I.bk) hP' ht hc bP fun ctv h' tk hx hsz => ?_
    have I1 : Inv X pins σ H { s with heap := h', toks := tk } := I.kept hx
    have nF : H h'.objs.size = none := I1.hok.fresh (Nat.le_refl _)
    have I2 := inv_lamO (L := L) (cl := cloFrom X.env.cells L.scope.names []) (c' := c') (t' := tk) (pm := (X.mg "__name__").getD .none) (ctv := ctv) I1 rfl
    refine h h'.objs.size c' _ _ _ I2 (fun b o e n => ?_) (hT.ext fun b o e => ?_) nF upd_same ?_
    · exact (upd_ne (ne_of_none e nF)).trans e
    · exact (upd_ne (ne_of_none e nF)).trans e
    · exact (upd_ne (ne_of_none hco nF)).trans hco
end
section
variable {X : Cx} {g : Gc} {W : WX}
def eLam (L : LamD) : FE := fun _ h => .ok (.clo L []) h
theorem fe_lam {c P : Addr} {L : LamD} {params : Arguments} {body : Expr} {scope : Scope} {pos : Pos} (TB : LamX.TabB X.base X.mg c P) (hcode : X.env.code = .ref c) (hmT : (P, X.env.qual ++ "<lambda>") ∈ g.T) (hu : ∀ p ∈ g.T, p.1 = P → p.2 = X.env.qual ++ "<lambda>")
    (hL : LamX.LamS X.env.scope L.scope) (hdef : defaultsOf L.params X.env = ([], [])) (hq : L.qual = X.env.qual ++ "<lambda>") (hcl : L.cl = some (cloFrom X.env.cells L.scope.names [])) (h1 : L.params = params) (h2 : L.body = body) (h3 : L.scope = scope) :
    PE X (.Lambda params body scope pos) (rd X.K g W (eLam L)) := by
  subst h1 h2 h3
  refine ⟨fun pins s σ H Q I h => ?_⟩
  obtain ⟨δ, m, vh, r, sm, q⟩ := h
  refine lam_make3 I TB hcode hmT hu sm.tab hdef (hL.has I.ok) hq fun f c' o H1 s' I1 e t hf hlo hco => ?_
  obtain ⟨e1, s1⟩ := Ext_of sm e t
  exact ⟨.ref f, H1, I1, rfl, q m H1 e1 s1 (.ref f) (.clo hlo hco (by unfold CapOk; rw [hcl]; exact ⟨rfl, rfl⟩) .nil)⟩
end
end FL
set_option Elab.async false
set_option linter.all false
set_option maxRecDepth 100000
set_option maxHeartbeats 2000000
namespace FL
open PySem PySem.Spec PyProof.Rows L2
def unC (cs : List Addr) (H : Hp) : Hp := fun b => if b ∈ cs then none else H b
def reC (cs : List Addr) (H0 H : Hp) : Hp := fun b => if b ∈ cs then H0 b else H b
theorem unC_in {cs : List Addr} {H : Hp} {b : Addr} (h : b ∈ cs) : unC cs H b = none := if_pos h
theorem unC_out {cs : List Addr} {H : Hp} {b : Addr} (h : b ∉ cs) : unC cs H b = H b := if_neg h
theorem reC_in {cs : List Addr} {H0 H : Hp} {b : Addr} (h : b ∈ cs) : reC cs H0 H b = H0 b := if_pos h
theorem reC_out {cs : List Addr} {H0 H : Hp} {b : Addr} (h : b ∉ cs) : reC cs H0 H b = H b := if_neg h
def reQ (cs : List Addr) (H0 : Hp) (Q : VK) : VK := fun v H => (∀ c ∈ cs, H c = none) → Q v (reC cs H0 H)
def reE (cs : List Addr) (H0 : Hp) (E : XK) : XK := fun c d H => (∀ c ∈ cs, H c = none) → E c d (reC cs H0 H)
def FrzCs (cs : List Addr) (H : Hp) : Prop := ∀ c ∈ cs, ∃ o v, H c = some (.frz o (CellO c v))
theorem cellO_lst {c : Addr} {v : V} {xs : List V} : CellO c v ≠ .lst xs := fun z => by unfold CellO at z; cases z
theorem cellO_tup {c : Addr} {v : V} {xs : List V} : CellO c v ≠ .tup xs := fun z => by unfold CellO at z; cases z
theorem cellO_dK {c : Addr} {v : V} {xs : List (Key × V)} : CellO c v ≠ .dK xs := fun z => by unfold CellO at z; cases z
section
variable {P : Program} {w : World} {cs : List Addr} {H H0 H1 : Hp} {h h' : Heap}
theorem FrzCs.ne (F : FrzCs cs H) {b : Addr} {u : HO} (e : H b = some u) (hu : ∀ o v, u ≠ .frz o (CellO b v)) : b ∉ cs := fun z => by
  obtain ⟨o, v, e'⟩ := F b z
  rw [e] at e'
  exact hu o v (Option.some.inj e')
theorem FrzCs.some (F : FrzCs cs H) {c : Addr} (hc : c ∈ cs) : H c ≠ none := fun z => by
  obtain ⟨o, v, e'⟩ := F c hc
  rw [z] at e'
  cases e'
theorem unC_none {b : Addr} (e : H b = none) : unC cs H b = none := by
  unfold unC
  split
  · rfl
  · exact e
theorem hok_un (F : FrzCs cs H) (ok : HOk P w H h) : HOk P w (unC cs H) h := fun b u e => by
  by_cases hb : b ∈ cs
  · rw [unC_in hb] at e
    cases e
  · rw [unC_out hb] at e
    refine (ok b u e).stay (fun _ _ _ q => q) (fun c q => ?_) fun c xs q => ?_
    · rw [unC_out (F.ne q fun o v z => by cases z)]
      exact q
    · rw [unC_out (F.ne q fun o v z => by cases z)]
      exact q
theorem cell_ok (F : FrzCs cs H0) (ok : HOk P w H0 h) {c : Addr} (hc : c ∈ cs) (k : ∀ o, h.get? c = some o → h'.get? c = some o) (H2 : Hp) {u : HO} (e : H0 c = some u) : ObjOk P w H2 h' c u := by
  obtain ⟨o, v, e'⟩ := F c hc
  rw [e] at e'
  cases e'
  obtain ⟨a1, a2, a3, a4⟩ := ok c _ e
  exact ⟨k _ a1, a4 _ _ a2 k, ⟨o, k _ a1⟩, a4⟩
theorem hok_re (F : FrzCs cs H0) (ok : HOk P w H0 h) (ok1 : HOk P w H1 h') (hn : ∀ c ∈ cs, H1 c = none) (k : ∀ c ∈ cs, ∀ o, h.get? c = some o → h'.get? c = some o) : HOk P w (reC cs H0 H1) h' := fun b u e => by
  by_cases hb : b ∈ cs
  · rw [reC_in hb] at e
    exact cell_ok F ok hb (k b hb) _ e
  · rw [reC_out hb] at e
    have out : ∀ c v, H1 c = some v → reC cs H0 H1 c = some v := fun c v q => by
      rw [reC_out (fun z => by rw [hn c z] at q; cases q)]
      exact q
    exact (ok1 b u e).stay (fun _ _ _ q => q) (fun c q => out c _ q) fun c xs q => out c _ q
theorem un_re {fs : List Addr} (F : FrzCs cs H0) (ok : HOk P w H0 h) (hf : ∀ c ∈ cs, c ∉ fs) (u : Un fs [] (unC cs H0) H1 h h') : (∀ c ∈ cs, H1 c = none) ∧ (∀ c ∈ cs, ∀ o, h.get? c = some o → h'.get? c = some o) ∧ Un fs [] H0 (reC cs H0 H1) h h' := by
  have at_ : ∀ c ∈ cs, ∃ o, h.get? c = some o := fun c hc => by
    obtain ⟨o, v, e⟩ := F c hc
    exact ⟨o, (ok c _ e).1⟩
  have kc : ∀ c ∈ cs, ∀ o, h.get? c = some o → h'.get? c = some o := fun c hc o e => u.keep c o e (unC_in hc) (hf c hc) (by simp)
  have nc : ∀ c ∈ cs, H1 c = none := fun c hc => by
    obtain ⟨o, e⟩ := at_ c hc
    exact u.free c o e (unC_in hc) (by simp)
  refine ⟨nc, kc, ⟨fun b o e n hb hx => u.keep b o e (unC_none n) hb hx, fun b o e n hb hx => u.slot b o e (unC_none n) hb hx, fun b o e n hx => ?_, fun b o e hx => u.there b o e hx, fun b xs e => ?_, fun b o v e => ?_, fun b ps e => ?_⟩⟩
  · rw [reC_out (fun z => F.some z n)]
    exact u.free b o e (unC_none n) hx
  · have hb := F.ne e fun o v z => by cases z
    rw [reC_out hb]
    exact u.tups b xs (by rw [unC_out hb]; exact e)
  · by_cases hb : b ∈ cs
    · rw [reC_in hb]
      exact e
    · rw [reC_out hb]
      exact u.frzs b o v (by rw [unC_out hb]; exact e)
  · have hb := F.ne e fun o v z => by cases z
    obtain ⟨more, z⟩ := u.tbls b ps (by rw [unC_out hb]; exact e)
    exact ⟨more, by rw [reC_out hb]; exact z⟩
theorem ub_re {fs : List Addr} {B : Heap} (F : FrzCs cs H0) (ok : HOk P w H0 h) (hf : ∀ c ∈ cs, c ∉ fs) (u : UB fs (unC cs H0) H1 h B h') : (∀ c ∈ cs, H1 c = none) ∧ (∀ c ∈ cs, ∀ o, h.get? c = some o → B.get? c = some o) ∧ UB fs H0 (reC cs H0 H1) h B h' := by
  have at_ : ∀ c ∈ cs, ∃ o, h.get? c = some o := fun c hc => by
    obtain ⟨o, v, e⟩ := F c hc
    exact ⟨o, (ok c _ e).1⟩
  have kc : ∀ c ∈ cs, ∀ o, h.get? c = some o → B.get? c = some o := fun c hc o e => u.keep c o e (unC_in hc) (hf c hc)
  have nc : ∀ c ∈ cs, H1 c = none := fun c hc => by
    obtain ⟨o, e⟩ := at_ c hc
    exact u.free c o e (unC_in hc)
  refine ⟨nc, kc, ⟨fun b o e n hb => u.keep b o e (unC_none n) hb, u.slot, fun b o e n => ?_, u.there, fun b xs e => ?_, fun b o v e => ?_, fun b ps e => ?_⟩⟩
  · rw [reC_out (fun z => F.some z n)]
    exact u.free b o e (unC_none n)
  · have hb := F.ne e fun o v z => by cases z
    rw [reC_out hb]
    exact u.tups b xs (by rw [unC_out hb]; exact e)
  · by_cases hb : b ∈ cs
    · rw [reC_in hb]
      exact e
    · rw [reC_out hb]
      exact u.frzs b o v (by rw [unC_out hb]; exact e)
  · have hb := F.ne e fun o v z => by cases z
    obtain ⟨more, z⟩ := u.tbls b ps (by rw [unC_out hb]; exact e)
    exact ⟨more, by rw [reC_out hb]; exact z⟩
theorem cx_re {outer : List Env} {s s' : Shared} {E : XK} {u : Value} (F : FrzCs cs H0) (ok : HOk P w H0 s.heap) (hf : ∀ c ∈ cs, c ∉ frs outer) (x : L2.CX P w outer (unC cs H0) s (reE cs H0 E) u s') : L2.CX P w outer H0 s E u s' := by
  obtain ⟨a, B, H', cls, d, e, fl, hok, ub, na, os, ag, he⟩ := x
  obtain ⟨nc, kc, ub'⟩ := ub_re F ok hf ub
  refine ⟨a, B, reC cs H0 H', cls, d, e, fl, hok_re F ok hok nc kc, ub', ?_, os, ag, he nc⟩
  rw [reC_out (fun z => ?_)]
  · exact na
  · obtain ⟨o, v, e'⟩ := F a z
    have e2 := kc a z _ (ok a _ e').1
    rw [fl.2.1] at e2
    cases e2
theorem ce_re {outer : List Env} {s s' : Shared} {Q : VK} {u : Value} (F : FrzCs cs H0) (ok : HOk P w H0 s.heap) (hf : ∀ c ∈ cs, c ∉ frs outer) (x : L2.CE outer P w (unC cs H0) s (reQ cs H0 Q) u s') : L2.CE outer P w H0 s Q u s' := by
  obtain ⟨v, H', os, ag, un, hok, rv, q⟩ := x
  obtain ⟨nc, kc, un'⟩ := un_re F ok hf un
  exact ⟨v, reC cs H0 H', os, ag, un', hok_re F ok hok nc kc, rv, q nc⟩
end
structure LamV (L : LamD) : Prop where
  kind : L.scope.kind = .function
  co : L.scope.isCoroutine = false
  gen : L.scope.isGenerator = false
  own : ∀ y ∈ L.scope.names, y.2 ≠ .local ∧ y.2 ≠ .cell
  free : ∀ y ∈ L.scope.names, y.2 = .free → y.1 ∈ L.fr
abbrev vEnv (L : LamD) (cl : List (Str × Addr)) (l f c' : Addr) : Env := PySem.W.envX L.qual L.scope l f (.ref c') cl
def vCx (P : Program) (w : World) (K : PySem.W.Frag) (mg : Str → Option Value) (base : Heap) (A : Around) (outer : List Env) (s : Shared) (H : Hp) (E : XK) (L : LamD) (cl : List (Str × Addr)) (f c' : Addr) : Cx where
  prog := P
  w := w
  K := K
  mg := mg
  base := base
  A := A.deeper (vEnv L cl s.heap.objs.size f c')
  N := L.fr
  s_0 := s
  H_0 := H
  env := vEnv L cl s.heap.objs.size f c'
  outer := outer
  stack := vEnv L cl s.heap.objs.size f c' :: outer
  ex := []
  fn := fun _ => false
  calm := true
  pn := []
  xe := fun e s' => wpAny (model P w) (A.deeper (vEnv L cl s.heap.objs.size f c')) (leaving (vEnv L cl s.heap.objs.size f c') e) (fun _ s'' => L2.CX P w outer H s E e s'') (fun e' s'' => L2.CX P w outer H s E e' s'') s'
section
variable {P : Program} {w : World} {K : PySem.W.Frag} {mg : Str → Option Value} {base : Heap} {A : Around} {outer : List Env} {s : Shared} {H : Hp} {E : XK} {L : LamD} {cl : List (Str × Addr)} {f c' : Addr} {ws : List V}
theorem cap_frz (hn : L.cl = none) (C : CapOk H cl L ws) (y : Str) (c : Addr) (e : cl.lookup y = some c) : ∃ (j : Nat) (v : V) (o : Obj), L.fr[j]? = some y ∧ H c = some (.frz o (CellO c v)) ∧ ws[j]? = some v := by
  unfold CapOk at C
  rw [hn] at C
  obtain ⟨j, hj⟩ := List.getElem?_of_mem (C.2.1 y c e)
  obtain ⟨c2, v, o, a1, a2, a3⟩ := C.2.2.2 j y hj
  rw [e] at a1
  cases a1
  exact ⟨j, v, o, hj, a2, a3⟩
def csOf (cl : List (Str × Addr)) (fr : List Str) : List Addr := fr.filterMap fun y => cl.lookup y
theorem mem_cs {y : Str} {c : Addr} (hn : L.cl = none) (C : CapOk H cl L ws) (e : cl.lookup y = some c) : c ∈ csOf cl L.fr := by
  unfold CapOk at C
  rw [hn] at C
  exact List.mem_filterMap.mpr ⟨y, C.2.1 y c e, e⟩
theorem frz_cs (hn : L.cl = none) (C : CapOk H cl L ws) : FrzCs (csOf cl L.fr) H := fun c hc => by
  obtain ⟨y, _, e⟩ := List.mem_filterMap.mp hc
  obtain ⟨j, v, o, _, a, _⟩ := cap_frz hn C y c e
  exact ⟨o, v, a⟩
theorem lamV_start {h₁ : Heap} {tk : Nat} (V1 : LamV L) (hn : L.cl = none) (C : CapOk H cl L ws) (e0 : Env0 P w K mg base A outer s H) (hd : A.handled = none) (hns : h₁.Ns s.heap.objs.size fun y => ([] : List (Str × Value)).reverse.lookup y) (kp : ∀ b o, s.heap.get? b = some o → h₁.get? b = some o) :
    Inv (vCx P w K mg base A outer s (unC (csOf cl L.fr) H) E L cl f c') [] (ws.map some) (unC (csOf cl L.fr) H) { s with heap := h₁, toks := tk } := by
  have C' := C
  unfold CapOk at C'
  rw [hn] at C'
  obtain ⟨inj, sub, len, at_⟩ := C'
  have F := frz_cs hn C
  have look : ∀ {y}, L.scope.names.lookup y = some .free → ∃ c, cl.lookup y = some c := fun {y} hl => by
    obtain ⟨j, hj⟩ := List.getElem?_of_mem (V1.free _ (PySem.mem_of_lookup hl) rfl)
    obtain ⟨c, _, _, e, _⟩ := at_ j y hj
    exact ⟨c, e⟩
  have isC : ∀ {y c}, cl.lookup y = some c → ∃ (j : Nat) (v : V) (u : Value), L.fr[j]? = some y ∧ ws[j]? = some v ∧ RelV v u ∧ h₁.IsCell c (some u) := fun {y c} e => by
    obtain ⟨j, v, o, h1, h2, h3⟩ := cap_frz hn C y c e
    obtain ⟨b1, ⟨u, b2, ob, b3, b4⟩, _⟩ := e0.hok c _ h2
    exact ⟨j, v, u, h1, h3, b2, ob, kp _ _ b3, b4⟩
  have noA : ∀ b : Addr, b ∉ (vCx P w K mg base A outer s (unC (csOf cl L.fr) H) E L cl f c').ex := fun b z => absurd (show b ∈ ([] : List Addr) from z) (by simp)
  refine ⟨⟨e0.mod, V1.kind, rfl, rfl, Nat.le_refl _, inj, fun y hy => ?_, fun y c z _ => ?_, fun _ => hd, Around.frames_deeper e0.frames, .inr ⟨rfl, rfl⟩, fun b z => absurd z (noA b), fun b o z => ⟨(e0.bs b o z).1, unC_none (e0.bs b o z).2⟩, e0.bsz, fun b _ _ => noA b,
      fun b z => absurd z (noA b), e0.funs, fun b z => unC_none (e0.frf b z)⟩,
    rfl, e0.bare, Un.kept kp, ⟨_, hns, fun i y v e1 e2 e3 => ?_⟩, fun y c e => ?_, unC_none (e0.hok.fresh (Nat.le_refl _)), fun y c e => unC_in (mem_cs hn C e), fun q hq => absurd (show q ∈ ([] : List (Addr × Obj)) ++ [] from hq) (by simp), (hok_un F e0.hok).kept kp, ?_⟩
  · have hy : L.scope.names.lookup y = some .cell ∨ L.scope.names.lookup y = some .free := hy
    rcases hy with hy | hy
    · exact absurd rfl (V1.own _ (PySem.mem_of_lookup hy)).2
    · exact look hy
  · have z : false = true := z
    cases z
  · have e3 : Vis L.scope y := e3
    rcases e3 with k | k | k
    · exact absurd rfl (V1.own _ (PySem.mem_of_lookup k)).1
    · exact absurd rfl (V1.own _ (PySem.mem_of_lookup k)).2
    · have e1 : L.fr[i]? = some y := e1
      obtain ⟨c, v', o, a1, a2, a3⟩ := at_ i y e1
      rw [List.getElem?_map, a3] at e2
      cases e2
      obtain ⟨b1, ⟨u, b2, ob, b3, b4⟩, _⟩ := e0.hok c _ a2
      exact ⟨u, b2, .inr ⟨.inr k, c, a1, ob, kp _ _ b3, b4⟩⟩
  · obtain ⟨j, v, u, _, _, _, z⟩ := isC e
    exact ⟨_, z⟩
  · show (ws.map some).length = L.fr.length
    rw [List.length_map]
    exact len
end
section
variable {X : Cx} {pins : List (Addr × Obj)} {σ : L2.St} {H : Hp} {s : Shared}
theorem pe_actV {CXg : CXT} {Eg : XK} {Ng : List Str} {qg : Str} {sg : Scope} {gA f : Addr} {cdg : Value} {L : LamD} {k i : Nat} {a : Str} {pn : List (Addr × Obj)} {xe : Value → Shared → Prop} {W : WX} {tb : XK → TE} {p1 p2 : Pos}
    (V1 : LamV L) (hn : L.cl = none) (hbind : ∀ (q : Str) (cl : List (Str × Addr)) (pm cv ctv : Value), bindArgs (PySem.W.kla_fn "<lambda>" q L.params L.body L.scope cl pm cv ctv) ⟨[], []⟩ = pure [])
    (tk : Takes ((cxOf CXg X.prog X.w X.K X.mg X.base Ng qg sg gA cdg X.A X.stack s H Eg).tr pn xe) W) (hr : Room (k + 1) (X.A.deeper (envOfC qg sg s.heap.objs.size gA cdg)))
    (hbody : ∀ (A : Around) (outer : List Env) (s : Shared) (H : Hp) (E : XK) (f' c' : Addr) (cl : List (Str × Addr)), Room k (A.deeper (vEnv L cl s.heap.objs.size f' c')) → PE (vCx X.prog X.w X.K X.mg X.base A outer s H E L cl f' c') L.body (tb E))
    (hN : Ng[i]? = some a) (hv : Vis sg a) (hd : (a == ("__debug__" : Str)) = false := by decide) (hcd : (a == ("__classdict__" : Str)) = false := by decide) :
    PE ((cxOf CXg X.prog X.w X.K X.mg X.base Ng qg sg gA cdg X.A X.stack s H Eg).tr pn xe) (.Call (.Name a p1) [] [] p2)
      (fun σZ HZ Q => σZ[i]? = some (some (.ref f)) ∧ ∃ o c' cl ws, HZ f = some (.frz o (LamO f L cl c')) ∧ HZ c' = some (LamX.CodeO c' L.qual) ∧ CapOk HZ cl L ws ∧
        tb (reE (csOf cl L.fr) HZ (fun c d H' => W c d σZ H')) (ws.map some) (unC (csOf cl L.fr) HZ) (reQ (csOf cl L.fr) HZ Q)) := by
  refine ⟨fun pinsZ sZ σZ HZ Q IZ h => ?_⟩
  obtain ⟨hs, o, c', cl, ws, hlo, hc, cap, ht⟩ := h
  refine wpAny_Call_Name_kw (thn ((pe_var (pos := p1) (i := i) hN hv hd hcd).run pinsZ sZ σZ HZ (fun v H1 => v = .ref f ∧ H1 = HZ) IZ ⟨.ref f, hs, rfl, rfl⟩) fun u s1 ⟨v, H1, I1, r1, q1⟩ => ?_)
  obtain ⟨rfl, eH⟩ := q1
  rw [eH] at I1
  cases r1
  obtain ⟨_, ⟨pm, ctv, of1⟩, _⟩ := I1.hok f _ hlo
  refine PySem.W.callWith_F0 ⟨_, _, _, _, of1⟩ ?_
  obtain ⟨⟨oc, vs, t, hoc, hdc, hvc⟩, _, _⟩ := I1.hok c' _ hc
  have F := frz_cs hn cap
  have hf0 : ∀ c ∈ csOf cl L.fr, c ∉ frs (envOfC qg sg s.heap.objs.size gA cdg :: X.stack) := fun c hc z => F.some hc (I1.stkFree c z)
  have rc : codeAny (model X.prog X.w) (X.A.deeper (envOfC qg sg s.heap.objs.size gA cdg)) (.call (.ref f) ⟨[], []⟩) (CR (L2.CX X.prog X.w) (envOfC qg sg s.heap.objs.size gA cdg :: X.stack) X.prog X.w HZ s1 Q (fun c d H' => W c d σZ H')) s1 := by
    refine PySem.W.kla_callFunE hr.depth of1 rfl V1.co V1.gen rfl ⟨c', oc, vs, t, rfl, hoc, hdc, hvc⟩ ?_
    rw [hbind]
    refine wpAny_pure (wpAny_newFunctionEnv (fun y hy => (V1.own y hy).2) (fun y hy => absurd hy (by simp)) (fun h₁ hns hsb => ⟨I1.nolimit.fresh _ hsb, ?_⟩) V1.kind)
    show codeAny _ _ (.expr L.body (vEnv L cl s1.heap.objs.size f c')) _ _
    have kp : ∀ b o, s1.heap.get? b = some o → h₁.get? b = some o := fun b o e => hsb.extBut b o (Nat.ne_of_lt (Heap.lt_size e)) (Heap.get?_push_of_some _ e)
    have J : Inv (vCx X.prog X.w X.K X.mg X.base (X.A.deeper (envOfC qg sg s.heap.objs.size gA cdg)) (envOfC qg sg s.heap.objs.size gA cdg :: X.stack) s1 (unC (csOf cl L.fr) HZ) (reE (csOf cl L.fr) HZ (fun c d H' => W c d σZ H')) L cl f c') [] (ws.map some) (unC (csOf cl L.fr) HZ) { s1 with heap := h₁, toks := s1.toks + ([] : List (Str × Value)).length } :=
      lamV_start V1 hn cap I1.env0 hr.hd hns kp
    refine PySem.W.kla_codeExpr (wpAny_mono ((hbody _ _ s1 (unC (csOf cl L.fr) HZ) (reE (csOf cl L.fr) HZ (fun c d H' => W c d σZ H')) f c' cl (hr.deeper _)).run [] _ _ _ _ J ht) (fun v s' hq => ?_) fun e s' hq => ?_)
    · obtain ⟨w', H', J', rv, q⟩ := hq
      exact ce_re F I1.hok hf0 ⟨w', H', J'.os, J'.bare, J'.base, J'.hok, rv, q⟩
    · exact wpAny_mono hq (fun _ s'' x => cx_re F I1.hok hf0 x) fun _ s'' x => cx_re F I1.hok hf0 x
  refine wpAny_call (codeAny_mono rc fun r s' hq => ?_)
  cases r with
  | error e => exact passAt tk σZ pinsZ HZ s1 e s' I1 hq
  | ok fl =>
    cases fl with
    | ret u => exact I1.after hq
    | _ => exact False.elim hq
theorem pe_actL {CXg : CXT} {Eg : XK} {Ng : List Str} {qg : Str} {sg : Scope} {gA f : Addr} {cdg : Value} {L : LamD} {k i : Nat} {a : Str} {pn : List (Addr × Obj)} {xe : Value → Shared → Prop} {W : WX} {tb : XK → TE} {p1 p2 : Pos}
    (I : Inv X pins σ H s) (hL : LamX.LamS X.env.scope L.scope) (hcl : L.cl = some (cloFrom X.env.cells L.scope.names [])) (hq : L.qual = X.env.qual ++ "<lambda>") (hbind : ∀ (q : Str) (cl : List (Str × Addr)) (pm cv ctv : Value), bindArgs (PySem.W.kla_fn "<lambda>" q L.params L.body L.scope cl pm cv ctv) ⟨[], []⟩ = pure [])
    (tk : Takes ((cxOf CXg X.prog X.w X.K X.mg X.base Ng qg sg gA cdg X.A X.stack s H Eg).tr pn xe) W) (hr : Room (k + 1) (X.A.deeper (envOfC qg sg s.heap.objs.size gA cdg)))
    (hbody : ∀ (A : Around) (outer : List Env) (s : Shared) (H : Hp) (E : XK) (f' c' : Addr), Room k (A.deeper (LamX.lamEnv X L.scope s.heap.objs.size f' c')) → PE (LamX.lamCx X A outer s H E L.scope f' c') L.body (tb E))
    (hN : Ng[i]? = some a) (hv : Vis sg a) (hd : (a == ("__debug__" : Str)) = false := by decide) (hcd : (a == ("__classdict__" : Str)) = false := by decide) :
    PE ((cxOf CXg X.prog X.w X.K X.mg X.base Ng qg sg gA cdg X.A X.stack s H Eg).tr pn xe) (.Call (.Name a p1) [] [] p2)
      (fun σZ HZ Q => σZ[i]? = some (some (.ref f)) ∧ (∃ o c', HZ f = some (.frz o (LamO f L (cloFrom X.env.cells L.scope.names []) c')) ∧ HZ c' = some (LamX.CodeO c' L.qual)) ∧ tb (fun c d H' => W c d σZ H') σ HZ Q) := by
  refine ⟨fun pinsZ sZ σZ HZ Q IZ h => ?_⟩
  obtain ⟨hs, ⟨o, c', hlo, hc⟩, ht⟩ := h
  refine wpAny_Call_Name_kw (thn ((pe_var (pos := p1) (i := i) hN hv hd hcd).run pinsZ sZ σZ HZ (fun v H1 => v = .ref f ∧ H1 = HZ) IZ ⟨.ref f, hs, rfl, rfl⟩) fun u s1 ⟨v, H1, I1, r1, q1⟩ => ?_)
  obtain ⟨rfl, eH⟩ := q1
  rw [eH] at I1
  cases r1
  obtain ⟨_, ⟨pm, ctv, of1⟩, _⟩ := I1.hok f _ hlo
  refine PySem.W.callWith_F0 ⟨_, _, _, _, of1⟩ ?_
  obtain ⟨⟨oc, vs, t, hoc, hdc, hvc⟩, _, _⟩ := I1.hok c' _ hc
  have rc : codeAny (model X.prog X.w) (X.A.deeper (envOfC qg sg s.heap.objs.size gA cdg)) (.call (.ref f) ⟨[], []⟩) (CR (L2.CX X.prog X.w) (envOfC qg sg s.heap.objs.size gA cdg :: X.stack) X.prog X.w HZ s1 Q (fun c d H' => W c d σZ H')) s1 := by
    refine PySem.W.kla_callFunE hr.depth of1 rfl hL.co hL.gen rfl ⟨c', oc, vs, t, rfl, hoc, hdc, hvc⟩ ?_
    rw [hbind]
    refine wpAny_pure (wpAny_newFunctionEnv (fun y hy => (hL.own y hy).2) (fun y hy => absurd hy (by simp)) (fun h₁ hns hsb => ⟨I1.nolimit.fresh _ hsb, ?_⟩) hL.kind)
    rw [show (PySem.W.kla_fn "<lambda>" L.qual L.params L.body L.scope (cloFrom X.env.cells L.scope.names []) pm (.ref c') ctv).qualname = X.env.qual ++ "<lambda>" from hq]
    show codeAny _ _ (.expr L.body (LamX.lamEnv X L.scope s1.heap.objs.size f c')) _ _
    have kp : ∀ b o, s1.heap.get? b = some o → h₁.get? b = some o := fun b o e => hsb.extBut b o (Nat.ne_of_lt (Heap.lt_size e)) (Heap.get?_push_of_some _ e)
    have J : Inv (LamX.lamCx X (X.A.deeper (envOfC qg sg s.heap.objs.size gA cdg)) (envOfC qg sg s.heap.objs.size gA cdg :: X.stack) s1 HZ (fun c d H' => W c d σZ H') L.scope f c') [] σ HZ { s1 with heap := h₁, toks := s1.toks + ([] : List (Str × Value)).length } :=
      LamX.lam_start2 I hL I1.env0 hr.hd I1.base hns kp
    refine PySem.W.kla_codeExpr (wpAny_mono ((hbody _ _ s1 HZ (fun c d H' => W c d σZ H') f c' (hr.deeper _)).run [] _ _ _ _ J ht) (fun v s' hq => ?_) fun e s' hq => hq)
    obtain ⟨w', H', J', rv, q⟩ := hq
    exact ⟨w', H', J'.os, J'.bare, J'.base, J'.hok, rv, q⟩
  refine wpAny_call (codeAny_mono rc fun r s' hq => ?_)
  cases r with
  | error e => exact passAt tk σZ pinsZ HZ s1 e s' I1 hq
  | ok fl =>
    cases fl with
    | ret u => exact I1.after hq
    | _ => exact False.elim hq
end
end FL
set_option Elab.async false
set_option linter.all false
set_option maxRecDepth 100000
set_option maxHeartbeats 2000000
namespace FL
open PySem PySem.Spec PyProof.Rows L2
mutual
/-- no closure in it -/
def ncl : FL.D → Bool
  | .clo _ _ => false
  | .tup xs => ncls xs
  | .fls xs => ncls xs
  | .fdc _ vs => ncls vs
  | .non => true
  | .bl _ => true
  | .int _ => true
  | .str _ => true
  | .ref _ => true
  | .ty _ => true
  | .adr _ => true
def ncls : List FL.D → Bool
  | [] => true
  | x :: xs => ncl x && ncls xs
end
def nclO : O → Bool
  | .lst xs => ncls xs
  | .dct kvs => kvs.all fun p => ncl p.2
  | .ins _ fs => fs.all fun p => ncl p.2
  | .fdk kvs => kvs.all fun p => ncl p.2
  | .nkd ks => ncls ks
def nclH (h : VH) : Bool := h.all nclO
section
variable {K : PySem.W.Frag} {g : Gc} {m m' : Nat → Addr} {n n' : Nat} {H H0 H1 : Hp} {h : VH} {cs : List Addr}
theorem un_at (F : FrzCs cs H) {a : Addr} {u : HO} (e : H a = some u) (hu : ∀ o v, u ≠ .frz o (CellO a v)) : unC cs H a = some u := by
  rw [unC_out (F.ne e hu)]
  exact e
theorem plt_un (F : FrzCs cs H) {a : Addr} {vs : List V} (p : Plt K H a vs) : Plt K (unC cs H) a vs := by
  rcases p with ⟨o, e, ho⟩ | p
  · exact .inl ⟨o, un_at F e (fun o v z => by injection z with _ z; exact cellO_tup z.symm), ho⟩
  · exact .inr p
theorem frz_un (F : FrzCs cs H) {a : Addr} {vs : List V} (p : Frz K H a vs) : Frz K (unC cs H) a vs := by
  rcases p with ⟨o, e⟩ | p
  · exact .inl ⟨o, un_at F e (fun o v z => by injection z with _ z; exact cellO_lst z.symm)⟩
  · exact .inr p
mutual
theorem rd_un (F : FrzCs cs H) : ∀ (d : FL.D) (v : V), ncl d = true → RD K m n H d v → RD K m n (unC cs H) d v
  | .non, _, _, r => by cases r; exact .non
  | .bl _, _, _, r => by cases r; exact .bl _
  | .int _, _, _, r => by cases r; exact .int _
  | .str _, _, _, r => by cases r with | str hl => exact .str hl
  | .tup xs, _, b, r => by
    unfold ncl at b
    cases r with | tup h1 h2 => exact .tup (plt_un F h1) (rds_un F xs _ b h2)
  | .fls xs, _, b, r => by
    unfold ncl at b
    cases r with | fls h1 h2 => exact .fls (frz_un F h1) (rds_un F xs _ b h2)
  | .fdc ks xs, _, b, r => by
    unfold ncl at b
    cases r with | fdc h1 h2 h3 h4 => exact .fdc (un_at F h1 (fun o v z => by injection z with _ z; exact cellO_dK z.symm)) h2 h3 (rds_un F xs _ b h4)
  | .ref _, _, _, r => by cases r with | ref hk => exact .ref hk
  | .ty _, _, _, r => by cases r; exact .ty _
  | .adr _, _, _, r => by cases r; exact .adr _
  | .clo _ _, _, b, _ => by unfold ncl at b; cases b
theorem rds_un (F : FrzCs cs H) : ∀ (d : List FL.D) (v : List V), ncls d = true → RDs K m n H d v → RDs K m n (unC cs H) d v
  | [], _, _, r => by cases r; exact .nil
  | x :: xs, _, b, r => by
    unfold ncls at b
    rw [Bool.and_eq_true] at b
    cases r with | cons h1 h2 => exact .cons (rd_un F x _ b.1 h1) (rds_un F xs _ b.2 h2)
end
theorem rks_un (F : FrzCs cs H) : ∀ {d : List (FL.D × FL.D)} {v : List (Key × V)}, (d.all fun p => ncl p.2) = true → RKs K m n H d v → RKs K m n (unC cs H) d v
  | _, _, _, .nil => .nil
  | _, _, b, .cons h0 h1 h2 => by
    rw [List.all_cons, Bool.and_eq_true] at b
    exact .cons h0 (rd_un F _ _ b.1 h1) (rks_un F b.2 h2)
theorem rfs_un (F : FrzCs cs H) : ∀ {d : List (Str × FL.D)} {v : List (Str × V)}, (d.all fun p => ncl p.2) = true → RFs K m n H d v → RFs K m n (unC cs H) d v
  | _, _, _, .nil => .nil
  | _, _, b, .cons h1 h2 => by
    rw [List.all_cons, Bool.and_eq_true] at b
    exact .cons (rd_un F _ _ b.1 h1) (rfs_un F b.2 h2)
theorem ro_un (F : FrzCs cs H) {a : Addr} : ∀ {o : O}, nclO o = true → RO K g m n H a o → RO K g m n (unC cs H) a o
  | .lst xs, b, ⟨vs, h1, h2⟩ => ⟨vs, un_at F h1 (fun _ _ z => by cases z), rds_un F _ _ b h2⟩
  | .dct kvs, b, ⟨vs, h1, h2⟩ => ⟨vs, un_at F h1 (fun _ _ z => by cases z), rks_un F b h2⟩
  | .ins c fs, b, ⟨C, dx, vs, h0, h1, h2⟩ => ⟨C, dx, vs, h0, un_at F h1 (fun _ _ z => by cases z), rfs_un F b h2⟩
  | .fdk kvs, b, ⟨o, vs, h1, h2⟩ => ⟨o, vs, un_at F h1 (fun o v z => by injection z with _ z; exact cellO_dK z.symm), rks_un F b h2⟩
  | .nkd ks, b, ⟨es, ep, xs, x⟩ => ⟨es, ep, xs, un_at F x.at_ (fun _ _ z => by unfold RawD at z; cases z), x.sy, x.es_, x.nk, x.nd, x.tr, x.dp, rds_un F _ _ b x.rd⟩
theorem sim_un (F : FrzCs cs H) (b : nclH h = true) (s : Sim K g m h H) : Sim K g m h (unC cs H) := by
  refine ⟨s.inj, fun i o hi => ro_un F (List.all_eq_true.mp b o (List.mem_of_getElem? hi)) (s.obj i o hi), fun p hp => ?_⟩
  obtain ⟨ps, e1, e2, e3⟩ := s.tab p hp
  refine ⟨ps, un_at F e1 (fun _ _ z => by cases z), e2, fun pos cv hc => ?_⟩
  obtain ⟨c, e4, e5⟩ := e3 pos cv hc
  exact ⟨c, e4, un_at F e5 (fun _ _ z => by unfold LamX.CodeO at z; cases z)⟩
theorem re_at (nc : ∀ c ∈ cs, H1 c = none) {a : Addr} {u : HO} (e : H1 a = some u) : reC cs H0 H1 a = some u := by
  rw [reC_out (fun z => by rw [nc a z] at e; cases e)]
  exact e
theorem imm_re (nc : ∀ c ∈ cs, H1 c = none) : Imm H1 (reC cs H0 H1) := ⟨fun _ _ e => re_at nc e, fun _ _ _ e => re_at nc e, fun _ _ e => re_at nc e⟩
theorem sim_re (nc : ∀ c ∈ cs, H1 c = none) (s : Sim K g m h H1) : Sim K g m h (reC cs H0 H1) := by
  refine ⟨s.inj, fun i o hi => ?_, fun p hp => ?_⟩
  · obtain ⟨u, hu, _⟩ := (s.obj i o hi).some
    exact (s.obj i o hi).mono (Nat.le_refl _) (fun _ _ => rfl) (imm_re nc) ((re_at nc hu).trans hu.symm)
  · obtain ⟨ps, e1, e2, e3⟩ := s.tab p hp
    refine ⟨ps, re_at nc e1, e2, fun pos cv hc => ?_⟩
    obtain ⟨c, e4, e5⟩ := e3 pos cv hc
    exact ⟨c, e4, re_at nc e5⟩
theorem ext_re (F : FrzCs cs H) (nc : ∀ c ∈ cs, H1 c = none) {h1 : VH} (s1 : Sim K g m' h1 H1) (e : Ext m n (unC cs H) m' h1.length H1) : Ext m n H m' h1.length (reC cs H H1) := by
  have go : ∀ {a u}, H a = some u → (∀ o v, u ≠ .frz o (CellO a v)) → (unC cs H a = some u → H1 a = some u) → reC cs H H1 a = some u := fun {a u} z hu k => re_at nc (k (un_at F z hu))
  refine ⟨e.le, e.eq, ⟨fun a xs z => go z (fun _ _ y => by cases y) (e.im.tup a xs), fun a o u z => ?_, fun a q z => go z (fun _ _ y => by unfold LamX.CodeO at y; cases y) (e.im.code a q)⟩, fun a o ha z hf => go z (fun _ _ y => by rw [y] at hf; exact hf) fun z' => e.fr a o ha z' hf, fun k h1' h2 => ?_, fun a z => ?_⟩
  · by_cases hb : a ∈ cs
    · rw [reC_in hb]
      exact z
    · exact re_at nc (e.im.frz a o u (by rw [unC_out hb]; exact z))
  · have x := e.nw k h1' h2
    by_cases hb : m' k ∈ cs
    · obtain ⟨u, hu, _⟩ := s1.there h2
      rw [nc _ hb] at hu
      cases hu
    · rw [unC_out hb] at x
      exact x
  · by_cases hb : a ∈ cs
    · rw [reC_in hb] at z
      exact z
    · rw [reC_out hb] at z
      have x := e.al a z
      rw [unC_out hb] at x
      exact x
theorem rx_re (nc : ∀ c ∈ cs, H1 c = none) {c : Nat} {p : Option FL.D} {cls : Value} {dd : Option Addr} (r : RX K g m n H1 c p cls dd) : RX K g m n (reC cs H0 H1) c p cls dd := by
  obtain ⟨C, h1, h2, h3, h4⟩ := r
  refine ⟨C, h1, h2, fun d hd => ?_, h4⟩
  obtain ⟨a, v, a1, a2, a3⟩ := h3 d hd
  exact ⟨a, v, a1, re_at nc a2, RD.mono (Nat.le_refl _) (fun _ _ => rfl) (imm_re nc) _ _ a3⟩
theorem good_un (F : FrzCs cs H) {W : XK} {Q : VK} {o : Out FL.D} (q : GoodE K g W m n H Q o) : GoodE K g (reE cs H W) m n (unC cs H) (reQ cs H Q) o := by
  cases o with
  | ok d h1 => exact fun m' H' e1 s v r nc => q m' _ (ext_re F nc s e1) (sim_re nc s) v (RD.mono (Nat.le_refl _) (fun _ _ => rfl) (imm_re nc) _ _ r)
  | err c p h1 => exact fun m' H' cls dd e1 s r nc => q m' _ cls dd (ext_re F nc s e1) (sim_re nc s) (rx_re nc r)
  | bad => exact q
end
end FL
set_option Elab.async false
set_option linter.all false
set_option maxRecDepth 100000
set_option maxHeartbeats 2000000
namespace FL
open PySem PySem.Spec PyProof.Rows L2
structure TryOk (Z : Cx) (g : Gc) (W : WX) (hds : List ExceptHandler) (hd : Nat → Option FL.D → DS → VH → OutS) : Prop where
  ex : ∀ (body : List Stmt) (p8 : Pos) (tb : WX → TS), (∀ (W : WX) (pn : List (Addr × Obj)) (xe : Value → Shared → Prop), Takes (Z.tr pn xe) W → PSs (Z.tr pn xe) body (tb W)) →
    ∃ w : Ends → WX, PS Z (.Try body hds [] [] p8) (fun D σ H => tb (w D) D σ H) ∧
      ∀ (D : Ends) (c : Nat) (p : Option FL.D) (δ : DS) (h : VH) (m : Nat → Addr) (H : Hp) (σ : L2.St) (cls : Value) (dd : Option Addr), RS Z.K m h.length H δ σ → Sim Z.K g m h H → RX Z.K g m h.length H c p cls dd → GoodS Z.K g W m h.length H D (hd c p δ h) → w D cls dd σ H
noncomputable def anyA {α : Type} (F : Addr → Out α) : Out α := open Classical in if h : ∃ o, ∀ f, F f = o then h.choose else .bad
theorem anyA_eq {α : Type} {F : Addr → Out α} {o : Out α} (h : ∀ f, F f = o) : anyA F = o := by
  unfold anyA
  have e : ∃ o, ∀ f, F f = o := ⟨o, h⟩
  rw [dif_pos e]
  exact (e.choose_spec 0).symm.trans (h 0)
theorem anyA_at {α : Type} {F : Addr → Out α} (h : anyA F ≠ .bad) (f : Addr) : F f = anyA F := by
  unfold anyA at *
  by_cases e : ∃ o, ∀ f, F f = o
  · rw [dif_pos e]
    exact e.choose_spec f
  · rw [dif_neg e] at h
    exact absurd rfl h
def tell0 (n : Nat) (f : Addr) : DS := some (.adr f) :: List.replicate (n - 1) none
noncomputable def tellR (n : Nat) (hd : Nat → Option FL.D → DS → VH → OutS) (fr : FSt) (o : Out FL.D) : Out FL.D := anyA fun f => match o with
  | .ok _ h1 => endF (fr (tell0 n f) h1)
  | .err c p h1 => endF (nextS (hd c p (tell0 n f) h1) fr)
  | .bad => .bad
structure TellG (P : Program) (w : World) (K : PySem.W.Frag) (mg : Str → Option Value) (base : Heap) (g : Gc) (k : Nat) (x a : Str) (st : Stmt) (Ng : List Str) (hd : Nat → Option FL.D → DS → VH → OutS) (fr : FSt) : Prop where
  ex : ∃ f fd, L2.Fun K x x st f fd ∧ mg x = some (.ref f) ∧ Binds K fd [a] []
  sc : FnScope Ng [a] (defScope st)
  bd : ∃ p1 p2 p3 p8 hds rest, defBody st = .Try [.Expr (.Call (.Name a p1) [] [] p2) p3] hds [] [] p8 :: rest ∧
    ∀ (fA : Addr) (cdv : Value) (A : Around) (outer : List Env) (s : Shared) (H : Hp) (E : XK), Room k (A.deeper (envOfC x (defScope st) s.heap.objs.size fA cdv)) →
      TryOk (cxOf (L2.CX P w) P w K mg base Ng x (defScope st) fA cdv A outer s H E) g (fun c d _ H' => E c d H') hds hd ∧ PSs (cxOf (L2.CX P w) P w K mg base Ng x (defScope st) fA cdv A outer s H E) rest (rs K g (fun c d _ H' => E c d H') fr)
  n0 : Ng[0]? = some a
  va : Vis (defScope st) a
  db : (x == ("__debug__" : Str)) = false
  da : (a == ("__debug__" : Str)) = false
  dc : (a == ("__classdict__" : Str)) = false
inductive LamOk (X : Cx) (g : Gc) (k : Nat) : LamD × FE → Prop
  | live {L : LamD} {fb : FE} (hL : LamX.LamS X.env.scope L.scope) (hcl : L.cl = some (cloFrom X.env.cells L.scope.names [])) (hq : L.qual = X.env.qual ++ "<lambda>")
      (hbind : ∀ (q : Str) (cl : List (Str × Addr)) (pm cv ctv : Value), bindArgs (PySem.W.kla_fn "<lambda>" q L.params L.body L.scope cl pm cv ctv) ⟨[], []⟩ = pure [])
      (hbody : ∀ (A : Around) (outer : List Env) (s : Shared) (H : Hp) (E : XK) (f' c' : Addr), Room k (A.deeper (LamX.lamEnv X L.scope s.heap.objs.size f' c')) → PE (LamX.lamCx X A outer s H E L.scope f' c') L.body (rd X.K g (fun c d _ H' => E c d H') fb)) : LamOk X g k (L, fb)
  | gone {L : LamD} {fb : FE} (V1 : LamV L) (hn : L.cl = none)
      (hbind : ∀ (q : Str) (cl : List (Str × Addr)) (pm cv ctv : Value), bindArgs (PySem.W.kla_fn "<lambda>" q L.params L.body L.scope cl pm cv ctv) ⟨[], []⟩ = pure [])
      (hbody : ∀ (A : Around) (outer : List Env) (s : Shared) (H : Hp) (E : XK) (f' c' : Addr) (cl : List (Str × Addr)), Room k (A.deeper (vEnv L cl s.heap.objs.size f' c')) → PE (vCx X.prog X.w X.K X.mg X.base A outer s H E L cl f' c') L.body (rd X.K g (fun c d _ H' => E c d H') fb)) : LamOk X g k (L, fb)
noncomputable def callB (Ls : List (LamD × FE)) (L : LamD) (vs : List FL.D) (δ : DS) (h : VH) : Out FL.D := match Ls[L.ix]? with
  | some (L', fb) => open Classical in if L' = L then (match L.cl with
    | some _ => fb δ h
    | none => if nclH h = true ∧ ncls vs = true then fb (vs.map some) h else .bad) else .bad
  | none => .bad
theorem callB_live {Ls : List (LamD × FE)} {L : LamD} {fb : FE} {vs : List FL.D} {δ : DS} {h : VH} {cl : List (Str × Addr)} (e : Ls[L.ix]? = some (L, fb)) (hc : L.cl = some cl) : callB Ls L vs δ h = fb δ h := by
  unfold callB
  rw [e]
  refine (if_pos rfl).trans ?_
  rw [hc]
theorem callB_gone {Ls : List (LamD × FE)} {L : LamD} {fb : FE} {vs : List FL.D} {δ : DS} {h : VH} (e : Ls[L.ix]? = some (L, fb)) (hc : L.cl = none) : callB Ls L vs δ h = if nclH h = true ∧ ncls vs = true then fb (vs.map some) h else .bad := by
  unfold callB
  rw [e]
  refine (if_pos rfl).trans ?_
  rw [hc]
noncomputable def eTellG (tf : Out FL.D → Out FL.D) (Ls : List (LamD × FE)) (fe : FE) : FE := fun δ h => (fe δ h).bind fun v h1 => match v with
  | .clo L vs => tf (callB Ls L vs δ h1)
  | _ => .bad
theorem rs_tell0 {K : PySem.W.Frag} {m : Nat → Addr} {n : Nat} {H : Hp} {Ng : List Str} {f : Addr} : RS K m n H (tell0 Ng.length f) (L2.start Ng [.ref f]) := by
  have r : RDs K m n H [FL.D.adr f] [.ref f] := .cons (.adr f) .nil
  have q := RS.start (N := Ng) r
  exact q
theorem fe_tellG {X : Cx} {g : Gc} {W : WX} {k : Nat} {x a : Str} {st : Stmt} {Ng : List Str} {hd : Nat → Option FL.D → DS → VH → OutS} {fr : FSt} {Ls : List (LamD × FE)} {fe : FE} {e : Expr} {p pos : Pos} {n : Nat} (T : TellG X.prog X.w X.K X.mg X.base g k x a st Ng hd fr) (hn : Ng.length = n) (hLs : ∀ q ∈ Ls, LamOk X g k q) (hg : Gl X x) (tk : Takes X W) (hr : Room (k + 2) X.A)
    (he : PE X e (rd X.K g W fe)) (hst : starEach [e] X.env = (false, eval e X.env) :: starEach [] X.env) (hpl : (backTo pos (starEach [] X.env)).any (·.1) = false) :
    PE X (.Call (.Name x p) [e] [] pos) (rd X.K g W (eTellG (tellR n hd fr) Ls fe)) := by
  subst hn
  obtain ⟨fA, fd, Fn, hm, hb⟩ := T.ex
  obtain ⟨p1, p2, p3, p8, hds, rest, hbd, hT⟩ := T.bd
  obtain ⟨oc, od, kV, doc, pm, an, cdv, ct, osl, rfl, lk, hcd⟩ := Fn.ex
  refine ⟨fun pins s σ H Q I h => ?_⟩
  obtain ⟨δ, m, vh, r, sm, q⟩ := h
  refine wpAny_Call_Name_kw (ld_glob I hg hm ?_ T.db)
  have ha : PA X [e] (tCons (rd X.K g W fe) tNil) := pa_cons he pa_nil hst
  refine PySem.W.callWith_K (h₀ := X.base) I.ok.mod.kin Fn.kp (thn (ha.run pos pins s σ H (fun vs H1 => ∃ v m1 h1 d, vs = [v] ∧ RS X.K m1 h1.length H1 δ σ ∧ Sim X.K g m1 h1 H1 ∧ RD X.K m1 h1.length H1 d v ∧ GoodE X.K g (fun c d H' => W c d σ H') m1 h1.length H1 Q (match d with | .clo L vs => tellR Ng.length hd fr (callB Ls L vs δ h1) | _ => .bad)) I ⟨δ, m, vh, r, sm, Gd.bind q fun d h1 m1 H1 e1 s1 q1 v rv => ⟨v, m1, h1, d, rfl, e1.rs r, s1, rv, q1⟩⟩) fun us s1 ⟨vs, H1, I1, rvs, hq⟩ => ⟨I1.kIn, ?_⟩) hst hpl
  obtain ⟨v, m1, h1, d, rfl, r1, sm1, rd1, q1⟩ := hq
  obtain ⟨u, rfl, rv⟩ : ∃ u, us = [u] ∧ RelV v u := by
    cases rvs with
    | cons a b =>
      cases b
      exact ⟨_, rfl, a⟩
  cases rd1 with
  | clo hlo hco cap rds =>
    rename_i L vs f c' cl ob us
    have q1 : GoodE X.K g (fun c d H' => W c d σ H') m1 h1.length H1 Q (tellR Ng.length hd fr (callB Ls L vs δ h1)) := q1
    obtain rfl : u = Value.ref f := rv
    cases eL : Ls[L.ix]? with
    | none =>
      unfold callB at q1
      rw [eL] at q1
      have z : tellR Ng.length hd fr (.bad : Out FL.D) = .bad := anyA_eq fun f => rfl
      have q1 : GoodE X.K g (fun c d H' => W c d σ H') m1 h1.length H1 Q (tellR Ng.length hd fr .bad) := q1
      rw [z] at q1
      exact q1.elim
    | some pr =>
      obtain ⟨L', fb⟩ := pr
      have bad : tellR Ng.length hd fr (.bad : Out FL.D) = .bad := anyA_eq fun f => rfl
      by_cases eq : L' = L
      rotate_left
      · have z : callB Ls L vs δ h1 = .bad := by
          unfold callB
          rw [eL]
          exact if_neg eq
        rw [z, bad] at q1
        exact q1.elim
      subst eq
      have hLk := hLs _ (List.mem_of_getElem? eL)
      -- the end, from what the body gives
      have fin : ∀ (tl : XK → Hp → VK → Prop) (o : Out FL.D), (∀ (Zs : Shared) (pn : List (Addr × Obj)) (xe : Value → Shared → Prop) (W' : WX), Zs = s1 →
            Takes ((cxOf (L2.CX X.prog X.w) X.prog X.w X.K X.mg X.base Ng x (defScope st) fA cdv X.A X.stack s1 H1 (fun c d H' => W c d σ H')).tr pn xe) W' → Room (k + 1) (X.A.deeper (envOfC x (defScope st) s1.heap.objs.size fA cdv)) →
            PE ((cxOf (L2.CX X.prog X.w) X.prog X.w X.K X.mg X.base Ng x (defScope st) fA cdv X.A X.stack s1 H1 (fun c d H' => W c d σ H')).tr pn xe) (.Call (.Name a p1) [] [] p2) (fun σZ HZ Q => σZ[0]? = some (some (.ref f)) ∧ tl (fun c d H' => W' c d σZ H') HZ Q)) →
          (∀ (E : XK) (Q' : VK), GoodE X.K g E m1 h1.length H1 Q' o → tl E H1 Q') → GoodE X.K g (fun c d H' => W c d σ H') m1 h1.length H1 Q (tellR Ng.length hd fr o) →
          wpAny (model X.prog X.w) X.A (call (.ref fA) ([] ++ [.ref f])) (EP X pins σ Q) X.xe s1 := by
        intro tl o act htl hq
        have hnb : tellR Ng.length hd fr o ≠ .bad := fun z => by
          rw [z] at hq
          exact hq
        have atF := anyA_at hnb f
        rw [show anyA _ = tellR Ng.length hd fr o from rfl] at atF
        rw [← atF] at hq
        have rc : codeAny (model X.prog X.w) X.A (.call (.ref fA) ⟨[.ref f], []⟩) (CR (L2.CX X.prog X.w) X.stack X.prog X.w H1 s1 Q (fun c d H' => W c d σ H')) s1 := by
          refine LamX.run_ofS (N := Ng) (ps := [a]) (us := [.ref f]) (vs := [.ref f]) lk hcd T.sc hr I1.env0 (hb s1 [.ref f] I1.kIn rfl) (.cons rfl .nil) rfl fun hr' => ?_
          obtain ⟨tr, tr2⟩ := hT fA cdv X.A X.stack s1 H1 (fun c d H' => W c d σ H') (hr'.mono (Nat.le_succ k))
          obtain ⟨w', hw1, hw2⟩ := tr.ex [.Expr (.Call (.Name a p1) [] [] p2) p3] p8 (fun W' => tDrop (fun σZ HZ Q => σZ[0]? = some (some (.ref f)) ∧ tl (fun c d H' => W' c d σZ H') HZ Q)) fun W' pn xe tk' => pss_one (ps_expr (act s1 pn xe W' rfl tk' hr'))
          rw [hbd]
          refine ⟨_, pss_cons hw1 tr2, ?_⟩
          have rs0 : RS X.K m1 h1.length H1 (tell0 Ng.length f) (L2.start Ng [.ref f]) := rs_tell0
          refine ⟨rfl, htl _ _ ?_⟩
          cases o with
          | bad => exact hq.elim
          | ok v2 h2 =>
            intro m2 H2 e2 s2 v3 rv3
            exact ⟨tell0 Ng.length f, m2, h2, e2.rs rs0, s2, GoodS.ofF (Gd.from e2 hq)⟩
          | err c p h2 =>
            intro m2 H2 cls dd e2 s2 rx
            refine hw2 _ c p (tell0 Ng.length f) h2 m2 H2 _ cls dd (e2.rs rs0) s2 rx ?_
            have hq2 := GoodS.ofF (Gd.from e2 hq)
            exact GoodS.next hq2 fun δ3 h3 m3 H3 σ3 e3 s3 r3 q3 => ⟨δ3, m3, h3, r3, s3, q3⟩
        refine wpAny_call (codeAny_mono rc fun r' s2 hq' => ?_)
        cases r' with
        | error e => exact passAt tk σ pins H1 s1 e s2 I1 hq'
        | ok fl =>
          cases fl with
          | ret u => exact I1.after hq'
          | _ => exact False.elim hq'
      cases hLk with
      | live hL hcl hq hbind hbody =>
        unfold CapOk at cap
        rw [hcl] at cap
        obtain ⟨rfl, rfl⟩ := cap
        have z : callB Ls L' vs δ h1 = fb δ h1 := callB_live eL hcl
        rw [z] at q1
        refine fin (fun E HZ Q' => (∃ o c', HZ f = some (.frz o (LamO f L' (cloFrom X.env.cells L'.scope.names []) c')) ∧ HZ c' = some (LamX.CodeO c' L'.qual)) ∧ rd X.K g (fun c d _ H' => E c d H') fb σ HZ Q') (fb δ h1) (fun Zs pn xe W' e tk' hr' => pe_actL (tb := fun E => rd X.K g (fun c d _ H' => E c d H') fb) I1 hL hcl hq hbind tk' hr' hbody T.n0 T.va T.da T.dc) (fun E Q' hq' => ⟨⟨ob, c', hlo, hco⟩, δ, m1, h1, r1, sm1, hq'⟩) q1
      | gone V1 hn hbind hbody =>
        by_cases hc : nclH h1 = true ∧ ncls vs = true
        rotate_left
        · have z : callB Ls L' vs δ h1 = .bad := (callB_gone eL hn).trans (if_neg hc)
          rw [z, bad] at q1
          exact q1.elim
        have z : callB Ls L' vs δ h1 = fb (vs.map some) h1 := (callB_gone eL hn).trans (if_pos hc)
        rw [z] at q1
        have F := frz_cs hn cap
        refine fin (fun E HZ Q' => ∃ o c' cl ws, HZ f = some (.frz o (LamO f L' cl c')) ∧ HZ c' = some (LamX.CodeO c' L'.qual) ∧ CapOk HZ cl L' ws ∧ rd X.K g (fun c d _ H' => reE (csOf cl L'.fr) HZ E c d H') fb (ws.map some) (unC (csOf cl L'.fr) HZ) (reQ (csOf cl L'.fr) HZ Q')) (fb (vs.map some) h1)
          (fun Zs pn xe W' e tk' hr' => pe_actV (tb := fun E => rd X.K g (fun c d _ H' => E c d H') fb) V1 hn hbind tk' hr' hbody T.n0 T.va T.da T.dc) (fun E Q' hq' => ⟨ob, c', cl, us, hlo, hco, cap, vs.map some, m1, h1, ?_, sim_un F hc.1 sm1, good_un F hq'⟩) q1
        have rds' := rds_un F _ _ hc.2 rds
        have hl : vs.length = us.length := rds.length
        refine ⟨by rw [List.length_map, List.length_map, hl], fun i d hi => ?_⟩
        rw [List.getElem?_map] at hi
        cases ei : vs[i]? with
        | none => rw [ei] at hi; cases hi
        | some d' =>
          rw [ei] at hi
          cases hi
          obtain ⟨v, h1', h2'⟩ := rds'.get ei
          exact ⟨v, by rw [List.getElem?_map, h1']; rfl, h2'⟩
  | _ => exact q1.elim
end FL
set_option Elab.async false
set_option linter.all false
set_option maxRecDepth 100000
set_option maxHeartbeats 2000000
namespace FL
open PySem PySem.Spec PyProof.Rows L2
section
variable {X : Cx} {g : Gc} {E : XK}
end
section
variable {P : Program} {w : World} {H H0 : Hp} {h h0 : Heap}
theorem hok_track {a : Addr} {u : HO} (ok : HOk P w H h) (n : H a = none) (new : ObjOk P w (upd H a u) h a u) : HOk P w (upd H a u) h := fun b v e => by
  by_cases hb : b = a
  · subst hb
    rw [upd_same] at e
    cases e
    exact new
  · rw [upd_ne hb] at e
    refine (ok b v e).stay (fun _ _ _ q => q) (fun c q => ?_) fun c xs q => ?_
    · rw [upd_ne (ne_of_none q n)]
      exact q
    · rw [upd_ne (ne_of_none q n)]
      exact q
theorem un_track {fs ex : List Addr} {a : Addr} {u : HO} (un : Un fs ex H0 H h0 h) (n : H a = none) (na : h0.get? a = none) : Un fs ex H0 (upd H a u) h0 h := by
  have ne : ∀ b o, h0.get? b = some o → b ≠ a := fun b o e z => by
    rw [z, na] at e
    cases e
  refine ⟨un.keep, un.slot, fun b o e q hx => by rw [upd_ne (ne b o e)]; exact un.free b o e q hx, un.there, fun b xs e => ?_, fun b o xs e => ?_, fun b ps e => ?_⟩
  · have z := un.tups b xs e
    rw [upd_ne (ne_of_none z n)]
    exact z
  · have z := un.frzs b o xs e
    rw [upd_ne (ne_of_none z n)]
    exact z
  · obtain ⟨more, z⟩ := un.tbls b ps e
    exact ⟨more, by rw [upd_ne (ne_of_none z n)]; exact z⟩
end
theorem adopt {P : Program} {w : World} {K : PySem.W.Frag} {g : Gc} {m : Nat → Addr} {vh : VH} {fs : List Addr} {H0 : Hp} {h0 h : Heap} {cells : List (Str × Addr)} (inj : ∀ x y c, cells.lookup x = some c → cells.lookup y = some c → x = y)
    : ∀ (ys : List (Str × V)) (H : Hp), (ys.map (·.1)).Nodup → HOk P w H h → Un fs [] H0 H h0 h → Sim K g m vh H →
    (∀ y v, (y, v) ∈ ys → ∃ c u, cells.lookup y = some c ∧ H c = none ∧ h0.get? c = none ∧ RelV v u ∧ h.IsCell c (some u)) →
    ∃ H', HOk P w H' h ∧ Un fs [] H0 H' h0 h ∧ Sim K g m vh H' ∧ Ext m vh.length H m vh.length H' ∧ (∀ y v, (y, v) ∈ ys → ∃ c o, cells.lookup y = some c ∧ H' c = some (.frz o (CellO c v)))
  | [], H, _, ok, un, sm, _ => ⟨H, ok, un, sm, Ext.refl, fun y v z => absurd z List.not_mem_nil⟩
  | (y, v) :: ys, H, nd, ok, un, sm, hy => by
    rw [List.map_cons, List.nodup_cons] at nd
    obtain ⟨c, u, e1, e2, e3, e4, o, e5, e6⟩ := hy y v List.mem_cons_self
    have new : ObjOk P w (upd H c (.frz o (CellO c v))) h c (.frz o (CellO c v)) := ⟨e5, ⟨u, e4, o, e5, e6⟩, ⟨o, e5⟩, fun h1 h2 ⟨u', a1, o', a2, a3⟩ st => ⟨u', a1, o', st _ a2, a3⟩⟩
    obtain ⟨ex, sm1⟩ := sm.tup (o := .frz o (CellO c v)) e2
    obtain ⟨H', a1, a2, a3, a4, a5⟩ := adopt inj ys (upd H c (.frz o (CellO c v))) nd.2 (hok_track ok e2 new) (un_track un e2 e3) sm1 fun y' v' hm => by
      obtain ⟨c', u', b1, b2, b3, b4, b5⟩ := hy y' v' (List.mem_cons_of_mem _ hm)
      refine ⟨c', u', b1, ?_, b3, b4, b5⟩
      rw [upd_ne fun z => ?_]
      · exact b2
      · have z2 : y' = y := inj y' y c (by rw [← z]; exact b1) e1
        exact nd.1 (List.mem_map.mpr ⟨(y', v'), hm, z2⟩)
    refine ⟨H', a1, a2, a3, ex.trans a4, fun y' v' hm => ?_⟩
    rcases List.mem_cons.mp hm with z | z
    · cases z
      exact ⟨c, o, e1, a4.im.frz _ _ _ upd_same⟩
    · exact a5 y' v' z
section
variable {K : PySem.W.Frag} {m : Nat → Addr} {n : Nat} {H H' : Hp} {sc : Scope} {ys : List (Str × Nat)} {Gs : List (LamD × List Nat)} {δ : DS} {σ : L2.St} {cells : List (Str × Addr)}
end
noncomputable def anyC {α : Type} (F : List (Str × Addr) → Out α) : Out α := open Classical in if h : ∃ o, ∀ f, F f = o then h.choose else .bad
theorem anyC_eq {α : Type} {F : List (Str × Addr) → Out α} {o : Out α} (h : ∀ f, F f = o) : anyC F = o := by
  unfold anyC
  have e : ∃ o, ∀ f, F f = o := ⟨o, h⟩
  rw [dif_pos e]
  exact (e.choose_spec []).symm.trans (h [])
theorem anyC_at {α : Type} {F : List (Str × Addr) → Out α} (h : anyC F ≠ .bad) (f : List (Str × Addr)) : F f = anyC F := by
  unfold anyC at *
  by_cases e : ∃ o, ∀ f, F f = o
  · rw [dif_pos e]
    exact e.choose_spec f
  · rw [dif_neg e] at h
    exact absurd rfl h
def outD : Option FL.D → VH → Out FL.D
  | some d, h => .ok d h
  | none, _ => .bad
end FL
set_option Elab.async false
set_option linter.all false
set_option maxRecDepth 100000
set_option maxHeartbeats 2000000
namespace FL
open PySem PySem.Spec PyProof.Rows L2
structure MethF (K : PySem.W.Frag) (g : Gc) (c : Nat) (m q : Str) (st : Stmt) (ps : List Str) : Prop where
  ex : ∃ C f fd, g.ks[c]? = some C ∧ Cls K C ∧ Meth K C m f ∧ L2.Fun K m q st f fd ∧ Binds K fd ps []
structure NewF (K : PySem.W.Frag) (mg : Str → Option Value) (g : Gc) (c : Nat) (x : Str) : Prop where
  ex : ∃ C, g.ks[c]? = some C ∧ mg x = some (.ref C) ∧ PySem.W.makesIn K C = true ∧ PySem.W.keepIn K (.ref C) = true
section
variable {P : Program} {w : World} {K : PySem.W.Frag} {mg : Str → Option Value} {base : Heap} {g : Gc} {k c : Nat} {m q n x : Str} {st : Stmt} {ps N : List Str} {F : List FL.D → VH → Out FL.D} {sb : FSt} {cs : List (Addr × Addr)}
theorem Mf.mkD (A : MethF K g c m q st ps) (S : FnScope N ps (defScope st))
    (body : ∀ (f : Addr) (cdv : Value) (A : Around) (outer : List Env) (s : Shared) (H : Hp) (E : XK), Room k (A.deeper (envOfC q (defScope st) s.heap.objs.size f cdv)) →
      PSs (cxOf (L2.CX P w) P w K mg base N q (defScope st) f cdv A outer s H E) (defBody st) (rs K g (fun c d _ H' => E c d H') sb)) : Mf P w K mg base g (k + 1) c m (runF ps.length N.length sb) := by
  obtain ⟨C, f, fd, h1, h2, h3, Fn, hb⟩ := A.ex
  exact ⟨C, f, fd, ps, h1, h2, h3, hb, Fn.okX S (fun vs H Q E h => spF_len h) fun cdv A outer s H vs Q E hr h => ⟨_, body f cdv A outer s H E hr, rs_run h⟩⟩
theorem Mf.bot (A : MethF K g c m q st ps) : Mf P w K mg base g k c m (fun _ _ => .bad) := by
  obtain ⟨C, f, fd, h1, h2, h3, Fn, hb⟩ := A.ex
  exact ⟨C, f, fd, ps, h1, h2, h3, hb, ⟨fun vs H Q E ⟨m, h, xs, s, r, q⟩ => q.elim, fun A outer s H args us vs Q E hr e0 hb r ⟨m, h, xs, s, r', q⟩ => q.elim⟩⟩
theorem Mf.imp (d : Mf P w K mg base g k c m F) {F' : List FL.D → VH → Out FL.D} (h : ∀ vs H Q E, spF K g F' vs H Q E → spF K g F vs H Q E) : Mf P w K mg base g k c m F' := by
  obtain ⟨C, f, fd, ps, h1, h2, h3, h4, h5⟩ := d.ex
  exact ⟨C, f, fd, ps, h1, h2, h3, h4, FL.FnOk.impS h5 h⟩
theorem Mf.mono (d : Mf P w K mg base g k c m F) {j : Nat} (h : k ≤ j) : Mf P w K mg base g j c m F := by
  obtain ⟨C, f, fd, ps, h1, h2, h3, h4, h5⟩ := d.ex
  exact ⟨C, f, fd, ps, h1, h2, h3, h4, h5.mono h⟩
theorem Mf.cln (d : Mf P w K mg base g k c m F) {F' : List FL.D → VH → Out FL.D} (h : ∀ xs h, wf h → FL.bnds h.length xs = true → Cl h.length (F xs h) (F' xs h)) : Mf P w K mg base g k c m F' :=
  d.imp fun vs H Q E ⟨m, vh, xs, s, r, q⟩ => ⟨m, vh, xs, s, r, Gd.cl (h xs vh s.wf (RDs.bnds _ _ r)) q⟩
theorem Mf.eqv (d : Mf P w K mg base g k c m F) {F' : List FL.D → VH → Out FL.D} (h : F = F') : Mf P w K mg base g k c m F' := h ▸ d
theorem Nf.of (N : NewF K mg g c x) (d : Mf P w K mg base g k c "__init__" F) : Nf P w K mg base g k x c F := by
  obtain ⟨C, h1, h2, h3, h4⟩ := N.ex
  obtain ⟨C', f, fd, ps, e1, e2, e3, e4, e5⟩ := d.ex
  rw [h1] at e1
  cases e1
  exact ⟨C, f, fd, ps, h1, h2, ⟨h3, e3.at_, e3.fn, h4⟩, e4, e5⟩
end
theorem Nf.mono {P : Program} {w : World} {K : PySem.W.Frag} {mg : Str → Option Value} {base : Heap} {g : Gc} {k c : Nat} {x : Str} {F : List FL.D → VH → Out FL.D} (d : Nf P w K mg base g k x c F) {j : Nat} (h : k ≤ j) : Nf P w K mg base g j x c F := by
  obtain ⟨C, f, fd, ps, h1, h2, h3, h4, h5⟩ := d.ex
  exact ⟨C, f, fd, ps, h1, h2, h3, h4, h5.mono h⟩
end FL
set_option Elab.async false
set_option linter.all false
set_option maxRecDepth 100000
set_option maxHeartbeats 2000000
namespace FL
open PySem PySem.Spec PyProof.Rows L2
def stN (l : List Stmt) (i : Nat) : Stmt := l.getD i (.Pass ⟨0, 0, 0, 0⟩)
def forB : Stmt → List Stmt
  | .For _ _ b _ _ => b
  | _ => []
def asV : Stmt → Expr
  | .Assign _ v _ => v
  | _ => .Constant .none 0 ⟨0, 0, 0, 0⟩
def elN : Expr → Nat → Expr
  | .Tuple es _ _, i => es.getD i (.Constant .none 0 ⟨0, 0, 0, 0⟩)
  | .List es _, i => es.getD i (.Constant .none 0 ⟨0, 0, 0, 0⟩)
  | .Compare a _ _ _, 0 => a
  | .Call _ es _ _, i => es.getD i (.Constant .none 0 ⟨0, 0, 0, 0⟩)
  | _, _ => .Constant .none 0 ⟨0, 0, 0, 0⟩
def lamSc (e : Expr) : Scope := match e with
  | .Lambda _ _ scope _ => scope
  | _ => defScope (.Pass ⟨0, 0, 0, 0⟩)
def lamPa (e : Expr) : Arguments := match e with
  | .Lambda params _ _ _ => params
  | _ => defArgs (.Pass ⟨0, 0, 0, 0⟩)
def lamBo (e : Expr) : Expr := match e with
  | .Lambda _ body _ _ => body
  | _ => e
def lamAt (ix : Nat) (q : Str) (e : Expr) (cells : List (Str × Addr)) : LamD := ⟨ix, q, lamPa e, lamBo e, lamSc e, some (cloFrom cells (lamSc e).names []), []⟩
noncomputable def runA (np n : Nat) (b : List (Str × Addr) → FSt) : List FL.D → VH → Out FL.D := fun ds h => anyC fun cells => runF np n (b cells) ds h
theorem mkA {P : Program} {w : World} {K : PySem.W.Frag} {mg : Str → Option Value} {base : Heap} {g : Gc} {k : Nat} {name qual : Str} {f c : Addr} {params : Arguments} {bd : List Stmt} {scope : Scope} {dV kV doc pm ct oc : Value} {an od : Option Addr} {osl : Array (Option Value)} {N ps : List Str} {sb : List (Str × Addr) → FSt}
    (lk : K.lookup f = some ⟨oc, od, .func (PySem.W.fnOf name qual params bd scope dV kV doc pm an (.ref c) ct), osl⟩) (hcd : PySem.W.codeIn K (.ref c) qual = true) (S : FnScope N ps scope)
    (body : ∀ (A : Around) (outer : List Env) (s : Shared) (H : Hp) (E : XK), Room k (A.deeper (envOfC qual scope s.heap.objs.size f (.ref c))) →
      PSs (cxOf (L2.CX P w) P w K mg base N qual scope f (.ref c) A outer s H E) bd (rs K g (fun c d _ H' => E c d H') (sb (cellsFrom (s.heap.objs.size + 1) scope.names [])))) :
    FnOk P w K mg base (L2.CX P w) (k + 1) f (PySem.W.fnOf name qual params bd scope dV kV doc pm an (.ref c) ct) ps (spF K g (runA ps.length N.length sb)) := by
  have at_ : ∀ {vs H Q E}, spF K g (runA ps.length N.length sb) vs H Q E → ∀ cells, spF K g (runF ps.length N.length (sb cells)) vs H Q E := fun {vs H Q E} ⟨m, h, xs, s, r, q⟩ cells => by
    have hnb : runA ps.length N.length sb xs h ≠ .bad := fun z => by
      rw [z] at q
      exact q
    have e := anyC_at hnb cells
    rw [show anyC _ = runA ps.length N.length sb xs h from rfl] at e
    exact ⟨m, h, xs, s, r, by rw [e]; exact q⟩
  exact fn_of lk hcd S (fun vs H Q E h => spF_len (at_ h [])) fun A outer s H vs Q E hr h => ⟨_, body A outer s H E hr, rs_run (at_ h _)⟩
theorem allL_nil {α : Type} {p : α → Prop} : ∀ x ∈ ([] : List α), p x := fun _ z => absurd z List.not_mem_nil
theorem allL_cons {α : Type} {p : α → Prop} {a : α} {l : List α} (h : p a) (t : ∀ x ∈ l, p x) : ∀ x ∈ a :: l, p x := fun x hx => by
  rcases List.mem_cons.mp hx with rfl | hx
  · exact h
  · exact t x hx
end FL
set_option Elab.async false
set_option linter.all false
set_option maxRecDepth 100000
set_option maxHeartbeats 2000000
namespace FL
open PySem
theorem oFld_at {c k : Nat} {f : Str} {fs : List (Str × D)} {v : D} {h : VH} (e : h[k]? = some (.ins c fs)) (l : fs.lookup f = some v) : oFld c f (.ref k) h = some (v, h) := by
  have i : insOf c (.ref k) h = some fs := by
    unfold insOf
    simp only [e, if_true]
  unfold oFld
  rw [i]
  simp only [l]
theorem stFld_at {c k : Nat} {f : Str} {fs : List (Str × D)} {v : D} {h : VH} (e : h[k]? = some (.ins c fs)) (l : fs.length < 1000) : stFld c f (.ref k) v h = some (h.set k (.ins c (putFD f v fs))) := by
  unfold stFld
  simp only [e, true_and, if_pos l]
theorem hasM_at {c k : Nat} {f : Str} {fs : List (Str × D)} {h : VH} (e : h[k]? = some (.ins c fs)) (l : fs.lookup f = none) : hasM c f (.ref k) h = true := by
  have i : insOf c (.ref k) h = some fs := by
    unfold insOf
    simp only [e, if_true]
  unfold hasM
  rw [i]
  simp only [l]
  rfl
section
variable {δ : DS} {h : VH} {a b : FE} {r : FA} {c : Nat} {f : Str} {F : List D → VH → Out D}
def fsK (δ : DS) : Option VH → OutS
  | some h => .nx δ h
  | none => .bad
@[simp] theorem fsK_some : fsK δ (some h) = .nx δ h := (rfl)
@[simp] theorem ap_sFld : FL.sFld c f a b δ h = thenS δ (b δ h) fun y h => thenS δ (a δ h) fun x h => fsK δ (stFld c f x y h) := (rfl)
@[simp] theorem ap_eMeth : eMeth c f F a r δ h = (a δ h).bind fun x h => if hasM c f x h = true then (r δ h).bind fun xs h => F (x :: xs) h else .bad := (rfl)
@[simp] theorem ap_eNew : eNew c F r δ h = (r δ h).bind fun xs h => newK h.length (F (.ref h.length :: xs) (h ++ [.ins c []])) := (rfl)
@[simp] theorem newK_ok {n : Nat} : newK n (.ok .non h) = .ok (.ref n) h := (rfl)
@[simp] theorem ap_eLam {L : LamD} : eLam L δ h = .ok (.clo L []) h := (rfl)
noncomputable def tgK (tf : Out D → Out D) (Ls : List (LamD × FE)) (δ : DS) (v : D) (h : VH) : Out D := match v with
  | .clo L vs => tf (callB Ls L vs δ h)
  | _ => .bad
@[simp] theorem ap_eTellG {tf : Out D → Out D} {Ls : List (LamD × FE)} : eTellG tf Ls a δ h = (a δ h).bind (tgK tf Ls δ) := (rfl)
@[simp] theorem tgK_clo {tf : Out D → Out D} {Ls : List (LamD × FE)} {L : LamD} {vs : List D} : tgK tf Ls δ (.clo L vs) h = tf (callB Ls L vs δ h) := (rfl)
end
end FL
set_option Elab.async false
set_option linter.all false
set_option maxRecDepth 100000
set_option maxHeartbeats 2000000
namespace FL
open PySem
end FL
set_option Elab.async false
set_option linter.all false
set_option maxRecDepth 100000
set_option maxHeartbeats 2000000
namespace FL
open PySem PySem.Spec PyProof.Rows L2
structure Tab0 (K : PySem.W.Frag) (h : Heap) (c Pt : Addr) : Prop where
  hd : PySem.W.codeHdIn K c Pt = true
  out : K.lookup Pt = none
  emp : h.get? Pt = some { cls := .none, data := .fields #[] }
theorem CodeT.tab0 {K : PySem.W.Frag} {mg : Str → Option Value} {names : List Str} {x : Str} {c Pt : Addr} {h : Heap} (C : CodeT K mg names x c Pt) (own : AllTab K mg names h) : Tab0 K h c Pt := by
  obtain ⟨f, o, fd1, ec, dc, vs, slc, h1, h2, h3, h4, h5, h6, h7, h8, h9⟩ := C.ex
  exact ⟨h8, h9, own x f h1 h2 c Pt o fd1 ec dc vs slc h3 h4 h5 h6 h7⟩
theorem lawAt_tabs {l : PySem.W.OpenLaw} {w : World} {K : PySem.W.Frag} {mg : Str → Option Value} {g : Gc} {k : Nat} {fa : Addr} {h : Heap} {fd : FuncData} {cs : List (Addr × Addr)} {F : List FL.D → VH → Out FL.D} (X : K.In h) (hcs : ∀ p ∈ cs, Tab0 K h p.1 p.2) (gT : ∀ p ∈ g.T, p.1 ∈ cs.map (·.2)) (hbind : ∀ (s : Shared) (u : Value), BindsTo s fd ⟨[u], []⟩ [(Str.ofString "script", u)])
    (D : ∀ base : Heap, K.In base → base.Ns mainGlobals mg → (∀ p ∈ cs, LamX.TabB base mg p.1 p.2) → FnOk l.prog w K mg base (L2.CX l.prog w) k fa fd [Str.ofString "script"] (spF K g F))
    (S : ∀ ns : List Int, ns.length ≤ 63 → (∃ h', F [.fls (ns.map FL.D.int)] [] = .ok (.bl true) h') ∧ ∃ h', F [.ref 0] [.lst (ns.map FL.D.int)] = .ok (.bl true) h') :
    LamX.LawAtS l w K (L2.CX l.prog w) k 63 (Str.ofString "script") mg fa h := by
  refine ⟨fd, cs, spF K g F, fun p hp => (hcs p hp).emp, fun p hp => (hcs p hp).out, fun p hp => PySem.W.codeHd_of_K X (hcs p hp).hd, hbind, ?_, ?_⟩
  · intro H a ns hl _ hT hS
    refine sp_law (fun p hp => ?_) hS (S ns hl).1 (S ns hl).2
    obtain ⟨q, hq, e⟩ := List.mem_map.mp (gT p hp)
    rw [← e]
    exact hT q hq
  · intro base hK hN hT
    exact D base hK hN hT
end FL
set_option Elab.async false
set_option linter.all false
set_option maxRecDepth 100000
set_option maxHeartbeats 2000000
namespace FL
open PySem
end FL
set_option Elab.async false
set_option linter.all false
set_option maxRecDepth 100000
set_option maxHeartbeats 2000000
namespace FL
open PySem PySem.Spec PyProof.Rows L2
section
variable {X : Cx} {W : WX} {pins : List (Addr × Obj)} {σ : L2.St} {H3 : Hp} {s3 : Shared} {scope : Scope} {ce : Env} {fp : List Addr}
end
section
variable {X : Cx} {W : WX} {elt tg iter : Expr} {ifs : List Expr} {scope : Scope} {own : List (Str × Nat)} {pos : Pos} {wi : TI} {tgt : TG} {tst : TT} {tel : WX → TE}
end
end FL
set_option Elab.async false
set_option linter.all false
set_option maxRecDepth 100000
set_option maxHeartbeats 2000000
namespace FL
open PySem PySem.Spec PyProof.Rows L2
def lcTX (g : FG) (t : FT) (e : FE) (own : List Nat) (δ : DS) : List D → VH → List D → Out (List D)
  | [], h, acc => .ok acc h
  | x :: xs, h, acc => match g x (FL.wipe δ own) h with
    | none => .bad
    | some (δ1, h) => match t δ1 h with
      | .ok false h => lcTX g t e own δ xs h acc
      | .ok true h => match e δ1 h with
        | .ok y h => if acc.length < 16777216 then lcTX g t e own δ xs h (acc ++ [y]) else .bad
        | .err c p h => .err c p h
        | .bad => .bad
      | _ => .bad
def lcEndX (o : Out (List D)) : Out D := match o with
  | .ok xs h => .ok (.fls xs) h
  | .err c p h => .err c p h
  | .bad => .bad
def lcXX (g : FG) (t : FT) (e : FE) (own : List Nat) (δ : DS) (x : D) (h : VH) : Out D := match x with
  | .tup xs => lcEndX (lcTX g t e own δ xs h [])
  | .fls xs => lcEndX (lcTX g t e own δ xs h [])
  | _ => .bad
def eLcX (a : FE) (g : FG) (t : FT) (e : FE) (own : List Nat) : FE := fun δ h => (a δ h).bind fun x h => lcXX g t e own δ x h
section
variable {X : Cx} {g : Gc} {f : FG} {ft : FT} {fe : FE} {own : List Nat} {δ : DS} {σ : L2.St} {D : Addr} {Q : VK} {m0 : Nat → Addr} {n0 : Nat} {H0 : Hp} {Wv : Value → Option Addr → Hp → Prop}
end
section
variable {X : Cx} {g : Gc} {W : WX} {f : FG} {ft : FT} {fe fa : FE} {sl : List Nat} {elt tg iter : Expr} {ifs : List Expr} {scope : Scope} {own : List (Str × Nat)} {pos : Pos}
end
@[simp] theorem ap_eLcX {a : FE} {g : FG} {t : FT} {e : FE} {own : List Nat} {δ : DS} {h : VH} : eLcX a g t e own δ h = (a δ h).bind fun x h => lcXX g t e own δ x h := (rfl)
end FL
set_option Elab.async false
set_option linter.all false
set_option maxRecDepth 100000
set_option maxHeartbeats 2000000
namespace FL
open PySem PySem.Spec PyProof.Rows L2
section
variable {P : Program} {w : World} {A : Around} {R : Result → Shared → Prop} {kx vx t0 i0 t1 i1 : Expr} {q0 q1 : List Expr} {sc : Scope} {ps : Pos} {en : Env}
end
section
variable {X : Cx}
end
end FL
set_option Elab.async false
set_option linter.all false
set_option maxRecDepth 100000
set_option maxHeartbeats 2000000
namespace FL
open PySem PySem.Spec PyProof.Rows L2
def addN (l : List (List Nat)) (k : List Nat) : List (List Nat) := if k ∈ l then l else l ++ [k]
def dkEnd (o : Out (List (List Nat))) : Out FL.D := match o with
  | .ok l h => .ok (.fdc (l.map .str) (l.map fun _ => .bl true)) h
  | _ => .bad
def dkV (l : List (List Nat)) : List (Key × V) := l.map fun k => (Sum.inr (mkS k), V.bl true)
theorem dkV_put (l : List (List Nat)) (k : List Nat) : putK (dkV l) (.inr (mkS k)) (.bl true) = dkV (addN l k) := by
  have e : ((dkV l).any fun kv => decide (kv.1 = .inr (mkS k))) = true ↔ k ∈ l := by
    unfold dkV
    rw [List.any_map, List.any_eq_true]
    constructor
    · rintro ⟨x, hx, e⟩
      have e := of_decide_eq_true e
      have e : Sum.inr (mkS x) = (Sum.inr (mkS k) : Key) := e
      rw [← mkS_inj (Sum.inr.inj e)]
      exact hx
    · intro h
      exact ⟨k, h, decide_eq_true rfl⟩
  unfold putK addN
  by_cases h : k ∈ l
  · rw [if_pos (e.mpr h), if_pos h]
    unfold dkV
    rw [List.map_map]
    refine List.map_congr_left fun x _ => ?_
    show (if (Sum.inr (mkS x) : Key) = Sum.inr (mkS k) then ((Sum.inr (mkS x) : Key), V.bl true) else _) = _
    split <;> rfl
  · rw [if_neg (fun z => h (e.mp z)), if_neg h]
    unfold dkV
    rw [List.map_append]
    rfl
theorem addN_ok {l : List (List Nat)} {k : List Nat} (h : ∀ a ∈ l, okS a = true) (hk : okS k = true) : ∀ a ∈ addN l k, okS a = true := by
  unfold addN
  split
  · exact h
  · intro a ha
    rcases List.mem_append.mp ha with ha | ha
    · exact h a ha
    · rw [List.mem_singleton.mp ha]; exact hk
theorem dkV_code {kvs : List (Key × V)} {a : Addr} {q : Str} : HO.dK kvs ≠ LamX.CodeO a q := fun z => by
  unfold LamX.CodeO at z
  cases z
section
variable {X : Cx} {g : Gc} {f f1 : FG} {ft ft1 : FT} {fe fa fa1 : FE} {own own1 : List Nat} {δ : DS} {σ : L2.St} {D : Addr} {Q : VK} {m0 : Nat → Addr} {n0 : Nat} {H0 : Hp}
theorem Sim.ownK {K : PySem.W.Frag} {g : Gc} {m : Nat → Addr} {h : VH} {H : Hp} {D : Addr} {kvs : List (Key × V)} (s : Sim K g m h H) (hD : H D = some (.dK kvs)) (nD : ∀ k, k < h.length → m k ≠ D) (u : HO) : Imm H (upd H D u) ∧ Sim K g m h (upd H D u) := by
  have im : Imm H (upd H D u) := ⟨fun a xs e => by
    rw [upd_ne (fun z => by rw [z, hD] at e; cases e)]
    exact e, fun a o u e => by
    rw [upd_ne (fun z => by rw [z, hD] at e; cases e)]
    exact e, fun a q e => by
    rw [upd_ne (fun z => by rw [z, hD] at e; exact dkV_code (Option.some.inj e))]
    exact e⟩
  refine ⟨im, ⟨s.inj, fun i o hi => ?_, tabs_upd s.tab (fun ps z => by rw [hD] at z; cases z) (fun q z => by rw [hD] at z; exact dkV_code (Option.some.inj z))⟩⟩
  have hl := (List.getElem?_eq_some_iff.mp hi).1
  exact (s.obj i o hi).mono (Nat.le_refl _) (fun _ _ => rfl) im (upd_ne (nD i hl))
structure AccK (K : PySem.W.Frag) (g : Gc) (m0 : Nat → Addr) (n0 : Nat) (H0 : Hp) (D : Addr) (m : Nat → Addr) (h : VH) (H : Hp) (acc : List (List Nat)) : Prop where
  ex : Ext m0 n0 H0 m h.length H
  sm : Sim K g m h H
  nD : ∀ k, k < h.length → m k ≠ D
  at_ : H D = some (.dK (dkV acc))
  ok : ∀ a ∈ acc, okS a = true
theorem AccK.from {K : PySem.W.Frag} {g : Gc} {m0 m m1 : Nat → Addr} {n0 : Nat} {H0 H H1 : Hp} {D : Addr} {h h1 : VH} {acc : List (List Nat)} (a : AccK K g m0 n0 H0 D m h H acc) (e : Ext m h.length H m1 h1.length H1) (s : Sim K g m1 h1 H1) : AccK K g m0 n0 H0 D m1 h1 H1 acc := by
  refine ⟨a.ex.trans e, s, fun k hk z => ?_, e.fr D _ a.nD a.at_ trivial, a.ok⟩
  by_cases hn : k < h.length
  · rw [e.eq k hn] at z
    exact a.nD k hn z
  · have := e.nw k (by omega) hk
    rw [z, a.at_] at this
    exact this.elim
theorem AccK.put {K : PySem.W.Frag} {g : Gc} {m0 m : Nat → Addr} {n0 : Nat} {H0 H : Hp} {D : Addr} {h : VH} {acc : List (List Nat)} {k : List Nat} (a : AccK K g m0 n0 H0 D m h H acc) (h0 : H0 D = none) (hk : okS k = true) :
    Imm H (upd H D (.dK (putK (dkV acc) (.inr (mkS k)) (.bl true)))) ∧ AccK K g m0 n0 H0 D m h (upd H D (.dK (putK (dkV acc) (.inr (mkS k)) (.bl true)))) (addN acc k) := by
  obtain ⟨im, s⟩ := a.sm.ownK a.at_ a.nD (.dK (putK (dkV acc) (.inr (mkS k)) (.bl true)))
  exact ⟨im, a.ex.own h0 _, s, a.nD, by rw [upd_same, dkV_put], addN_ok a.ok hk⟩
abbrev FinK (K : PySem.W.Frag) (g : Gc) (m0 : Nat → Addr) (n0 : Nat) (H0 : Hp) (Q : VK) (o : Out (List (List Nat))) : Prop := GoodE K g (fun _ _ _ => False) m0 n0 H0 Q (dkEnd o)
theorem okK_all : ∀ {l : List (List Nat)}, (∀ a ∈ l, okS a = true) → ∀ p ∈ dkV l, okK p.1 = true := by
  intro l h p hp
  obtain ⟨k, hk, e⟩ := List.mem_map.mp hp
  rw [← e]
  show okS (mkS k).cps.toList = true
  exact h k hk
theorem rds_true {K : PySem.W.Frag} {m : Nat → Addr} {n : Nat} {H : Hp} : ∀ (l : List (List Nat)), RDs K m n H (l.map fun _ => .bl true) ((dkV l).map (·.2))
  | [] => .nil
  | _ :: l => .cons (.bl true) (rds_true l)
theorem AccK.end {K : PySem.W.Frag} {m : Nat → Addr} {h : VH} {H : Hp} {acc : List (List Nat)} (h0 : H0 D = none) (a : AccK K g m0 n0 H0 D m h H acc) (q : FinK K g m0 n0 H0 Q (.ok acc h)) : FzQ Q (.ref D) H := by
  refine .lock D (.dK (dkV acc)) a.at_ trivial fun o => .base ?_
  obtain ⟨im, s⟩ := a.sm.ownK a.at_ a.nD (.frz o (.dK (dkV acc)))
  refine q m _ (a.ex.own h0 _) s _ (.fdc (o := o) (kvs := dkV acc) upd_same ?_ (okK_all a.ok) (rds_true acc))
  unfold dkV
  rw [List.map_map]
  exact List.map_congr_left fun x _ => rfl
end
section
variable {X : Cx} {g : Gc} {W : WX} {f f1 : FG} {ft ft1 : FT} {fe fa fa1 : FE} {sl sl1 : List Nat} {kx vx tg iter tg1 iter1 : Expr} {ifs ifs1 : List Expr} {scope : Scope} {own : List (Str × Nat)} {pos : Pos}
end
end FL
set_option Elab.async false
set_option linter.all false
set_option maxRecDepth 100000
set_option maxHeartbeats 2000000
namespace FL
open PySem PySem.Spec PyProof.Rows L2
section
variable {P : Program} {w : World} {K : PySem.W.Frag} {mg : Str → Option Value} {base : Heap} {g : Gc} {k : Nat} {x y : Str} {F : List D → VH → Out D}
end
end FL
set_option Elab.async false
set_option linter.all false
set_option maxRecDepth 100000
set_option maxHeartbeats 2000000
namespace FL
open PySem PySem.Spec PyProof.Rows L2
section
variable {X : Cx} {g : Gc} {f : FG} {ft : FT} {fe fa : FE} {own : List Nat} {δ : DS} {σ : L2.St} {D : Addr} {Q : VK} {fin : List (List Nat) → FL.D}
end
section
variable {X : Cx} {g : Gc} {W : WX} {f : FG} {ft : FT} {fe fa : FE} {sl : List Nat} {elt tg iter : Expr} {ifs : List Expr} {scope : Scope} {own : List (Str × Nat)} {pos cpos p : Pos} {fin : List (List Nat) → FL.D}
end
end FL
set_option Elab.async false
set_option linter.all false
set_option maxRecDepth 100000
set_option maxHeartbeats 4000000
namespace FL
open PySem PySem.Spec PyProof.Rows L2 PySem.W PySem.HandSPX
structure SupF (P : Program) (K : Frag) (mg : Str → Option Value) (D : Addr) (f : Addr) (fd : FuncData) (qual : Str) (params : Arguments) (body : List Stmt) (scope : Scope) (cda cc : Addr) : Prop where
  ex : ∃ (oc dV kV doc pm ct : Value) (od an : Option Addr) (osl : Array (Option Value)), fd = ksFn "__init__" qual params body scope dV kV doc pm an (.ref cda) ct cc ∧ K.lookup f = some ⟨oc, od, .func (ksFn "__init__" qual params body scope dV kV doc pm an (.ref cda) ct cc), osl⟩
  hcd : codeIn K (.ref cda) qual = true
  rec_ : ∃ (ccl : Value) (cdd : Option Addr) (ccs : Array (Option Value)) (vs : Array Value) (file : Str) (tf : Tok), K.lookup cda = some ⟨ccl, cdd, .fields vs, ccs⟩ ∧ vs[2]? = some (.str file tf) ∧ ((P.main.file : Str) == file) = true
  cell : ∃ (cl : Value) (cld : Option Addr) (csl : Array (Option Value)), K.lookup cc = some ⟨cl, cld, .cell (some (.ref D)), csl⟩
  cls : ∃ cd, clsIn K D = some cd ∧ alongIn K "__init__" ((cd.mro.dropWhile (· != .ref D)).drop 1) = some (some (.builtin "ValueError.__init__"))
  sub : mroIn K D (.ref D) = some true
  sup : mg "super" = none
  top : (P.main.scope.names.lookup ("super" : Str)).isSome = false
  opq : nsIn K cStatics "thirdparty.any" = some none
  ve : subIn K (.ref D) (.type "ValueError") = some true
  oex : OexC K D
structure SupS (scope : Scope) (f : Str) : Prop where
  kind : scope.kind = .function
  co : scope.isCoroutine = false
  gen : scope.isGenerator = false
  sup : scope.names.lookup ("super" : Str) = some .globalImplicit
  cls : scope.names.lookup ("__class__" : Str) = some .free
  self : scope.names.lookup ("self" : Str) = some .local
  fld : scope.names.lookup f = some .local
  cell : ∀ x ∈ scope.names, x.2 ≠ .cell
  free : ∀ x ∈ scope.names, x.2 = .free → x.1 = ("__class__" : Str)
def cxS (CX : CXT) (P : Program) (w : World) (K : Frag) (mg : Str → Option Value) (base : Heap) (N : List Str) (env : Env) (A : Around) (outer : List Env) (s : Shared) (H : Hp) (E : XK) : Cx where
  prog := P
  w := w
  K := K
  mg := mg
  base := base
  A := A.deeper env
  N := N
  s_0 := s
  H_0 := H
  env := env
  outer := outer
  stack := env :: outer
  ex := []
  calm := true
  fn := fun _ => false
  pn := []
  xe := fun e s' => wpAny (model P w) (A.deeper env) (leaving env e) (fun _ s'' => CX outer H s E e s'') (fun e' s'' => CX outer H s E e' s'') s'
def spInit (D : Addr) (f : Str) : Sp := fun vs H Q E => ∃ (e : Addr) (y : V), vs = [.ref e, y] ∧ H e = some (exo e D none) ∧ ∀ dx, H dx = none → dx ≠ e → Q .non (upd (upd H dx (exd dx [(f, y)])) e (exo e D (some dx)))
abbrev initB (f : Str) (msg : Str) (tk : Nat) (p0 p1 p2 p3 p4 p5 p6 p7 p8 p9 : Pos) : List Stmt :=
  [.Expr (.Call (.Attribute (.Call (.Name "super" p0) [] [] p1) "__init__" p2) [.Constant (.str msg) tk p3] [] p4) p5, .Assign [.Attribute (.Name "self" p6) f p7] (.Name f p8) p9]
theorem run_mw {prog : Program} {w : World} {A : Around} {E : Value → Shared → Prop} {h : Heap} {g : Array GenState} {d : Drawn} {t : Nat} {os : OsState} {nm q : Str} {C N : Addr} {bs bm : List Value} {hdct : Bool} {sn : List Str} {sub : List Value} {ab : Bool} {col : Option Bool} {dd : Option Addr} {k0 k1 k2 k3 k5 : Option Value} {u e t0 : Addr} {rest : List Value} {Q : Value → Shared → Prop}
    (hC : h.get? C = some (excClassObj nm q C N bs bm hdct sn sub ab col dd k0 k1 k2 k3 k5 "ValueError.__new__")) (he : h.get? e = some (HandSPX.excO C t0)) (hu : h.get? u = some (kxs_mw "ValueError.__init__" e)) (hrest : rest.length ≤ sizeLine)
    (hq : ∀ h' t1, (∀ b o, b ≠ e → h.get? b = some o → h'.get? b = some o) → h'.get? e = some (HandSPX.excO C t1) → Q .none ⟨h', g, d, t, os⟩) :
    wpAny (model prog w) A (call (.ref u) rest) Q E ⟨h, g, d, t, os⟩ := by
  refine wpAny_call (codeAny_of_tree ?_)
  show wpAny _ A.in1 (callAny (.ref u) ⟨rest, []⟩) _ _ _
  simp only [callAny]
  refine wpAny_bind (wpAny_load hu ?_)
  simp only [kxs_mw, show (Value.type "method-wrapper" == Value.type "method" || Value.type "method-wrapper" == Value.type "builtin_function_or_method" || Value.type "method-wrapper" == Value.type "method-wrapper") = true by decide, if_true]
  refine W.KFB.if_so (by decide) ?_
  refine wpAny_bind (PySem.ESX.check_bound F.excBase_ValueError hC he rfl ?_)
  refine wpAny_bind (wpAny_pure (wpAny_pure ?_))
  refine ⟨Code.quiet_builtin _ (by decide +kernel), codeAny_builtin F.excBase_ValueError.initEntry ?_⟩
  rw [Around.under_plainId F.excBase_ValueError.init.plain _]
  wp_walk
  refine hq _ h.objs.size (fun b o hb ho => ?_) ?_
  · rw [Heap.get?_update_other _ _ (Ne.symm hb)]
    exact Heap.get?_push_of_some _ ho
  · rw [Heap.get?_update_self _ (Heap.get?_push_of_some _ he) rfl]
    rfl
theorem sup_start {CX : CXT} {P : Program} {w : World} {K : Frag} {mg : Str → Option Value} {base : Heap} {A : Around} {outer : List Env} {s : Shared} {H : Hp} {E : XK} {qual : Str} {scope : Scope} {f cda cc D : Addr} {fl : Str} {e : Addr} {y : V} {u : Value} {h1 : Heap} {tk : Nat}
    (S : SupS scope fl) (hd : A.handled = none) (e0 : Env0 P w K mg base A outer s H) (hcell : ∃ (cl : Value) (cld : Option Addr) (csl : Array (Option Value)), K.lookup cc = some ⟨cl, cld, .cell (some (.ref D)), csl⟩) (ry : RelV y u) (hf : fl ≠ ("self" : Str))
    (hns : h1.Ns s.heap.objs.size (fun x => ([(("self" : Str), Value.ref e), (fl, u)] : List (Str × Value)).reverse.lookup x)) (kp : ∀ b o, s.heap.get? b = some o → h1.get? b = some o) :
    Inv (cxS CX P w K mg base ["self", fl] (ksEnv qual scope s.heap.objs.size f (.ref cda) cc) A outer s H E) [] [some (.ref e), some y] H { s with heap := h1, toks := tk } := by
  have noA : ∀ b : Addr, b ∉ (cxS CX P w K mg base ["self", fl] (ksEnv qual scope s.heap.objs.size f (.ref cda) cc) A outer s H E).ex := fun b z => absurd (show b ∈ ([] : List Addr) from z) (by simp)
  obtain ⟨cl, cld, csl, hc⟩ := hcell
  have hcb := e0.mod.kin _ _ hc
  have cells : ∀ x c, (ksEnv qual scope s.heap.objs.size f (.ref cda) cc).cells.lookup x = some c → x = ("__class__" : Str) ∧ c = cc := fun x c z => by
    have z : ([(("__class__" : Str), cc)] : List (Str × Addr)).lookup x = some c := z
    by_cases hx : x = ("__class__" : Str)
    · rw [hx] at z
      simp [List.lookup] at z
      exact ⟨hx, z.symm⟩
    · have e : (x == ("__class__" : Str)) = false := by simpa using hx
      simp [List.lookup, e] at z
  refine ⟨⟨e0.mod, S.kind, rfl, rfl, Nat.le_refl _, fun y z c h1 h2 => (cells _ _ h1).1.trans (cells _ _ h2).1.symm, fun x hx => ?_, fun x c z _ => absurd (show false = true from z) Bool.false_ne_true, fun _ => hd, Around.frames_deeper e0.frames, .inr ⟨rfl, rfl⟩, fun b z => absurd z (noA b), e0.bs, e0.bsz, fun b _ _ => noA b, fun b z => absurd z (noA b), e0.funs, e0.frf⟩,
    rfl, e0.bare, Un.kept kp, ⟨_, hns, fun i x v h1 h2 h3 => ?_⟩, fun x c h => ?_, e0.hok.fresh (Nat.le_refl _), fun x c h => ?_, fun p hp => absurd (show p ∈ ([] : List (Addr × Obj)) from hp) (by simp), e0.hok.kept kp, rfl⟩
  · have hx : scope.names.lookup x = some .cell ∨ scope.names.lookup x = some .free := hx
    rcases hx with hx | hx
    · exact absurd rfl (S.cell _ (PySem.mem_of_lookup hx))
    · have z : x = ("__class__" : Str) := S.free _ (PySem.mem_of_lookup hx) rfl
      refine ⟨cc, ?_⟩
      rw [z]
      show ([(("__class__" : Str), cc)] : List (Str × Addr)).lookup ("__class__" : Str) = some cc
      simp [List.lookup]
  · match i, h1, h2 with
    | 0, h1, h2 =>
      have h1 : some ("self" : Str) = some x := h1
      have h2 : some (some (V.ref e)) = some (some v) := h2
      cases h1
      cases h2
      refine ⟨.ref e, rfl, .inl ⟨S.self, ?_⟩⟩
      have ne : (("self" : Str) == fl) = false := by simpa using fun z : ("self" : Str) = fl => hf z.symm
      show ([(fl, u), (("self" : Str), Value.ref e)] : List (Str × Value)).lookup ("self" : Str) = _
      simp [List.lookup, ne]
    | 1, h1, h2 =>
      have h1 : some fl = some x := h1
      have h2 : some (some y) = some (some v) := h2
      cases h1
      cases h2
      refine ⟨u, ry, .inl ⟨S.fld, ?_⟩⟩
      show ([(fl, u), (("self" : Str), Value.ref e)] : List (Str × Value)).lookup fl = _
      simp [List.lookup]
    | i + 2, h1, h2 =>
      have h2 : ([] : List (Option V))[i]? = some (some v) := h2
      simp at h2
  · obtain ⟨_, rfl⟩ := cells _ _ h
    exact ⟨_, _, kp _ _ (e0.bs _ _ hcb).1, rfl⟩
  · obtain ⟨_, rfl⟩ := cells _ _ h
    exact (e0.bs _ _ hcb).2
theorem fn_super {CX : CXT} {P : Program} {w : World} {K : Frag} {mg : Str → Option Value} {base : Heap} {k : Nat} {f cda cc D : Addr} {fd : FuncData} {qual : Str} {params : Arguments} {scope : Scope} {fl msg : Str} {tk0 : Nat} {p0 p1 p2 p3 p4 p5 p6 p7 p8 p9 : Pos} {ar : Arg}
    (F : SupF P K mg D f fd qual params (initB fl msg tk0 p0 p1 p2 p3 p4 p5 p6 p7 p8 p9) scope cda cc) (S : SupS scope fl) (hp : (params.posonlyargs ++ params.args).head? = some ar) (ha : ar.arg = ("self" : Str)) (hno : findIn K (.ref D) fl = some none) (hf : fl ≠ ("self" : Str)) (hdb : (fl == ("__debug__" : Str)) = false) (hcd2 : (fl == ("__classdict__" : Str)) = false)
    (hev : ∀ L : Addr, ∃ pl : Sem Bool, eval (.Call (.Attribute (.Call (.Name "super" p0) [] [] p1) "__init__" p2) [.Constant (.str msg) tk0 p3] [] p4) (ksEnv qual scope L f (.ref cda) cc) = (do
      let ov ← attributeBase (.Call (.Name "super" p0) [] [] p1) "__init__" (ksEnv qual scope L f (.ref cda) cc) (eval (.Call (.Name "super" p0) [] [] p1) (ksEnv qual scope L f (.ref cda) cc))
      standAt p2.atName
      let (g, first) ← holding [ov] (getMethod ov "__init__" pl)
      callWith p4 g first (backTo p4 (starEach [.Constant (.str msg) tk0 p3] (ksEnv qual scope L f (.ref cda) cc))) []))
    (hsw : ∀ L : Addr, swapsWith (.Name fl p8) (some (.Attribute (.Name "self" p6) fl p7)) p9.line (ksEnv qual scope L f (.ref cda) cc) = pure false) :
    FnOk P w K mg base CX (k + 1) f fd ["self", fl] (spInit D fl) := by
  obtain ⟨oc, dV, kV, doc, pm, ct, od, an, osl, rfl, lk⟩ := F.ex
  refine ⟨fun vs H Q E h => ?_, fun A outer s H args us vs Q E hr e0 hb r hsp => ?_⟩
  · obtain ⟨e, y, rfl, _⟩ := h
    rfl
  obtain ⟨e, y, rfl, he, hq⟩ := hsp
  cases r with
  | @cons _ ue _ us re r =>
  cases r with
  | @cons _ u _ us ry r =>
  cases r
  obtain rfl : ue = Value.ref e := re
  have KX : K.In s.heap := e0.mod.kin.keeps fun b o q => (e0.bs b o q).1
  have lim : s.heap.NoLimit := e0.mod.nolimit.keeps fun b o q => (e0.bs b o q).1
  refine ks_codeAny_call_defAt (body := initB fl msg tk0 p0 p1 p2 p3 p4 p5 p6 p7 p8 p9) (binds := [(("self" : Str), Value.ref e), (fl, u)]) hr.depth (KX _ _ lk) rfl lim (codeRec_of KX F.hcd) rfl hb S.cell (fun x hx => ?_) (fun h1 hns kp => ?_) S.co S.gen S.kind
  · rcases List.mem_cons.mp hx with rfl | hx
    · exact S.self
    · rcases List.mem_cons.mp hx with rfl | hx
      · exact S.fld
      · cases hx
  have I := sup_start (CX := CX) (w := w) (qual := qual) (f := f) (cda := cda) (tk := s.toks + 2) (E := E) S hr.hd e0 F.cell ry hf hns kp
  obtain ⟨X, hX⟩ : ∃ X, X = cxS CX P w K mg base ["self", fl] (ksEnv qual scope s.heap.objs.size f (.ref cda) cc) A outer s H E := ⟨_, rfl⟩
  rw [← hX] at I
  obtain ⟨cd, hcd, hal⟩ := F.cls
  obtain ⟨ccl, cdd, ccs, vs, file, tf, hcode, hvs, hfile⟩ := F.rec_
  obtain ⟨cl, cld, csl, hcell⟩ := F.cell
  have XK : X.K = K := by rw [hX]; rfl
  have KI : ∀ {H' : Hp} {s' : Shared} {σ : L2.St}, Inv X [] σ H' s' → K.In s'.heap := fun {H' s' σ} J => by
    have := J.kIn
    rw [XK] at this
    exact this
  -- super()
  obtain ⟨pl, hev⟩ := hev s.heap.objs.size
  have qt : interactive (ksEnv qual scope s.heap.objs.size f (.ref cda) cc) = false := by
    have q := I.quiet
    rw [hX] at q
    exact q
  refine ks_wpAt_execs_cons (ks_wpAt_Expr_any (ks_wpAt_MethodCall ?_ hev) qt)
  have K1 := KI I
  refine ks_wpAt_super_base (env := ksEnv qual scope s.heap.objs.size f (.ref cda) cc) S.sup S.cls (by decide +kernel) rfl (K1 _ _ lk) rfl hp rfl (K1 _ _ hcode) rfl hvs hfile F.top ?_
  obtain ⟨mb, hb1, hb2⟩ := e0.mod.blt
  have bk : ∀ b o, base.get? b = some o → h1.get? b = some o := fun b o q => kp _ _ (e0.bs b o q).1
  obtain ⟨oD, hD1, hD2⟩ : ∃ oD, h1.get? D = some oD ∧ oD.data = .cls cd := by
    unfold clsIn at hcd
    split at hcd
    · rename_i c d cd' sl ho
      cases hcd
      exact ⟨_, K1 _ _ ho, rfl⟩
    · cases hcd
  have hok1 := I.hok
  obtain ⟨t1, hx1⟩ := exo_at hok1 he
  obtain ⟨sh, sg, sd, stk, so⟩ := s
  refine ks_loadName_global S.kind S.sup (Calls.loadGlobal_builtin (mg := mg) (e0.mod.glob.keeps bk) F.sup (hb1.keeps bk) ((hb2 _ (by decide +kernel)).trans PyProof.Rows.Boot.«super») ⟨rfl, ?_⟩)
  refine wpAny_loadName_free S.kind S.cls rfl ⟨_, K1 _ _ hcell, rfl⟩ ?_
  have lkS : ([(fl, u), (("self" : Str), Value.ref e)] : List (Str × Value)).lookup ("self" : Str) = some (.ref e) := by
    have ne : (("self" : Str) == fl) = false := by simpa using fun z : ("self" : Str) = fl => hf z.symm
    simp [List.lookup, ne]
  refine wpAny_loadName_local (v := .ref e) S.kind (by rw [ha]; exact S.self) hns (by rw [ha]; exact lkS) ?_
  refine ks_wpAny_isType_cls hD1 hD2 ⟨rfl, ?_⟩
  refine ks_wpAny_call_super hD1 hD2 hx1 rfl (fun c z => by cases z) (looks_mroIn K1 F.sub) (fun h2 eso k2 => ?_)
  have I2 : Inv X [] [some (.ref e), some y] H ⟨h2, sg, sd, stk + 2, so⟩ := I.call' (ch := []) rfl (Un.kept k2) (I.hok.kept k2) I.bare (fun b z => nomatch z)
  have K2 := KI I2
  obtain ⟨t2, hx2⟩ := exo_at I2.hok he
  have ia : InstAt h2 e { cls := .ref D, dict := none, data := .fields #[.ref t2, .none, .none, .none, .bool false, .none] } D none := ⟨hx2, rfl, rfl, trivial⟩
  -- its __init__
  refine kxs_getMethod kxs_ValueError eso (looks_opaque K2 F.opq) (l₀ := cd.mro) (fun A Q E s k q => wpAny_bind ((looks_clsIn K2 hcd) A _ E s k (wpAny_pure q))) rfl K2 hal (ia.type.andThen (looks_subIn K2 F.ve)) (ks_ne K2 ia hcd) (by decide +kernel) ?_
  have un : h2.objs.size ≠ e := fun z => by
    have q := Heap.lt_size hx2
    rw [← z] at q
    exact Nat.lt_irrefl _ q
  have I3 : Inv X [] [some (.ref e), some y] H ⟨h2.push (kxs_mw "ValueError.__init__" e), sg, sd, stk + 2 + 1, so⟩ := I2.call' (ch := []) rfl (Un.kept fun b o q => Heap.get?_push_of_some _ q) (I2.hok.kept fun b o q => Heap.get?_push_of_some _ q) I2.bare (fun b z => nomatch z)
  have hm : (h2.push (kxs_mw "ValueError.__init__" e)).get? h2.objs.size = some (kxs_mw "ValueError.__init__" e) := Heap.get?_push_at rfl rfl
  obtain ⟨t3, hx3⟩ := exo_at I3.hok he
  refine kxs_callWith (i := "ValueError.__init__") (x := e) rfl (Calls.evalArgs_plain (Calls.spliced_cons (Calls.Constant_str (k := tk0) (pos := p3) (Calls.spliced_nil ⟨hm, ?_⟩))))
  obtain ⟨nm, q, N, bs, bm, sn, sub, ab, col, dd, k0, k1, k2', k3, k5, hC, hbm⟩ := F.oex.cls
  refine run_mw ((KI I3) _ _ hC) hx3 hm (by show 1 ≤ sizeLine; rw [sizeLine_eq]; decide) (fun h4 t4 k4 hx4 => ?_)
  have J4 : Inv X [] [some (.ref e), some y] (upd H e (exo e D none)) ⟨h4, sg, sd, stk + 2 + 1 + 1, so⟩ := (I3.tok (stk + 2 + 1 + 1)).write (t' := stk + 2 + 1 + 1) (x := e) (e := e) (o := exo e D none) (by rw [he]; exact True.intro) (.inl rfl) k4 ⟨_, hx4⟩ (exo_ok hx4)
  have eu : upd H e (exo e D none) = H := by
    funext b
    by_cases hb : b = e
    · rw [hb, upd_same, he]
    · rw [upd_ne hb]
  rw [eu] at J4
  -- self.f = f
  have TX : OexC X.K D := by rw [XK]; exact F.oex
  have hnX : findIn X.K (.ref D) fl = some none := by rw [XK]; exact hno
  have eE : X.env = ksEnv qual scope sh.objs.size f (.ref cda) cc := by rw [hX]; rfl
  have po : PE X (.Name "self" p6) (tVar 0) := pe_var (by rw [hX]; rfl) (by rw [eE]; exact .inl S.self) (by decide +kernel) (by decide +kernel)
  have pe : PE X (.Name fl p8) (tVar 1) := pe_var (by rw [hX]; rfl) (by rw [eE]; exact .inl S.fld) hdb hcd2
  have h2 : tOst X.K fl (tVar 0) (tVar 1) { nx := fun _ H' => Q .non H', rt := Q } [some (.ref e), some y] H := ⟨y, rfl, .ref e, rfl, e, D, rfl, TX, hnX, .inl ⟨he, fun dx n ne => hq dx n ne⟩⟩
  have st := (ps_ost (f := fl) (p' := p7) (pos := p9) po pe (by rw [eE]; exact hsw _)).run [] ⟨h4, sg, sd, stk + 2 + 1 + 1, so⟩ [some (.ref e), some y] H _ J4 h2
  subst hX
  refine ks_wpAt_execs_cons (wpAt_of_wpAny (wpAny_mono st (fun flw s' hs => ?_) fun e s' hs => hs))
  cases flw with
  | next =>
    obtain ⟨σ', H', J, q⟩ := hs
    refine wpAt_of_wpAny (wpAny_pure ?_)
    exact ⟨.non, H', J.os, J.bare, J.base, J.hok, rfl, q⟩
  | ret u =>
    obtain ⟨v, σ', H', J, rv, q⟩ := hs
    exact ⟨v, H', J.os, J.bare, J.base, J.hok, rv, q⟩
  | brk =>
    obtain ⟨_, _, _, q⟩ := hs
    exact False.elim q
  | cont =>
    obtain ⟨_, _, _, q⟩ := hs
    exact False.elim q
end FL
set_option Elab.async false
set_option linter.all false
set_option maxRecDepth 100000
set_option maxHeartbeats 2000000
namespace FL
open PySem PySem.Spec PyProof.Rows L2
def sRaiseP (c : Nat) (a : FE) : FSt := fun δ h => thenS δ (a δ h) fun d h => .err c (some d) δ h
structure ErP (P : Program) (w : World) (K : PySem.W.Frag) (mg : Str → Option Value) (base : Heap) (g : Gc) (k : Nat) (c : Nat) (x : Str) : Prop where
  ex : ∃ C fI fd, g.cs[c]? = some C ∧ mg x = some (.ref C) ∧ OexC K C ∧ PySem.W.findIn K (.ref C) "__init__" = some (some (.ref fI)) ∧ PySem.W.typeIn K (.ref fI) = some (.type "function") ∧
    FnOk P w K mg base (L2.CX P w) k fI fd ["self", "place"] (spInit C "place") ∧ Binds K fd ["self", "place"] []
theorem passF {P : Program} {w : World} {X : Cx} : Passes (L2.CX P w) X (fun _ _ _ => False) := fun pins σ H s er s' I h => by
  obtain ⟨_, _, _, _, _, _, _, _, _, _, _, _, z⟩ := h
  exact z.elim
section
variable {X : Cx} {g : Gc} {W : WX} {a : Expr} {fa : FE}
theorem fs_raiseP {c k : Nat} {x : Str} {p pos pos2 : Pos} (er : ErP X.prog X.w X.K X.mg X.base g k c x) (hc : X.calm = true) (tk : Takes X W) (hr : Room (k + 1) X.A) (ha : PE X a (rd X.K g W fa)) (hg : Gl X x := by rfl) (hdb : (x == ("__debug__" : Str)) = false := by decide)
    (he : starEach [a] X.env = (false, eval a X.env) :: starEach [] X.env := by rfl) (hpl : (backTo pos (starEach [] X.env)).any (·.1) = false := by rfl) :
    PS X (.Raise (some (.Call (.Name x p) [a] [] pos)) none pos2) (rs X.K g W (sRaiseP c fa)) := by
  obtain ⟨C, fI, fd, h1, h2, T, h3, h4, F, hb⟩ := er.ex
  have pa : PA X [a] (FL.ra X.K g W (aCons fa aNil)) := fa_cons ha fa_nil he
  refine ps_weak (ps_raise hc tk (pmk_oex T h3 h4 F hr hb .nil passF hg h2 pa hdb he hpl)) ?_
  rintro D σ H ⟨δ, m, h, r, s, q⟩
  have q : GoodS X.K g W m h.length H D (thenS δ (fa δ h) fun d h => .err c (some d) δ h) := q
  show FL.ra X.K g W (aCons fa aNil) σ H _
  refine ⟨δ, m, h, r, s, ?_⟩
  show GoodA X.K g _ m h.length H _ ((fa δ h).bind fun x h => .ok [x] h)
  cases ea : fa δ h with
  | bad => rw [ea] at q; exact q.elim
  | err c' p' h' =>
    rw [ea] at q
    have q : GoodS X.K g W m h.length H D (.err c' p' δ h') := q
    exact fun m' H' cls dd e s' rx => q m' H' σ cls dd e s' (e.rs r) rx
  | ok d h' =>
    rw [ea] at q
    have q : GoodS X.K g W m h.length H D (.err c (some d) δ h') := q
    intro m' H' e s' vs rv
    cases rv with
    | @cons _ v _ vs r1 rv =>
      cases rv
      refine ⟨by simp, fun a0 ha0 => ⟨a0, v, rfl, upd_same, fun dx hdx hne => ?_⟩⟩
      have hd : H' dx = none := by rw [upd_ne hne] at hdx; exact hdx
      refine ⟨rfl, dx, [(("place" : Str), v)], upd_same, by rw [upd_ne hne, upd_same], hd, ?_⟩
      have eH : upd (del (upd (upd (upd H' a0 (exo a0 C none)) dx (exd dx [(("place" : Str), v)])) a0 (exo a0 C (some dx))) a0) dx (.xd [(("place" : Str), v)]) = upd H' dx (.xd [(("place" : Str), v)]) := by
        funext b
        by_cases hb : b = dx
        · rw [hb, upd_same, upd_same]
        · rw [upd_ne hb, upd_ne hb]
          by_cases hb2 : b = a0
          · rw [hb2, del_same, ha0]
          · rw [del_ne hb2, upd_ne hb2, upd_ne hb, upd_ne hb2]
      rw [eH]
      obtain ⟨e1, s1⟩ := s'.tup (o := .xd [(("place" : Str), v)]) hd
      exact q m' _ σ (.ref C) (some dx) (e.trans e1) s1 ((e.trans e1).rs r) ⟨C, h1, rfl, fun d' z => ⟨dx, v, rfl, upd_same, by cases z; exact e1.rd r1⟩, fun z => nomatch z⟩
end
end FL
set_option Elab.async false
set_option linter.all false
set_option maxRecDepth 100000
set_option maxHeartbeats 4000000
namespace FL
open PySem PySem.Spec PyProof.Rows L2 PySem.W PySem.Calls
open PySem.Builtin PySem.Builtin.ObjectAttr PySem.Builtin.Getset_descriptor
section
variable {prog : Program} {w : World} {A : Around} {E : Value → Shared → Prop} {s : Shared} {K : Frag} {x D : Addr} {ox : Obj}
structure TyAt (h : Heap) (x : Addr) (ox : Obj) (C : Addr) : Prop where
  at_ : h.get? x = some ox
  cls : ox.cls = .ref C
theorem TyAt.type {M : Model} {h : Heap} {x : Addr} {ox : Obj} {C : Addr} (I : TyAt h x ox C) : Looks M h (typeOf (.ref x)) (.ref C) := I.cls ▸ (Looks.ld I.at_).andThen .now
theorem find_data {M : Model} {h : Heap} {x C : Addr} {name : Str} {a g : Value} (X : K.In h) (ha : findIn K (.ref C) name = some (some a)) (hg : specialIn K a "__get__" = some (some g)) (ht : takesIn K a = some true) : Looks M h (find (.ref x) (.ref C) name) (.bind g a) := by
  refine (looks_findIn (M := M) X ha).andThen (Looks.andThen (a := some g) (show Looks M h (getOf (some a)) (some g) from looks_specialIn X hg) ?_)
  exact (show Looks M h (dataDescriptor? (some a) (some g)) (some (g, a)) from (looks_takesIn (M := M) X ht).andThen .now).andThen (Looks.tag .now)
theorem class_got {C : Addr} {R : Result → Shared → Prop} {tp : Value} (X : K.In s.heap) (I : TyAt s.heap x ox C) (hm : mroIn K C (.type "object") = some true)
    (h : R (.ok (.ret (.ref C))) s) : codeAny (model prog w) A (.call (.builtin "getset_descriptor.__get__") ⟨[.builtin "object.__class__", .ref x, tp], []⟩) R s := by
  obtain ⟨h1, g1, d1, t1, o1⟩ := s
  have M0 := I.type (M := model prog w)
  have M1 := looks_mroIn (M := model prog w) X hm
  refine codeAny_call_builtin KF.slot_gs.plain KF.entry_gs (KF.slot_gs.check _ _ _ _ _ _ _ _ KF.type_class (KF.args_gs _ _ _) ?_)
  unfold Builtin.«getset_descriptor.__get__»
  unfold descrGet
  rw [dga_obj]
  refine wpAny_bind (wpAny_pure ?_)
  unfold descrGetter descrCheckInstance
  unfold descrNameAndClass isInstance
  simp only [KF.owner_class]
  repeat lk
  refine ⟨Code.quiet_builtin _ (by decide +kernel), codeAny_builtin KF.entry_class ?_⟩
  unfold Builtin.«object.__class__»
  unfold shownTypeOf
  repeat lk
  exact h
theorem class_of_exc {Q : Option Value → Shared → Prop} (C : ExcC K D) (X : K.In s.heap) (I : TyAt s.heap x ox D) (h : Q (some (.ref D)) { s with toks := s.toks + 1 }) : wpAny (model prog w) A (getAttr? (.ref x) "__class__") Q E s := by
  obtain ⟨hh, gg, dd, tt, oo⟩ := s
  have T0 := I.type (M := model prog w)
  have T3 := find_data (M := model prog w) (x := x) X C.ha C.hn C.ht
  have ne : (Value.builtin "BaseException.__getattribute__" == Value.builtin "object.__getattribute__") = false := by decide +kernel
  have is : Looks (model prog w) hh (isInstance (.ref x) (.type "BaseException")) true := T0.andThen (looks_subIn X C.hs)
  unfold getAttr? getAttrBy?
  unfold getAttrBy
  refine wpAny_bind (wpAny_mkText (wpAny_bind (wpAny_attempt (wpAny_holding (wpAny_bind (T0.at (wpAny_bind ((looks_findIn X C.hg).at ?_))))))))
  show wpAny _ _ (if (onTheHeap (Value.ref D) && Value.builtin "BaseException.__getattribute__" == Value.builtin "object.__getattribute__") = true then _ else _) _ _ _
  rw [if_neg (by rw [ne, Bool.and_false]; exact Bool.false_ne_true)]
  unfold getAttrByItsOwn
  unfold hookBefore
  refine wpAny_bind ?_
  rw [if_pos (show onTheHeap (Value.ref D) = true from rfl)]
  refine (looks_findIn X C.hk).at (wpAny_bind (wpAny_attempt (wpAny_holding ?_)))
  unfold callGetattribute
  rw [if_neg (show ¬ (false && onTheHeap (Value.builtin "BaseException.__getattribute__")) = true from Bool.false_ne_true)]
  unfold boundAndCalled
  rw [PySem.F.excAttr_ValueError.ga.bind (.ref x)]
  refine wpAny_bind (wpAny_pure (wpAny_call (codeAny_call_builtin PySem.F.excAttr_ValueError.ga.plain PySem.F.entry_bexc_ga ?_)))
  refine @check_slot (model prog w) _ _ ⟨hh, gg, dd, tt + 1, oo⟩ "BaseException.__getattribute__" "BaseException" "__getattribute__" (.ref x) [.str "__class__" tt] [] _ (by decide +kernel) (by decide +kernel) is (PySem.F.args_bexc_ga (.ref x) (.str "__class__" tt)) ?_
  unfold Builtin.«object.__getattribute__»
  refine wpAny_bind (wpAny_of_eq (a := ((Value.ref x : Value), [Value.str "__class__" tt])) (by first | rfl | (simp only [slotArgs]; rfl)) ?_)
  refine wpAny_bind (wpAny_pure (wpAny_bind (T0.at (wpAny_bind (T3.at ?_)))))
  show wpAny _ _ (holding [Value.builtin "object.__class__"] (call (.builtin "getset_descriptor.__get__") [.builtin "object.__class__", .ref x, .ref D]) >>= ret) _ _ _
  refine wpAny_bind (wpAny_holding (wpAny_call (class_got (s := ⟨hh, gg, dd, tt + 1, oo⟩) (ox := ox) X I C.hm ?_)))
  refine wpAny_pure ?_
  show wpAny _ _ (handedOut (.ref D)) _ _ _
  rw [handedOut_of (v := .ref D) rfl]
  first
    | exact wpAny_pure (wpAny_pure h)
    | exact wpAny_pure h
    | exact wpAny_pure (wpAny_bind (wpAny_pure (wpAny_pure h)))
theorem kit_exc (C : ExcC K D) : KitX K (.ref x) (.ref D) (fun h => TyAt h x ox D) where
  ty := fun _ _ _ I => I.type
  it := fun _ _ X _ => by
    obtain ⟨cdD, hcD, _⟩ := any_some C.hd
    unfold clsIn at hcD
    split at hcD
    · rename_i ho
      intro A' Q' E' s' k q
      unfold isType loadHead
      exact wpAny_bind (wpAny_loadPart (k _ _ (X _ _ ho)) (wpAny_pure q))
    · cases hcD
  ne := fun h tp dd its n sl X htp => by
    obtain ⟨cdD, hcD, _⟩ := any_some C.hd
    refine Bool.eq_false_iff.mpr fun q => ?_
    have e : D = tp := Value.ref.inj (beq_iff_eq.mp q)
    subst e
    unfold clsIn at hcD
    split at hcD
    · rename_i ho
      have z := (X _ _ ho).symm.trans htp
      cases z
    · cases hcD
  ca := fun X I k => class_of_exc C X I k
end
theorem call_isX {X : Cx} {a D : Addr} {oe : Obj} {d : Option Addr} {pn : List (Addr × Obj)} (C : ExcC X.K D) (hz : Zc (.ref D) d oe) : CallR (X.suite a ((a, oe) :: pn)) (.builtin "isinstance") (rIsE X.K D a) := by
  rintro pins s σ H xs us Q I r ⟨c, cv, b, rfl, hcv, e, q⟩
  cases r with
  | cons rx rr =>
  cases rr with
  | cons rt rr =>
  cases rr
  cases rx
  have ec := hcv _ rt
  subst ec
  have J : TyAt s.heap a oe D := ⟨(I.pin (a, oe) (List.mem_append.mpr (.inl List.mem_cons_self))).1, hz.1⟩
  exact kia_one (kit_exc C) I.kIn J e (fun z => nomatch z) fun tk => ⟨.bl b, H, I.kept (t' := tk) fun _ _ z => z, rfl, q⟩
def eIsE (i : Nat) (a : Addr) (b : Bool) : FE := fun δ h => match δ[i]? with
  | some (some (.adr a')) => if a' = a then .ok (.bl b) h else .bad
  | _ => .bad
section
variable {X : Cx} {g : Gc} {W : WX} {a D : Addr} {oe : Obj} {d : Option Addr} {pn : List (Addr × Obj)} {i : Nat} {n y : Str} {p p1 p2 pos : Pos} {b : Bool} {c : V} {cv : Value}
theorem fe_isE (C : ExcC X.K D) (hz : Zc (.ref D) d oe) (he : PE (X.suite a ((a, oe) :: pn)) (.Name n p1) (tVar i)) (hc : PE (X.suite a ((a, oe) :: pn)) (.Name y p2) (tC c)) (hcv : ∀ u, RelV c u → u = cv) (hk : kitOne X.K (.ref D) cv = some b) (hm : X.mg "isinstance" = none) (hg : Gl (X.suite a ((a, oe) :: pn)) "isinstance" := by rfl)
    (h1 : starEach [.Name n p1, .Name y p2] (X.suite a ((a, oe) :: pn)).env = (false, eval (.Name n p1) (X.suite a ((a, oe) :: pn)).env) :: starEach [.Name y p2] (X.suite a ((a, oe) :: pn)).env := by rfl) (h2 : starEach [.Name y p2] (X.suite a ((a, oe) :: pn)).env = (false, eval (.Name y p2) (X.suite a ((a, oe) :: pn)).env) :: starEach [] (X.suite a ((a, oe) :: pn)).env := by rfl) :
    PE (X.suite a ((a, oe) :: pn)) (.Call (.Name "isinstance" p) [.Name n p1, .Name y p2] [] pos) (rd X.K g W (eIsE i a b)) := by
  refine pe_weak (pe_callB (call_isX C hz) hg hm (by decide +kernel) (pa_cons he (pa_cons hc pa_nil h2) h1) (by decide) (by decide) h1 (by rfl)) ?_
  rintro σ H Q ⟨δ, m, h, r, s, q⟩
  unfold eIsE at q
  split at q
  · rename_i a' e
    split at q
    · rename_i ea
      subst ea
      obtain ⟨v, hv, rv⟩ := r.2 i _ e
      cases rv
      exact ⟨.ref a', hv, c, cv, b, rfl, hcv, hk, q m H Ext.refl s _ (.bl b)⟩
    · exact q.elim
  · exact q.elim
end
end FL
set_option Elab.async false
set_option linter.all false
set_option maxRecDepth 100000
set_option maxHeartbeats 2000000
namespace FL
open PySem PySem.Spec PyProof.Rows L2
noncomputable def anyR (F : Addr → OutS) : OutS := open Classical in if h : ∃ (d : D) (h : VH), ∀ a, F a = .ret d h then .ret h.choose h.choose_spec.choose else .bad
theorem anyR_eq {F : Addr → OutS} {d : D} {h : VH} (e : ∀ a, F a = .ret d h) : anyR F = .ret d h := by
  unfold anyR
  have x : ∃ (d : D) (h : VH), ∀ a, F a = .ret d h := ⟨d, h, e⟩
  rw [dif_pos x]
  exact (x.choose_spec.choose_spec 0).symm.trans (e 0)
theorem anyR_at {F : Addr → OutS} (n : anyR F ≠ .bad) : ∃ d h, anyR F = .ret d h ∧ ∀ a, F a = .ret d h := by
  unfold anyR at *
  by_cases x : ∃ (d : D) (h : VH), ∀ a, F a = .ret d h
  · rw [dif_pos x] at *
    exact ⟨_, _, rfl, x.choose_spec.choose_spec⟩
  · rw [dif_neg x] at n
    exact absurd rfl n
theorem tryOk_as {Z : Cx} {g : Gc} {W : WX} {x n : Str} {i : Nat} {S : Nat → Addr → FSt} {b₀ : Stmt} {suite : List Stmt} {np pos' : Pos} {CT : Addr} (hs : Z.stack = Z.env :: Z.outer) (hf : Z.env.frame = some Z.env.locals) (tk : Takes Z W) (hN : Z.N.Nodup) (hi : Z.N[i]? = some n) (hln : Z.env.kindOf n = some .local) (hc : Names Z x (.ref CT))
    (hsub : ∀ (c : Nat) (C : Addr), g.cs[c]? = some C → PySem.W.exmOne Z.K (.ref C) (.ref CT) = some true)
    (hsu : ∀ (c : Nat) (C a : Addr) (oe : Obj) (d : Option Addr) (pn : List (Addr × Obj)), g.cs[c]? = some C → Zc (.ref C) d oe → PSs (Z.suite a ((a, oe) :: pn)) (b₀ :: suite) (rs Z.K g W0 (S c a))) :
    TryOk Z g W [.ExceptHandler (some (.Name x np)) (some n) (b₀ :: suite) pos'] (fun c _ δ h => anyR fun a => S c a (δ.set i (some (.adr a))) h) := by
  refine ⟨fun body p8 tb hb => ⟨fun D => wAs Z.K (.ref CT) i (fun a cls _ D σ H => ∃ (c : Nat) (C : Addr), g.cs[c]? = some C ∧ cls = .ref C ∧ rs Z.K g W0 (S c a) D σ H) W D, ps_try_as (tb := tb) hs hf hN hi hln hc tk (fun W pn xe tk _ => hb W pn xe tk) (fun a oe cls d pn hz _ => ⟨fun pins s σ H D I ⟨c, C, h1, e, h⟩ => ?_⟩), fun D c p δ h m H σ cls dd r s rx q => ?_⟩⟩
  · subst e
    exact (hsu c C a oe d pn h1 hz).run pins s σ H D I h
  · obtain ⟨C, e1, e2, _, _⟩ := rx
    subst e2
    obtain ⟨d, h', er, ea⟩ := anyR_at (F := fun a => S c a (δ.set i (some (.adr a))) h) (fun z => by rw [z] at q; exact q)
    rw [er] at q
    refine ⟨true, hsub c C e1, fun _ a _ => ⟨c, C, e1, rfl, δ.set i (some (.adr a)), m, h, ?_, s, ?_⟩, fun z => by cases z⟩
    · exact r.set i (.adr a)
    · have ea : S c a (δ.set i (some (.adr a))) h = .ret d h' := ea a
      rw [ea]
      exact q
end FL
set_option Elab.async false
set_option linter.all false
set_option maxRecDepth 100000
set_option maxHeartbeats 2000000
namespace FL
open PySem PySem.Spec PyProof.Rows L2
structure IsX (K : PySem.W.Frag) (mg : Str → Option Value) (g : Gc) (sub : Nat → Nat → Bool) (k : Nat) (x : Str) : Prop where
  ex : ∃ Ck, mg x = some (.ref Ck) ∧ ∀ (c : Nat) (C : Addr), g.cs[c]? = some C → PySem.W.kitOne K (.ref C) (.ref Ck) = some (sub c k)
structure IsT (K : PySem.W.Frag) (mg : Str → Option Value) (g : Gc) (x : Str) (t : String) : Prop where
  no : mg x = none
  bt : bootBuiltins x = some (.type t)
  ex : ∀ (c : Nat) (C : Addr), g.cs[c]? = some C → PySem.W.kitOne K (.ref C) (.type t) = some true
def ExcAll (K : PySem.W.Frag) (g : Gc) : Prop := ∀ (c : Nat) (C : Addr), g.cs[c]? = some C → ExcC K C
section
variable {X : Cx} {g : Gc} {W : WX} {sub : Nat → Nat → Bool} {a C : Addr} {oe : Obj} {d : Option Addr} {pn : List (Addr × Obj)} {c k : Nat} {n y : Str} {p p1 p2 pos : Pos} {t : String}
theorem fe_isX (i : Nat) (EA : ExcAll X.K g) (IX : IsX X.K X.mg g sub k y) (hC : g.cs[c]? = some C) (hz : Zc (.ref C) d oe) (hm : X.mg "isinstance" = none) (hi : X.N[i]? = some n := by rfl) (hv : Vis X.env.scope n := by first | exact Or.inl rfl | exact Or.inr (Or.inl rfl) | exact Or.inr (Or.inr rfl)) (hd : (n == ("__debug__" : Str)) = false := by decide) (hcd : (n == ("__classdict__" : Str)) = false := by decide)
    (hgy : Gl (X.suite a ((a, oe) :: pn)) y := by rfl) (hyd : (y == ("__debug__" : Str)) = false := by decide) (hg : Gl (X.suite a ((a, oe) :: pn)) "isinstance" := by rfl)
    (h1 : starEach [.Name n p1, .Name y p2] (X.suite a ((a, oe) :: pn)).env = (false, eval (.Name n p1) (X.suite a ((a, oe) :: pn)).env) :: starEach [.Name y p2] (X.suite a ((a, oe) :: pn)).env := by rfl) (h2 : starEach [.Name y p2] (X.suite a ((a, oe) :: pn)).env = (false, eval (.Name y p2) (X.suite a ((a, oe) :: pn)).env) :: starEach [] (X.suite a ((a, oe) :: pn)).env := by rfl) :
    PE (X.suite a ((a, oe) :: pn)) (.Call (.Name "isinstance" p) [.Name n p1, .Name y p2] [] pos) (rd X.K g W (eIsE i a (sub c k))) := by
  obtain ⟨Ck, m1, m2⟩ := IX.ex
  exact fe_isE (c := .ref Ck) (cv := .ref Ck) (EA c C hC) hz (pe_var (X := X.suite a ((a, oe) :: pn)) hi hv hd hcd) (pe_glob (X := X.suite a ((a, oe) :: pn)) (v := .ref Ck) hgy m1 rfl hyd) (fun u r => r) (m2 c C hC) hm hg h1 h2
theorem fe_isT (i : Nat) (EA : ExcAll X.K g) (IX : IsT X.K X.mg g y t) (hC : g.cs[c]? = some C) (hz : Zc (.ref C) d oe) (hm : X.mg "isinstance" = none) (hi : X.N[i]? = some n := by rfl) (hv : Vis X.env.scope n := by first | exact Or.inl rfl | exact Or.inr (Or.inl rfl) | exact Or.inr (Or.inr rfl)) (hd : (n == ("__debug__" : Str)) = false := by decide) (hcd : (n == ("__classdict__" : Str)) = false := by decide)
    (hgy : Gl (X.suite a ((a, oe) :: pn)) y := by rfl) (hyd : (y == ("__debug__" : Str)) = false := by decide) (hyn : y ≠ "__name__" := by decide) (hg : Gl (X.suite a ((a, oe) :: pn)) "isinstance" := by rfl)
    (h1 : starEach [.Name n p1, .Name y p2] (X.suite a ((a, oe) :: pn)).env = (false, eval (.Name n p1) (X.suite a ((a, oe) :: pn)).env) :: starEach [.Name y p2] (X.suite a ((a, oe) :: pn)).env := by rfl) (h2 : starEach [.Name y p2] (X.suite a ((a, oe) :: pn)).env = (false, eval (.Name y p2) (X.suite a ((a, oe) :: pn)).env) :: starEach [] (X.suite a ((a, oe) :: pn)).env := by rfl) :
    PE (X.suite a ((a, oe) :: pn)) (.Call (.Name "isinstance" p) [.Name n p1, .Name y p2] [] pos) (rd X.K g W (eIsE i a true)) :=
  fe_isE (c := .ty t) (cv := .type t) (EA c C hC) hz (pe_var (X := X.suite a ((a, oe) :: pn)) hi hv hd hcd) (pe_bltn (X := X.suite a ((a, oe) :: pn)) (v := .ty t) hgy IX.no IX.bt rfl hyn hyd) (fun u r => r) (IX.ex c C hC) hm hg h1 h2
end
end FL
set_option Elab.async false
set_option linter.all false
set_option maxRecDepth 100000
set_option maxHeartbeats 2000000
namespace FL
open PySem PySem.Spec PyProof.Rows L2
def sInt (i : Int) : List Nat := (Str.ofString (toString i)).cps.toList
def bStr : List D → VH → Option (D × VH)
  | [.int i], h => if i.natAbs.log2 < 1920 ∧ okS (sInt i) = true then some (.str (sInt i), h) else none
  | _, _ => none
theorem cr_str {X : Cx} {g : Gc} : CallR X (.type "str") (rB X.K g bStr) := callr_weak call_str_int (by
  rintro vs H Q ⟨m, h, xs, s, rs, q⟩
  unfold bStr at q
  split at q
  · obtain ⟨v, rfl, r1⟩ := rds1 rs
    cases r1
    split at q
    · rename_i c
      have e : (Str.ofString (toString ‹Int›)) = ⟨(sInt ‹Int›).toArray⟩ := by simp [sInt]
      exact ⟨_, rfl, c.1, by rw [e]; exact q m H _ Ext.refl s (.str c.2)⟩
    · exact q.elim
  · exact q.elim)
theorem bStr_eq {i : Int} {h : VH} (h1 : i.natAbs.log2 < 1920) (h2 : okS (sInt i) = true) : bStr [.int i] h = some (.str (sInt i), h) :=
  if_pos ⟨h1, h2⟩
end FL
set_option Elab.async false
set_option linter.all false
set_option maxRecDepth 100000
set_option maxHeartbeats 4000000
namespace FL
open PySem PySem.Spec PyProof.Rows L2 PySem.W
structure InitX (qual : Str) (params : Arguments) (body : List Stmt) (scope : Scope) : Prop where
  ex : ∃ (msg : Str) (tk0 : Nat) (p0 p1 p2 p3 p4 p5 p6 p7 p8 p9 : Pos), body = initB "place" msg tk0 p0 p1 p2 p3 p4 p5 p6 p7 p8 p9 ∧
    (∀ (L f : Addr) (cdv : Value) (cc : Addr), ∃ pl : Sem Bool, eval (.Call (.Attribute (.Call (.Name "super" p0) [] [] p1) "__init__" p2) [.Constant (.str msg) tk0 p3] [] p4) (ksEnv qual scope L f cdv cc) = (do
      let ov ← attributeBase (.Call (.Name "super" p0) [] [] p1) "__init__" (ksEnv qual scope L f cdv cc) (eval (.Call (.Name "super" p0) [] [] p1) (ksEnv qual scope L f cdv cc))
      standAt p2.atName
      let (g, first) ← holding [ov] (getMethod ov "__init__" pl)
      callWith p4 g first (backTo p4 (starEach [.Constant (.str msg) tk0 p3] (ksEnv qual scope L f cdv cc))) [])) ∧
    (∀ (L f : Addr) (cdv : Value) (cc : Addr), swapsWith (.Name "place" p8) (some (.Attribute (.Name "self" p6) "place" p7)) p9.line (ksEnv qual scope L f cdv cc) = pure false)
  S : SupS scope "place"
  hp : ∃ ar, (params.posonlyargs ++ params.args).head? = some ar ∧ ar.arg = ("self" : Str)
  hb : ∀ {K : Frag} (kV dc pm cdv ct : Value) (an : Option Addr) (cc : Addr), Binds K (ksFn "__init__" qual params body scope .none kV dc pm an cdv ct cc) ["self", "place"] []
theorem errp_mk {P : Program} {w : World} {K : Frag} {mg : Str → Option Value} {base : Heap} {g : Gc} {k c : Nat} {x qual : Str} {C N fI cda cc : Addr}
    {nm q file : Str} {bs bm : List Value} {sn : List Str} {sub : List Value} {ab : Bool} {col : Option Bool} {dd odI anI cdd cld : Option Addr} {m0 m1 m2 m3 m5 : Option Value} {ocI kV dc pm ct ccl cl : Value} {osl ccs csl : Array (Option Value)} {vs : Array Value} {tf : Tok}
    {params : Arguments} {body : List Stmt} {scope : Scope}
    (h0 : g.cs[c]? = some C) (m : mg x = some (.ref C))
    (xL : K.lookup C = some (excClassObj nm q C N bs bm true sn sub ab col dd m0 m1 m2 m3 m5 "ValueError.__new__")) (hbm : PySem.HandSPX.refsVE bm = true)
    (sa : findIn K (.ref C) "__setattr__" = some (some (.builtin "object.__setattr__"))) (eC : subIn K (.ref C) (.type "BaseException") = some true) (tC : typeIn K (.ref C) = some (.type "type")) (kC : keepIn K (.ref C) = true)
    (iC : findIn K (.ref C) "__init__" = some (some (.ref fI))) (tI : typeIn K (.ref fI) = some (.type "function"))
    (lI : K.lookup fI = some ⟨ocI, odI, .func (ksFn "__init__" qual params body scope .none kV dc pm anI (.ref cda) ct cc), osl⟩)
    (IX : InitX qual params body scope)
    (hcd : codeIn K (.ref cda) qual = true)
    (lcd : K.lookup cda = some ⟨ccl, cdd, .fields vs, ccs⟩) (hfl : vs[2]? = some (.str file tf)) (hfile : ((P.main.file : Str) == file) = true)
    (lcc : K.lookup cc = some ⟨cl, cld, .cell (some (.ref C)), csl⟩)
    (al : alongIn K "__init__" bm = some (some (.builtin "ValueError.__init__")))
    (sub_ : mroIn K C (.ref C) = some true) (sup : mg "super" = none) (top : (P.main.scope.names.lookup ("super" : Str)).isSome = false)
    (opq : nsIn K cStatics "thirdparty.any" = some none) (ve : subIn K (.ref C) (.type "ValueError") = some true) (noP : findIn K (.ref C) "place" = some none) :
    ErP P w K mg base g (k + 1) c x := by
  obtain ⟨⟨msg, tk0, p0, p1, p2, p3, p4, p5, p6, p7, p8, p9, hB, hev, hsw⟩, S, ⟨ar, hp, ha⟩, hb⟩ := IX
  subst hB
  have hcl : clsIn K C = some { name := nm, bases := bs, mro := .ref C :: bm, ns := N, qualname := q, hasDict := true, slotNames := sn, subclasses := sub, abstract := ab, collection := col, hasDel := false } := by
    unfold clsIn
    rw [xL] <;> rfl
  have O : OexC K C := ⟨⟨nm, q, N, bs, bm, sn, sub, ab, col, dd, m0, m1, m2, m3, m5, xL, hbm⟩, sa, eC, tC, kC⟩
  have F : SupF P K mg C fI (ksFn "__init__" qual params (initB "place" msg tk0 p0 p1 p2 p3 p4 p5 p6 p7 p8 p9) scope .none kV dc pm anI (.ref cda) ct cc) qual params (initB "place" msg tk0 p0 p1 p2 p3 p4 p5 p6 p7 p8 p9) scope cda cc := by
    refine ⟨⟨_, _, _, _, _, _, _, _, _, rfl, lI⟩, hcd, ⟨_, _, _, vs, file, tf, lcd, hfl, hfile⟩, ⟨_, _, _, lcc⟩, ⟨_, hcl, ?_⟩, sub_, sup, top, opq, ve, O⟩
    show alongIn K "__init__" (((Value.ref C :: bm).dropWhile (· != .ref C)).drop 1) = _
    rw [PySem.ESX.drop_own]
    exact al
  exact ⟨C, fI, _, h0, m, O, iC, tI, fn_super (CX := L2.CX P w) F S hp ha noP (by decide) (by decide) (by decide) (fun L => hev L _ _ _) (fun L => hsw L _ _ _), hb _ _ _ _ _ _ _⟩
theorem isx_mk {K : Frag} {mg : Str → Option Value} {g : Gc} {sub : Nat → Nat → Bool} {k : Nat} {x : Str} {Ck : Addr} (m : mg x = some (.ref Ck)) (h : ∀ (c : Nat) (C : Addr), g.cs[c]? = some C → kitOne K (.ref C) (.ref Ck) = some (sub c k)) : IsX K mg g sub k x := ⟨Ck, m, h⟩
end FL
set_option Elab.async false
set_option linter.all false
set_option maxRecDepth 100000
set_option maxHeartbeats 2000000
namespace FL
open PySem
theorem rounds_runB {C : Type} {N d : Nat} {body : C → FSt} (hN : d < N) (H : ∀ (δ : C → DS) (h : VH) (j : Nat) (s : Dc), (∀ c, (δ c).length = N) → (∀ c, (δ c)[d]? = some (some (.ref j))) → j < h.length → ∃ (δ' : C → DS) (h' : VH), (∀ c, body c (δ c) (h.set j (dO s)) = .nx (δ' c) h') ∧ (∀ c, (δ' c).length = N) ∧ ∃ s' g, h' = h.set j (dO s') ++ g) :
    ∀ (n : Nat) (k : Nat) (δ : C → DS) (h : VH), (∀ c, (δ c).length = N) → (∀ i, k ≤ i → i < k + n → ∃ s, h[i]? = some (dO s)) → ∃ (δ' : C → DS) (h' : VH), ∀ c, forT (gN d) (body c) (refsN k n) (δ c) h = .nx (δ' c) h'
  | 0, k, δ, h, _, _ => ⟨δ, h, fun _ => rfl⟩
  | n + 1, k, δ, h, hδ, hd => by
    have e : refsN k (n + 1) = D.ref k :: refsN (k + 1) n := by
      unfold refsN
      rw [List.range_succ_eq_map]
      simp [Function.comp_def, Nat.add_assoc, Nat.add_comm 1]
    obtain ⟨s, hs⟩ := hd k (Nat.le_refl _) (by omega)
    have hk := hp_lt hs
    have hset : h.set k (dO s) = h := by
      refine List.ext_getElem? fun i => ?_
      by_cases hi : k = i
      · subst hi
        rw [List.getElem?_set_self hk, hs]
      · rw [List.getElem?_set_ne hi]
    obtain ⟨δ1, h1, e1, hl, s', g, eh⟩ := H (fun c => (δ c).set d (some (.ref k))) h k s (fun c => by rw [List.length_set]; exact hδ c) (fun c => List.getElem?_set_self (by rw [hδ c]; exact hN)) hk
    rw [hset] at e1
    obtain ⟨δ2, h2, e2⟩ := rounds_runB hN H n (k + 1) δ1 h1 hl fun i h2 h3 => by
      obtain ⟨s2, hs2⟩ := hd i (by omega) (by omega)
      exact ⟨s2, by rw [eh]; exact hp_old (by rw [List.getElem?_set_ne (by omega)]; exact hs2)⟩
    refine ⟨δ2, h2, fun c => ?_⟩
    rw [e, forT_cons, ap_gN, tgS_some, e1 c, loopS_nx]
    exact e2 c
theorem rounds_forB {C : Type} {N d : Nat} {body : C → FSt} {m : Int} (hN : d < N) (H : ∀ (δ : C → DS) (h : VH) (j : Nat) (s : Dc), (∀ c, (δ c).length = N) → (∀ c, (δ c)[d]? = some (some (.ref j))) → j < h.length → ∃ (δ' : C → DS) (h' : VH), (∀ c, body c (δ c) (h.set j (dO s)) = .nx (δ' c) h') ∧ (∀ c, (δ' c).length = N) ∧ ∃ s' g, h' = h.set j (dO s') ++ g)
    {x : D} {h : VH} {δ : DS} {ns : List Int} (hx : lsOf x h = some (ns.map D.int)) (hl : ns.length ≤ 63) (h0 : δ[0]? = some (some x)) (hδ : δ.length = N) : ∃ (δ' : C → DS) (h' : VH), ∀ c, sFor (eF roundsS (aCons (eV 0) (aCons (eC (.int m)) aNil))) (gN d) (body c) δ h = .nx (δ' c) h' := by
  have hl' : ns.length ≤ 1000 := by omega
  have er : roundsS [x, .int m] h = .ok (.fls (refsN h.length (cellsN ns m).length)) (h ++ (cellsN ns m).map fun c => dO (dice0 c)) := by
    simp only [roundsS, hx, allI_ints, hl', if_true]
  obtain ⟨δ', h', e⟩ := rounds_runB hN H (cellsN ns m).length h.length (fun _ => δ) (h ++ (cellsN ns m).map fun c => dO (dice0 c)) (fun _ => hδ) (fun i h1 h2 => by
    obtain ⟨k, rfl⟩ := Nat.le.dest h1
    rw [hp_at, List.getElem?_map]
    have hk : k < (cellsN ns m).length := by omega
    exact ⟨_, by rw [List.getElem?_eq_getElem hk]; rfl⟩)
  refine ⟨δ', h', fun c => ?_⟩
  simp only [ap_sFor, ap_eF, ap_aCons, ap_eV, h0, vK_some, bind_ok, ap_eC, ap_aNil, er, thenS_ok, forX_fls, e]
end FL
set_option Elab.async false
set_option linter.all false
set_option maxRecDepth 100000
set_option maxHeartbeats 4000000
noncomputable section
namespace K22
open PySem PySem.Spec PyProof.Rows L2 FL
def top (i : Nat) : Stmt := PySem.Challenge.pw_tonguehall_k22_refusals_apart.main.body.getD i (.Pass ⟨0, 0, 0, 0⟩)
def sub : Nat → Nat → Bool := fun c k => decide (c = k)
def c_DIGITS : FL.D := .tup [.str [110, 117, 108], .str [117, 110], .str [100, 117], .str [116, 114, 105], .str [107, 97, 114], .str [112, 101, 110], .str [115, 101, 107], .str [115, 101, 116], .str [111, 107], .str [110, 111, 118]]
def c_TENS : FL.D := .tup [.tup [.str [109, 105, 108], .int 1000], .tup [.str [115, 97, 110, 116], .int 100], .tup [.str [100, 101, 107], .int 10]]
def c_MOST : FL.D := .int 999999
def c_VOWELS : FL.D := .str [97, 101, 105, 111, 117]
def c_OTHERS : FL.D := .str [98, 100, 102, 103, 107, 108, 109, 110, 112, 114, 115, 116, 118, 122]
def c_CASES : FL.D := .tup [.str [100, 111, 101, 114], .str [100, 111, 110, 101], .str [111, 119, 110, 101, 114], .str [112, 108, 97, 99, 101]]
def c_TIMES : FL.D := .tup [.str [110, 111, 119], .str [112, 97, 115, 116], .str [116, 111, 32, 99, 111, 109, 101]]
def c_PERSONS : FL.D := .tup [.str [117], .str [105, 115], .str [101], .str [117, 109, 111], .str [105, 116, 101], .str [101, 110]]
def c_WHO : FL.D := .tup [.str [109, 105], .str [116, 105], .str [108, 111], .str [108, 97]]
def c_SMALL : FL.D := .tup [.str [110, 101], .str [107, 117], .str [107, 101, 108]]
def c_ENDINGS : List (FL.D × FL.D) := [(.int 0, .tup [.str [111], .str [111, 109], .str [101, 115], .str [117, 108]]), (.int 1, .tup [.str [97], .str [97, 109], .str [105, 115], .str [117, 108]])]
def c_AHEAD : List (FL.D × FL.D) := [(.str [110, 111, 119], .str []), (.str [112, 97, 115, 116], .str [97, 114]), (.str [116, 111, 32, 99, 111, 109, 101], .str [101, 118])]
abbrev s_law_told : Stmt := top 67
def tellS (c : Nat) (a : Addr) : FSt := (sSeq (sAs (eFl (aCons (eIsE 1 a (sub c 0)) (aCons (eIsE 1 a (sub c 1)) (aCons (eIsE 1 a (sub c 2)) (aCons (eIsE 1 a (sub c 3)) aNil))))) (gN 2))
  (sRet (e2 oAdd (eV 2) (eFl (aCons (eIsE 1 a (sub c 4)) (aCons (eIsE 1 a (sub c 5)) (aCons (eIsE 1 a true) aNil)))))))
noncomputable def tellHd : Nat → Option FL.D → DS → VH → OutS := fun c _ δ h => anyR fun a => tellS c a (δ.set 1 (some (.adr a))) h
def tellFr : FSt := (sRet (eFl aNil))
theorem tell_mk {P : Program} {w : World} {K : PySem.W.Frag} {mg : Str → Option Value} {base : Heap} {g : Gc} {k : Nat} (n_isinstance : mg "isinstance" = none) (I_BadWord : IsX K mg g sub 0 "BadWord") (I_BadBook : IsX K mg g sub 1 "BadBook") (I_BadSentence : IsX K mg g sub 2 "BadSentence") (I_NoWay : IsX K mg g sub 3 "NoWay") (I_TooLarge : IsX K mg g sub 4 "TooLarge") (I_BadDeed : IsX K mg g sub 5 "BadDeed") (I_ValueError : IsT K mg g "ValueError" "ValueError") {CT : Addr} (EA : ExcAll K g) (hmT : mg "TongueFault" = some (.ref CT)) (hsT : ∀ (c : Nat) (C : Addr), g.cs[c]? = some C → PySem.W.exmOne K (.ref C) (.ref CT) = some true) (hsub : Subs K g sub) (h : ∃ f fd, L2.Fun K "_law_told" "_law_told" s_law_told f fd ∧ mg "_law_told" = some (.ref f) ∧ Binds K fd ["what"] []) : TellG P w K mg base g k "_law_told" "what" s_law_told ["what", "e", "some"] tellHd tellFr :=
  ⟨h, ⟨rfl, rfl, rfl, by decide +kernel, rfl, by decide +kernel, by decide +kernel⟩, ⟨_, _, _, _, _, _, rfl, fun fA cdv A outer s H E hr => have hN : (["what", "e", "some"] : List Str).Nodup := by decide +kernel
    ⟨tryOk_as rfl rfl tkF hN rfl rfl ⟨rfl, by decide, .inl hmT⟩ hsT (fun c C a oe d pn hC hz => (fss_cons (fs_set (i := 2) hN rfl (by first | exact .inl rfl | exact .inr rfl) (fe_fl (fa_cons (fe_isX 1 EA I_BadWord hC hz n_isinstance) (fa_cons (fe_isX 1 EA I_BadBook hC hz n_isinstance) (fa_cons (fe_isX 1 EA I_BadSentence hC hz n_isinstance) (fa_cons (fe_isX 1 EA I_NoWay hC hz n_isinstance) fa_nil))))))
  (fss_one (fs_ret (fe_op or_add (fe_var 2) (fe_fl (fa_cons (fe_isX 1 EA I_TooLarge hC hz n_isinstance) (fa_cons (fe_isX 1 EA I_BadDeed hC hz n_isinstance) (fa_cons (fe_isT 1 EA I_ValueError hC hz n_isinstance) fa_nil))))))))), (fss_one (fs_ret (fe_fl fa_nil)))⟩⟩, rfl, .inl rfl, by decide, by decide, by decide⟩
abbrev s_told : Stmt := top 13
def b_told_1 (F_told : List FL.D → VH → Out FL.D) : FSt :=
  (sSeq (sPar 4 0 (aCons (e2 oFdv (eV 0) (eV 3)) (aCons (e2 oMod (eV 0) (eV 3)) aNil)))
  (sSeq (sIf (tV (e2 cGt (eV 4) (eC (.int 1)))) (sEx (eM isL mAppend (eV 1) (aCons (eF F_told (aCons (eV 4) aNil)) aNil))) sNil)
  (sIf (tV (e2 cGt (eV 4) (eC (.int 0)))) (sEx (eM isL mAppend (eV 1) (aCons (eV 2) aNil))) sNil)))
def b_told (F_told : List FL.D → VH → Out FL.D) : FSt :=
  (sSeq (sIf (tOr (tNot (tV (eB bIsi (aCons (eV 0) (aCons (eC (.ty "int")) aNil))))) (tOr (tV (eB bIsi (aCons (eV 0) (aCons (eC (.ty "bool")) aNil)))) (tNot (tV (eCh cLe cLe (eC (.int 0)) (eV 0) (eC c_MOST)))))) (sRaise 0) sNil)
  (sSeq (sIf (tV (e2 cLt (eV 0) (eC (.int 10)))) (sRet (e2 oIx (eC c_DIGITS) (eV 0))) sNil)
  (sSeq (sAs (eLst aNil) (gN 1))
  (sSeq (sFor (eC c_TENS) (gT 2 (gCons (gN 2) (gCons (gN 3) gNil)))
  (b_told_1 F_told))
  (sSeq (sIf (tV (e2 cGt (eV 0) (eC (.int 0)))) (sEx (eM isL mAppend (eV 1) (aCons (e2 oIx (eC c_DIGITS) (eV 0)) aNil))) sNil)
  (sRet (eM isS mJoin (eC (.str [32])) (aCons (eV 1) aNil))))))))
theorem sc_told : FnScope ["number", "found", "word", "size", "many"] ["number"] (defScope s_told) := ⟨rfl, rfl, rfl, by decide +kernel, rfl, by decide +kernel, by decide +kernel⟩
theorem x_told {P : Program} {w : World} {K : PySem.W.Frag} {mg : Str → Option Value} {base : Heap} {g : Gc} {k : Nat} (n_isinstance : mg "isinstance" = none) (n_int : mg "int" = none) (n_bool : mg "bool" = none) (C_MOST : Cst K mg "MOST" c_MOST) (e_BadWord : Er K mg g 0 "BadWord") (C_DIGITS : Cst K mg "DIGITS" c_DIGITS) (C_TENS : Cst K mg "TENS" c_TENS) {F_told : List FL.D → VH → Out FL.D} (d_told : Df P w K mg base g k "told" F_told) {f : Addr} {fd : FuncData} (Fn : L2.Fun K "told" "told" s_told f fd) (hm : mg "told" = some (.ref f)) (hb : Binds K fd ["number"] []) :
    Df P w K mg base g (k + 1) "told" (runF 1 5 (b_told F_told)) := by
  refine Df.mkD Fn sc_told hm hb fun cdv A outer s H E hr => ?_
  have hN := sc_told.nd
  exact (fss_cons (fs_if (ft_w (fw_or (ft_not (ft_val (fe_B cr_isi n_isinstance (fa_cons (fe_var 0) (fa_cons (fe_ty n_int) fa_nil))))) (fw_or (ft_val (fe_B cr_isi n_isinstance (fa_cons (fe_var 0) (fa_cons (fe_ty n_bool) fa_nil)))) (fw_or1 (ft_not (ft_ch or_le or_le fe_int (fe_var 0) (fe_cst C_MOST))))))) (fss_one (fs_raise e_BadWord rfl tkF)) fss_nil)
  (fss_cons (fs_if (ft_cmp or_lt (fe_var 0) fe_int (by rfl)) (fss_one (fs_ret (fe_ix (u1 hr) (fe_cst C_DIGITS) (fe_var 0)))) fss_nil)
  (fss_cons (fs_set (i := 1) hN rfl (by first | exact .inl rfl | exact .inr rfl) (fe_lst fa_nil))
  (fss_cons (fs_for (own := [2, 3]) poF rfl (fe_cst C_TENS) (fg_tup rfl (fgs_cons (fg_name hN rfl (by first | exact .inl rfl | exact .inr rfl)) (fgs_cons (fg_name hN rfl (by first | exact .inl rfl | exact .inr rfl)) fgs_nil)))
  (fss_cons (fs_par (i := 4) (j := 0) rfl hN rfl rfl (by decide) rfl rfl (fa_cons (fe_op or_fdv (fe_var 0) (fe_var 3)) (fa_cons (fe_op or_mod (fe_var 0) (fe_var 3)) fa_nil)) rfl)
  (fss_cons (fs_if (ft_cmp or_gt (fe_var 4) fe_int (by rfl)) (fss_one (fs_ex (fe_M PySem.F.plainAttrs_list PySem.F.slot_list_append PySem.F.type_list_append mr_append ty_list (fe_var 1) (fa_cons (fe_F d_told tkF hr (fa_cons (fe_var 4) fa_nil) (Nat.le_refl _)) fa_nil)))) fss_nil)
  (fss_one (fs_if (ft_cmp or_gt (fe_var 4) fe_int (by rfl)) (fss_one (fs_ex (fe_M PySem.F.plainAttrs_list PySem.F.slot_list_append PySem.F.type_list_append mr_append ty_list (fe_var 1) (fa_cons (fe_var 2) fa_nil)))) fss_nil)))))
  (fss_cons (fs_if (ft_cmp or_gt (fe_var 0) fe_int (by rfl)) (fss_one (fs_ex (fe_M PySem.F.plainAttrs_list PySem.F.slot_list_append PySem.F.type_list_append mr_append ty_list (fe_var 1) (fa_cons (fe_ix (u1 hr) (fe_cst C_DIGITS) (fe_var 0)) fa_nil)))) fss_nil)
  (fss_one (fs_ret (fe_M PySem.F.plainAttrs_str PySem.F.slot_str_join PySem.F.type_str_join mr_join ty_str fe_str (fa_cons (fe_var 1) fa_nil)))))))))
abbrev s_shortest : Stmt := top 14
def b_shortest (F_told : List FL.D → VH → Out FL.D) : FSt :=
  (sSeq (sIf (tV (e2 cGt (eV 0) (eV 1))) (sRaise 3) sNil)
  (sRet (eMinK (aCons (eV 0) (aCons (e2 oAdd (eV 1) (eC (.int 1))) aNil)) [2] 2 (eTup (aCons (eB bLen (aCons (eF F_told (aCons (eV 2) aNil)) aNil)) (aCons (eV 2) aNil))))))
theorem sc_shortest : FnScope ["low", "high", "number"] ["low", "high"] (defScope s_shortest) := ⟨rfl, rfl, rfl, by decide +kernel, rfl, by decide +kernel, by decide +kernel⟩
theorem x_shortest {P : Program} {w : World} {K : PySem.W.Frag} {mg : Str → Option Value} {base : Heap} {g : Gc} {k : Nat} (e_NoWay : Er K mg g 3 "NoWay") (n_len : mg "len" = none) (n_min : mg "min" = none) (n_range : mg "range" = none) {F_told : List FL.D → VH → Out FL.D} (d_told : Df P w K mg base g k "told" F_told) {cs : List (Addr × Addr)} (KD : KeyD K mg g cs "shortest" s_shortest ["low", "high"] (PySem.Str.ofString "shortest.<locals>.<lambda>")) (hTB : ∀ p ∈ cs, LamX.TabB base mg p.1 p.2) :
    Df P w K mg base g (k + 4) "shortest" (runF 2 3 (b_shortest F_told)) := by
  refine KD.df hTB sc_shortest fun f c Pt A outer s H E TB hmT hu hr3 => ?_
  have hN := sc_shortest.nd
  have hr : Room k _ := hr3.mono (by omega)
  have hr2 : Room (k + 2) _ := hr3.mono (by omega)
  exact (fss_cons (fs_if (ft_cmp or_gt (fe_var 0) (fe_var 1) (by rfl)) (fss_one (fs_raise e_NoWay rfl tkF)) fss_nil)
  (fss_one (fs_ret (fe_minK rfl n_min n_range TB rfl hmT hu hN (hr3.mono (by omega)) (fa_cons (fe_var 0) (fa_cons (fe_op or_add (fe_var 1) fe_int) fa_nil)) (aLen_cons (aLen_cons aLen_nil)) (LamF.mk (own := [("number", 2)]) (i := 2) (clo_by (N := ["low", "high", "number"]) (sc := defScope s_shortest) (by decide +kernel)) rfl ⟨"number", rfl, rfl, fun _ _ _ _ _ _ => rfl⟩ (fun A s H L f c hr => (fe_tup (fa_cons (fe_B cr_len n_len (fa_cons (fe_F d_told LamX.takes0 hr (fa_cons (fe_var 2) fa_nil) (Nat.le_refl _)) fa_nil)) (fa_cons (fe_var 2) fa_nil))))) rfl))))
abbrev s_is_word : Stmt := top 19
def b_is_word : FSt :=
  (sSeq (sIf (tOr (tNot (tV (eB bIsi (aCons (eV 0) (aCons (eC (.ty "str")) aNil))))) (tNot (tV (eCh cLe cLe (eC (.int 1)) (eB bLen (aCons (eV 0) aNil)) (eC (.int 30)))))) (sRet (eC (.bl false))) sNil)
  (sRet (eAnd (eStG false (eV 0) (gN 1) tYes (e2 cIn (eV 1) (e2 oAdd (eC c_VOWELS) (eC c_OTHERS))) [1]) (eStG true (eV 0) (gN 1) tYes (e2 cIn (eV 1) (eC c_VOWELS)) [1]))))
theorem sc_is_word : FnScope ["thing", "sign"] ["thing"] (defScope s_is_word) := ⟨rfl, rfl, rfl, by decide +kernel, rfl, by decide +kernel, by decide +kernel⟩
theorem x_is_word {P : Program} {w : World} {K : PySem.W.Frag} {mg : Str → Option Value} {base : Heap} {g : Gc} {k : Nat} (n_isinstance : mg "isinstance" = none) (n_str : mg "str" = none) (n_len : mg "len" = none) (C_VOWELS : Cst K mg "VOWELS" c_VOWELS) (C_OTHERS : Cst K mg "OTHERS" c_OTHERS) (n_all : mg "all" = none) (n_any : mg "any" = none) {cs : List (Addr × Addr)} (KD : KeyD K mg g cs "is_word" s_is_word ["thing"] (PySem.Str.ofString "is_word.<locals>.<genexpr>")) (hTB : ∀ p ∈ cs, LamX.TabB base mg p.1 p.2) :
    Df P w K mg base g (k + 4) "is_word" (runF 1 2 (b_is_word)) := by
  refine KD.df hTB sc_is_word fun f c Pt A outer s H E TB hmT hu hr3 => ?_
  have hN := sc_is_word.nd
  have hr : Room k _ := hr3.mono (by omega)
  have hr2 : Room (k + 2) _ := hr3.mono (by omega)
  exact (fss_cons (fs_if (ft_w (fw_or (ft_not (ft_val (fe_B cr_isi n_isinstance (fa_cons (fe_var 0) (fa_cons (fe_ty n_str) fa_nil))))) (fw_or1 (ft_not (ft_ch or_le or_le fe_int (fe_B cr_len n_len (fa_cons (fe_var 0) fa_nil)) fe_int))))) (fss_one (fs_ret fe_bl)) fss_nil)
  (fss_one (fs_ret (fe_and (fe_allG n_all TB rfl hmT hu hN hr3 (fe_var 0) (GenP.mk (own := [("sign", 1)]) (clo_by (N := ["thing", "sign"]) (sc := defScope s_is_word) (by decide +kernel)) rfl (fun A s H L code fp hr => (fg_name hN rfl (by first | exact .inl rfl | exact .inr rfl))) (fun A s H L code fp hr => fts_nil) (fun A s H L code fp hr => (fe_cmp (or_in (u65 hr)) (fe_var 1) (fe_op or_add (fe_cst C_VOWELS) (fe_cst C_OTHERS)) (by rfl))))) (fe_one (fe_anyG n_any TB rfl hmT hu hN hr3 (fe_var 0) (GenP.mk (own := [("sign", 1)]) (clo_by (N := ["thing", "sign"]) (sc := defScope s_is_word) (by decide +kernel)) rfl (fun A s H L code fp hr => (fg_name hN rfl (by first | exact .inl rfl | exact .inr rfl))) (fun A s H L code fp hr => fts_nil) (fun A s H L code fp hr => (fe_cmp (or_in (u65 hr)) (fe_var 1) (fe_cst C_VOWELS) (by rfl))))))))))
abbrev s_is_book : Stmt := top 32
def b_is_book (F_is_stem : List FL.D → VH → Out FL.D) (F_rises : List FL.D → VH → Out FL.D) : FSt :=
  (sSeq (sIf (tOr (tNot (tV (eB bIsi (aCons (eV 0) (aCons (eC (.ty "tuple")) aNil))))) (tOr (tV (e2 cNe (eB bLen (aCons (eV 0) aNil)) (eC (.int 3)))) (tNot (tV (eStG false (eV 0) (gN 1) tYes (eB bIsi (aCons (eV 1) (aCons (eC (.ty "tuple")) aNil))) [1]))))) (sRet (eC (.bl false))) sNil)
  (sSeq (sAs (eV 0) (gT 3 (gCons (gN 2) (gCons (gN 3) (gCons (gN 4) gNil)))))
  (sSeq (sIf (tNot (tV (eStG false (eV 2) (gN 5) tYes (eAnd (eB bIsi (aCons (eV 5) (aCons (eC (.ty "tuple")) aNil))) (eAnd (e2 cEq (eB bLen (aCons (eV 5) aNil)) (eC (.int 2))) (e2 cIn (e2 oIx (eV 5) (eC (.int 1))) (eTup (aCons (eC (.int 0)) (aCons (eC (.int 1)) aNil)))))) [5]))) (sRet (eC (.bl false))) sNil)
  (sSeq (sAs (e2 oAdd (e2 oAdd (FL.eLc (eV 2) (gN 5) tYes (e2 oIx (eV 5) (eC (.int 0))) [5]) (eB bList (aCons (eV 3) aNil))) (eB bList (aCons (eV 4) aNil))) (gN 6))
  (sSeq (sIf (tOr (tNot (tV (eStG false (eV 6) (gN 7) tYes (eF F_is_stem (aCons (eV 7) aNil)) [7]))) (tV (e2 cNe (eSc lenFin (eV 6) (gN 7) tYes (eV 7) [7]) (eB bLen (aCons (eV 6) aNil))))) (sRet (eC (.bl false))) sNil)
  (sRet (eStG false (eTup (aCons (eV 2) (aCons (eV 3) (aCons (eV 4) aNil)))) (gN 1) tYes (eF F_rises (aCons (eV 1) aNil)) [1])))))))
theorem sc_is_book : FnScope ["thing", "row", "things", "deeds", "marks", "one", "stems", "stem"] ["thing"] (defScope s_is_book) := ⟨rfl, rfl, rfl, by decide +kernel, rfl, by decide +kernel, by decide +kernel⟩
theorem x_is_book {P : Program} {w : World} {K : PySem.W.Frag} {mg : Str → Option Value} {base : Heap} {g : Gc} {k : Nat} (n_isinstance : mg "isinstance" = none) (n_tuple : mg "tuple" = none) (n_len : mg "len" = none) (n_all : mg "all" = none) (n_list : mg "list" = none) {F_is_stem : List FL.D → VH → Out FL.D} {F_rises : List FL.D → VH → Out FL.D} (d_is_stem : Df P w K mg base g k "is_stem" F_is_stem) (d_rises : Df P w K mg base g k "rises" F_rises) {cs : List (Addr × Addr)} (KD : KeyD K mg g cs "is_book" s_is_book ["thing"] (PySem.Str.ofString "is_book.<locals>.<genexpr>")) (hTB : ∀ p ∈ cs, LamX.TabB base mg p.1 p.2) :
    Df P w K mg base g (k + 4) "is_book" (runF 1 8 (b_is_book F_is_stem F_rises)) := by
  refine KD.df hTB sc_is_book fun f c Pt A outer s H E TB hmT hu hr3 => ?_
  have hN := sc_is_book.nd
  have hr : Room k _ := hr3.mono (by omega)
  have hr2 : Room (k + 2) _ := hr3.mono (by omega)
  exact (fss_cons (fs_if (ft_w (fw_or (ft_not (ft_val (fe_B cr_isi n_isinstance (fa_cons (fe_var 0) (fa_cons (fe_ty n_tuple) fa_nil))))) (fw_or (ft_cmp (or_ne (u64 hr)) (fe_B cr_len n_len (fa_cons (fe_var 0) fa_nil)) fe_int (by rfl)) (fw_or1 (ft_not (ft_val (fe_allG n_all TB rfl hmT hu hN hr3 (fe_var 0) (GenP.mk (own := [("row", 1)]) (clo_by (N := ["thing", "row", "things", "deeds", "marks", "one", "stems", "stem"]) (sc := defScope s_is_book) (by decide +kernel)) rfl (fun A s H L code fp hr => (fg_name hN rfl (by first | exact .inl rfl | exact .inr rfl))) (fun A s H L code fp hr => fts_nil) (fun A s H L code fp hr => (fe_B cr_isi n_isinstance (fa_cons (fe_var 1) (fa_cons (fe_ty n_tuple) fa_nil)))))))))))) (fss_one (fs_ret fe_bl)) fss_nil)
  (fss_cons (fs_as (own := [2, 3, 4]) (fe_var 0) (fg_tup rfl (fgs_cons (fg_name hN rfl (by first | exact .inl rfl | exact .inr rfl)) (fgs_cons (fg_name hN rfl (by first | exact .inl rfl | exact .inr rfl)) (fgs_cons (fg_name hN rfl (by first | exact .inl rfl | exact .inr rfl)) fgs_nil)))))
  (fss_cons (fs_if (ft_not (ft_val (fe_allG n_all TB rfl hmT hu hN hr3 (fe_var 2) (GenP.mk (own := [("one", 5)]) (clo_by (N := ["thing", "row", "things", "deeds", "marks", "one", "stems", "stem"]) (sc := defScope s_is_book) (by decide +kernel)) rfl (fun A s H L code fp hr => (fg_name hN rfl (by first | exact .inl rfl | exact .inr rfl))) (fun A s H L code fp hr => fts_nil) (fun A s H L code fp hr => (fe_and (fe_B cr_isi n_isinstance (fa_cons (fe_var 5) (fa_cons (fe_ty n_tuple) fa_nil))) (fe_and (fe_cmp (or_eq (u64 hr)) (fe_B cr_len n_len (fa_cons (fe_var 5) fa_nil)) fe_int (by rfl)) (fe_one (fe_cmp (or_in (u65 hr)) (fe_ix (u1 hr) (fe_var 5) fe_int) (fe_tup (fa_cons fe_int (fa_cons fe_int fa_nil))) (by rfl)))))))))) (fss_one (fs_ret fe_bl)) fss_nil)
  (fss_cons (fs_set (i := 6) hN rfl (by first | exact .inl rfl | exact .inr rfl) (fe_op or_add (fe_op or_add (fe_lc rfl hN (fe_var 2) (LcP.mk (own := [("one", 5)]) (blk_by (N := ["thing", "row", "things", "deeds", "marks", "one", "stems", "stem"]) (sc := defScope s_is_book) (by decide +kernel)) (fun s H C cl fp => (fg_name hN rfl (by first | exact .inl rfl | exact .inr rfl))) (fun s H C cl fp => fts_nil) (fun s H C cl fp => (fe_ix (u1 hr) (fe_var 5) fe_int)))) (fe_BT cr_list n_list (fa_cons (fe_var 3) fa_nil))) (fe_BT cr_list n_list (fa_cons (fe_var 4) fa_nil))))
  (fss_cons (fs_if (ft_w (fw_or (ft_not (ft_val (fe_allG n_all TB rfl hmT hu hN hr3 (fe_var 6) (GenP.mk (own := [("stem", 7)]) (clo_by (N := ["thing", "row", "things", "deeds", "marks", "one", "stems", "stem"]) (sc := defScope s_is_book) (by decide +kernel)) rfl (fun A s H L code fp hr => (fg_name hN rfl (by first | exact .inl rfl | exact .inr rfl))) (fun A s H L code fp hr => fts_nil) (fun A s H L code fp hr => (fe_F d_is_stem LamX.takes0 hr (fa_cons (fe_var 7) fa_nil) (Nat.le_refl _))))))) (fw_or1 (ft_cmp (or_ne (u64 hr)) (fe_scLen rfl hN n_len (fe_var 6) (LcP.mk (own := [("stem", 7)]) (blk_by (N := ["thing", "row", "things", "deeds", "marks", "one", "stems", "stem"]) (sc := defScope s_is_book) (by decide +kernel)) (fun s H C cl fp => (fg_name hN rfl (by first | exact .inl rfl | exact .inr rfl))) (fun s H C cl fp => fts_nil) (fun s H C cl fp => (fe_var 7)))) (fe_B cr_len n_len (fa_cons (fe_var 6) fa_nil)) (by rfl))))) (fss_one (fs_ret fe_bl)) fss_nil)
  (fss_one (fs_ret (fe_allG n_all TB rfl hmT hu hN hr3 (fe_tup (fa_cons (fe_var 2) (fa_cons (fe_var 3) (fa_cons (fe_var 4) fa_nil)))) (GenP.mk (own := [("row", 1)]) (clo_by (N := ["thing", "row", "things", "deeds", "marks", "one", "stems", "stem"]) (sc := defScope s_is_book) (by decide +kernel)) rfl (fun A s H L code fp hr => (fg_name hN rfl (by first | exact .inl rfl | exact .inr rfl))) (fun A s H L code fp hr => fts_nil) (fun A s H L code fp hr => (fe_F d_rises LamX.takes0 hr (fa_cons (fe_var 1) fa_nil) (Nat.le_refl _))))))))))))
abbrev s_is_stem : Stmt := top 33
def b_is_stem (F_is_word : List FL.D → VH → Out FL.D) : FSt :=
  (sRet (eAnd (eF F_is_word (aCons (eV 0) aNil)) (eAnd (e2 cLe (eB bLen (aCons (eV 0) aNil)) (eC (.int 12))) (e2 cNin (eV 0) (e2 oAdd (eC c_SMALL) (eC c_WHO))))))
theorem sc_is_stem : FnScope ["thing"] ["thing"] (defScope s_is_stem) := ⟨rfl, rfl, rfl, by decide +kernel, rfl, by decide +kernel, by decide +kernel⟩
theorem x_is_stem {P : Program} {w : World} {K : PySem.W.Frag} {mg : Str → Option Value} {base : Heap} {g : Gc} {k : Nat} (n_len : mg "len" = none) (C_SMALL : Cst K mg "SMALL" c_SMALL) (C_WHO : Cst K mg "WHO" c_WHO) {F_is_word : List FL.D → VH → Out FL.D} (d_is_word : Df P w K mg base g k "is_word" F_is_word) {f : Addr} {fd : FuncData} (Fn : L2.Fun K "is_stem" "is_stem" s_is_stem f fd) (hm : mg "is_stem" = some (.ref f)) (hb : Binds K fd ["thing"] []) :
    Df P w K mg base g (k + 1) "is_stem" (runF 1 1 (b_is_stem F_is_word)) := by
  refine Df.mkD Fn sc_is_stem hm hb fun cdv A outer s H E hr => ?_
  have hN := sc_is_stem.nd
  exact (fss_one (fs_ret (fe_and (fe_F d_is_word tkF hr (fa_cons (fe_var 0) fa_nil) (Nat.le_refl _)) (fe_and (fe_cmp or_le (fe_B cr_len n_len (fa_cons (fe_var 0) fa_nil)) fe_int (by rfl)) (fe_one (fe_cmp (or_nin (u65 hr)) (fe_var 0) (fe_op or_add (fe_cst C_SMALL) (fe_cst C_WHO)) (by rfl)))))))
abbrev s_rises : Stmt := top 34
def b_rises : FSt :=
  (sRet (eStR false (aCons (e2 oSub (eB bLen (aCons (eV 0) aNil)) (eC (.int 1))) aNil) (gN 1) tYes (e2 cLtD (e2 oIx (eV 0) (eV 1)) (e2 oIx (eV 0) (e2 oAdd (eV 1) (eC (.int 1))))) [1]))
theorem sc_rises : FnScope ["row", "k"] ["row"] (defScope s_rises) := ⟨rfl, rfl, rfl, by decide +kernel, rfl, by decide +kernel, by decide +kernel⟩
theorem x_rises {P : Program} {w : World} {K : PySem.W.Frag} {mg : Str → Option Value} {base : Heap} {g : Gc} {k : Nat} (n_all : mg "all" = none) (n_range : mg "range" = none) (n_len : mg "len" = none) {cs : List (Addr × Addr)} (KD : KeyD K mg g cs "rises" s_rises ["row"] (PySem.Str.ofString "rises.<locals>.<genexpr>")) (hTB : ∀ p ∈ cs, LamX.TabB base mg p.1 p.2) :
    Df P w K mg base g (k + 4) "rises" (runF 1 2 (b_rises)) := by
  refine KD.df hTB sc_rises fun f c Pt A outer s H E TB hmT hu hr3 => ?_
  have hN := sc_rises.nd
  have hr : Room k _ := hr3.mono (by omega)
  have hr2 : Room (k + 2) _ := hr3.mono (by omega)
  exact (fss_one (fs_ret (fe_allGR1 n_all n_range TB rfl hmT hu hN hr3 (fa_cons (fe_op or_sub (fe_B cr_len n_len (fa_cons (fe_var 0) fa_nil)) fe_int) fa_nil) (aLen_cons aLen_nil) (GenP.mk (own := [("k", 1)]) (clo_by (N := ["row", "k"]) (sc := defScope s_rises) (by decide +kernel)) rfl (fun A s H L code fp hr => (fg_name hN rfl (by first | exact .inl rfl | exact .inr rfl))) (fun A s H L code fp hr => fts_nil) (fun A s H L code fp hr => (fe_cmp (or_ltD (u64 hr)) (fe_ix (u1 hr) (fe_var 0) (fe_var 1)) (fe_ix (u1 hr) (fe_var 0) (fe_op or_add (fe_var 1) fe_int)) (by rfl)))))))
abbrev s_check_book : Stmt := top 35
def b_check_book (F_is_book : List FL.D → VH → Out FL.D) : FSt :=
  (sIf (tNot (tTr (eF F_is_book (aCons (eV 0) aNil)))) (sRaise 1) sNil)
theorem sc_check_book : FnScope ["thing"] ["thing"] (defScope s_check_book) := ⟨rfl, rfl, rfl, by decide +kernel, rfl, by decide +kernel, by decide +kernel⟩
theorem x_check_book {P : Program} {w : World} {K : PySem.W.Frag} {mg : Str → Option Value} {base : Heap} {g : Gc} {k : Nat} (e_BadBook : Er K mg g 1 "BadBook") {F_is_book : List FL.D → VH → Out FL.D} (d_is_book : Df P w K mg base g k "is_book" F_is_book) {f : Addr} {fd : FuncData} (Fn : L2.Fun K "check_book" "check_book" s_check_book f fd) (hm : mg "check_book" = some (.ref f)) (hb : Binds K fd ["thing"] []) :
    Df P w K mg base g (k + 1) "check_book" (runF 1 1 (b_check_book F_is_book)) := by
  refine Df.mkD Fn sc_check_book hm hb fun cdv A outer s H E hr => ?_
  have hN := sc_check_book.nd
  exact (fss_one (fs_if (ft_not (ft_tru (fe_F d_is_book tkF hr (fa_cons (fe_var 0) fa_nil) (Nat.le_refl _)))) (fss_one (fs_raise e_BadBook rfl tkF)) fss_nil))
abbrev s_joined : Stmt := top 36
def b_joined : FSt :=
  (sSeq (sIf (tV (e2 cEq (eV 1) (eC (.str [])))) (sRet (eV 0)) sNil)
  (sSeq (sPar 2 3 (aCons (e2 oIx (eV 0) (e1 oNeg (eC (.int 1)))) (aCons (e2 oIx (eV 1) (eC (.int 0))) aNil)))
  (sSeq (sIf (tAnd (tV (e2 cIn (eV 2) (eC c_VOWELS))) (tV (e2 cIn (eV 3) (eC c_VOWELS)))) (sRet (e2 oAdd (e2 oAdd (eV 0) (eC (.str [110]))) (eV 1))) sNil)
  (sSeq (sIf (tAnd (tV (e2 cEq (eV 2) (eC (.str [107])))) (tV (e2 cIn (eV 3) (eC (.str [101, 105]))))) (sRet (e2 oAdd (e2 oAdd (eSl (eV 0) pNo (pSo (e1 oNeg (eC (.int 1))))) (eC (.str [115]))) (eV 1))) sNil)
  (sSeq (sIf (tAnd (tV (e2 cEq (eV 2) (eC (.str [116])))) (tV (e2 cEq (eV 3) (eC (.str [105]))))) (sRet (e2 oAdd (e2 oAdd (eSl (eV 0) pNo (pSo (e1 oNeg (eC (.int 1))))) (eC (.str [122]))) (eV 1))) sNil)
  (sRet (e2 oAdd (eV 0) (eV 1))))))))
theorem sc_joined : FnScope ["stem", "ending", "last", "first"] ["stem", "ending"] (defScope s_joined) := ⟨rfl, rfl, rfl, by decide +kernel, rfl, by decide +kernel, by decide +kernel⟩
theorem x_joined {P : Program} {w : World} {K : PySem.W.Frag} {mg : Str → Option Value} {base : Heap} {g : Gc} {k : Nat} (C_VOWELS : Cst K mg "VOWELS" c_VOWELS) {f : Addr} {fd : FuncData} (Fn : L2.Fun K "joined" "joined" s_joined f fd) (hm : mg "joined" = some (.ref f)) (hb : Binds K fd ["stem", "ending"] []) :
    Df P w K mg base g (k + 1) "joined" (runF 2 4 (b_joined)) := by
  refine Df.mkD Fn sc_joined hm hb fun cdv A outer s H E hr => ?_
  have hN := sc_joined.nd
  exact (fss_cons (fs_if (ft_cmp (or_eq (u64 hr)) (fe_var 1) fe_str (by rfl)) (fss_one (fs_ret (fe_var 0))) fss_nil)
  (fss_cons (fs_par (i := 2) (j := 3) rfl hN rfl rfl (by decide) rfl rfl (fa_cons (fe_ix (u1 hr) (fe_var 0) (fe_neg fe_int)) (fa_cons (fe_ix (u1 hr) (fe_var 1) fe_int) fa_nil)) rfl)
  (fss_cons (fs_if (ft_w (fw_and (ft_cmp (or_in (u65 hr)) (fe_var 2) (fe_cst C_VOWELS) (by rfl)) (fw_and1 (ft_cmp (or_in (u65 hr)) (fe_var 3) (fe_cst C_VOWELS) (by rfl))))) (fss_one (fs_ret (fe_op or_add (fe_op or_add (fe_var 0) fe_str) (fe_var 1)))) fss_nil)
  (fss_cons (fs_if (ft_w (fw_and (ft_cmp (or_eq (u64 hr)) (fe_var 2) fe_str (by rfl)) (fw_and1 (ft_cmp (or_in (u65 hr)) (fe_var 3) fe_str (by rfl))))) (fss_one (fs_ret (fe_op or_add (fe_op or_add (fe_sl (fe_var 0) fo_none (fo_some (fe_neg fe_int))) fe_str) (fe_var 1)))) fss_nil)
  (fss_cons (fs_if (ft_w (fw_and (ft_cmp (or_eq (u64 hr)) (fe_var 2) fe_str (by rfl)) (fw_and1 (ft_cmp (or_eq (u64 hr)) (fe_var 3) fe_str (by rfl))))) (fss_one (fs_ret (fe_op or_add (fe_op or_add (fe_sl (fe_var 0) fo_none (fo_some (fe_neg fe_int))) fe_str) (fe_var 1)))) fss_nil)
  (fss_one (fs_ret (fe_op or_add (fe_var 0) (fe_var 1)))))))))
abbrev s_thing_form : Stmt := top 37
def b_thing_form (F_joined : List FL.D → VH → Out FL.D) : FSt :=
  (sSeq (sIf (tOr (tV (e1 (oWnin c_ENDINGS) (eV 1))) (tV (e2 cNin (eV 2) (eC c_CASES)))) (sRaise 0) sNil)
  (sRet (eF F_joined (aCons (eV 0) (aCons (e2 oAdd (e2 oIx (e1 (oWix c_ENDINGS) (eV 1)) (eM isT mIndexT (eC c_CASES) (aCons (eV 2) aNil))) (eIf (tTr (eV 3)) (eC (.str [105])) (eC (.str [])))) aNil)))))
theorem sc_thing_form : FnScope ["stem", "kind", "case", "many"] ["stem", "kind", "case", "many"] (defScope s_thing_form) := ⟨rfl, rfl, rfl, by decide +kernel, rfl, by decide +kernel, by decide +kernel⟩
theorem x_thing_form {P : Program} {w : World} {K : PySem.W.Frag} {mg : Str → Option Value} {base : Heap} {g : Gc} {k : Nat} (D_ENDINGS : WD K w mg "ENDINGS" c_ENDINGS) (C_CASES : Cst K mg "CASES" c_CASES) (e_BadWord : Er K mg g 0 "BadWord") {F_joined : List FL.D → VH → Out FL.D} (d_joined : Df P w K mg base g k "joined" F_joined) {f : Addr} {fd : FuncData} (Fn : L2.Fun K "thing_form" "thing_form" s_thing_form f fd) (hm : mg "thing_form" = some (.ref f)) (hb : Binds K fd ["stem", "kind", "case", "many"] []) :
    Df P w K mg base g (k + 1) "thing_form" (runF 4 4 (b_thing_form F_joined)) := by
  refine Df.mkD Fn sc_thing_form hm hb fun cdv A outer s H E hr => ?_
  have hN := sc_thing_form.nd
  exact (fss_cons (fs_if (ft_w (fw_or (ft_wnin D_ENDINGS (fe_var 1)) (fw_or1 (ft_cmp (or_nin (u65 hr)) (fe_var 2) (fe_cst C_CASES) (by rfl))))) (fss_one (fs_raise e_BadWord rfl tkF)) fss_nil)
  (fss_one (fs_ret (fe_F d_joined tkF hr (fa_cons (fe_var 0) (fa_cons (fe_op or_add (fe_ix (u1 hr) (fe_wix D_ENDINGS (fe_var 1)) (fe_M PySem.F.plainAttrs_tuple PySem.F.slot_tuple_index PySem.F.type_tuple_index (mr_indexT (u65 hr)) ty_tup (fe_cst C_CASES) (fa_cons (fe_var 2) fa_nil))) (fe_if (ft_tru (fe_var 3)) fe_str fe_str)) fa_nil)) (Nat.le_refl _)))))
abbrev s_deed_form : Stmt := top 38
def b_deed_form (F_joined : List FL.D → VH → Out FL.D) : FSt :=
  (sSeq (sIf (tOr (tV (e2 cNin (eV 1) (eC c_TIMES))) (tV (e2 cNin (eV 2) (eTup (aCons (eC (.int 1)) (aCons (eC (.int 2)) (aCons (eC (.int 3)) aNil))))))) (sRaise 0) sNil)
  (sRet (eF F_joined (aCons (eV 0) (aCons (e2 oAdd (e1 (oWix c_AHEAD) (eV 1)) (e2 oIx (eC c_PERSONS) (e2 oAdd (e2 oSub (eV 2) (eC (.int 1))) (eIf (tTr (eV 3)) (eC (.int 3)) (eC (.int 0)))))) aNil)))))
theorem sc_deed_form : FnScope ["stem", "time", "person", "many"] ["stem", "time", "person", "many"] (defScope s_deed_form) := ⟨rfl, rfl, rfl, by decide +kernel, rfl, by decide +kernel, by decide +kernel⟩
theorem x_deed_form {P : Program} {w : World} {K : PySem.W.Frag} {mg : Str → Option Value} {base : Heap} {g : Gc} {k : Nat} (C_TIMES : Cst K mg "TIMES" c_TIMES) (e_BadWord : Er K mg g 0 "BadWord") (D_AHEAD : WD K w mg "AHEAD" c_AHEAD) (C_PERSONS : Cst K mg "PERSONS" c_PERSONS) {F_joined : List FL.D → VH → Out FL.D} (d_joined : Df P w K mg base g k "joined" F_joined) {f : Addr} {fd : FuncData} (Fn : L2.Fun K "deed_form" "deed_form" s_deed_form f fd) (hm : mg "deed_form" = some (.ref f)) (hb : Binds K fd ["stem", "time", "person", "many"] []) :
    Df P w K mg base g (k + 1) "deed_form" (runF 4 4 (b_deed_form F_joined)) := by
  refine Df.mkD Fn sc_deed_form hm hb fun cdv A outer s H E hr => ?_
  have hN := sc_deed_form.nd
  exact (fss_cons (fs_if (ft_w (fw_or (ft_cmp (or_nin (u65 hr)) (fe_var 1) (fe_cst C_TIMES) (by rfl)) (fw_or1 (ft_cmp (or_nin (u65 hr)) (fe_var 2) (fe_tup (fa_cons fe_int (fa_cons fe_int (fa_cons fe_int fa_nil)))) (by rfl))))) (fss_one (fs_raise e_BadWord rfl tkF)) fss_nil)
  (fss_one (fs_ret (fe_F d_joined tkF hr (fa_cons (fe_var 0) (fa_cons (fe_op or_add (fe_wix D_AHEAD (fe_var 1)) (fe_ix (u1 hr) (fe_cst C_PERSONS) (fe_op or_add (fe_op or_sub (fe_var 2) fe_int) (fe_if (ft_tru (fe_var 3)) fe_int fe_int)))) fa_nil)) (Nat.le_refl _)))))
abbrev s_who_form : Stmt := top 39
def b_who_form : FSt :=
  (sSeq (sIf (tOr (tV (e2 cNin (eV 0) (eC c_WHO))) (tV (e2 cNin (eV 1) (eC c_CASES)))) (sRaise 0) sNil)
  (sRet (e2 oAdd (e2 oAdd (eV 0) (eIf (tTr (eV 2)) (e2 oAdd (eC (.str [114])) (e2 oIx (eC (.str [97, 101, 105, 111])) (eM isT mIndexT (eC c_WHO) (aCons (eV 0) aNil)))) (eC (.str [])))) (e2 oIx (eTup (aCons (eC (.str [])) (aCons (eC (.str [110])) (aCons (eC (.str [115])) (aCons (eC (.str [108])) aNil))))) (eM isT mIndexT (eC c_CASES) (aCons (eV 1) aNil))))))
theorem sc_who_form : FnScope ["who", "case", "many"] ["who", "case", "many"] (defScope s_who_form) := ⟨rfl, rfl, rfl, by decide +kernel, rfl, by decide +kernel, by decide +kernel⟩
theorem x_who_form {P : Program} {w : World} {K : PySem.W.Frag} {mg : Str → Option Value} {base : Heap} {g : Gc} {k : Nat} (C_WHO : Cst K mg "WHO" c_WHO) (C_CASES : Cst K mg "CASES" c_CASES) (e_BadWord : Er K mg g 0 "BadWord") {f : Addr} {fd : FuncData} (Fn : L2.Fun K "who_form" "who_form" s_who_form f fd) (hm : mg "who_form" = some (.ref f)) (hb : Binds K fd ["who", "case", "many"] []) :
    Df P w K mg base g (k + 1) "who_form" (runF 3 3 (b_who_form)) := by
  refine Df.mkD Fn sc_who_form hm hb fun cdv A outer s H E hr => ?_
  have hN := sc_who_form.nd
  exact (fss_cons (fs_if (ft_w (fw_or (ft_cmp (or_nin (u65 hr)) (fe_var 0) (fe_cst C_WHO) (by rfl)) (fw_or1 (ft_cmp (or_nin (u65 hr)) (fe_var 1) (fe_cst C_CASES) (by rfl))))) (fss_one (fs_raise e_BadWord rfl tkF)) fss_nil)
  (fss_one (fs_ret (fe_op or_add (fe_op or_add (fe_var 0) (fe_if (ft_tru (fe_var 2)) (fe_op or_add fe_str (fe_ix (u1 hr) fe_str (fe_M PySem.F.plainAttrs_tuple PySem.F.slot_tuple_index PySem.F.type_tuple_index (mr_indexT (u65 hr)) ty_tup (fe_cst C_WHO) (fa_cons (fe_var 0) fa_nil)))) fe_str)) (fe_ix (u1 hr) (fe_tup (fa_cons fe_str (fa_cons fe_str (fa_cons fe_str (fa_cons fe_str fa_nil))))) (fe_M PySem.F.plainAttrs_tuple PySem.F.slot_tuple_index PySem.F.type_tuple_index (mr_indexT (u65 hr)) ty_tup (fe_cst C_CASES) (fa_cons (fe_var 1) fa_nil)))))))
abbrev s_forms_of_thing : Stmt := top 40
def b_forms_of_thing (F_thing_form : List FL.D → VH → Out FL.D) : FSt :=
  (sRet (eB bTup (aCons (eLc2 (eC c_CASES) (gN 2) tYes (eTup (aCons (eC (.bl false)) (aCons (eC (.bl true)) aNil))) (gN 3) tYes (eTup (aCons (eF F_thing_form (aCons (eV 0) (aCons (eV 1) (aCons (eV 2) (aCons (eV 3) aNil))))) (aCons (eV 2) (aCons (eV 3) aNil)))) [2, 3] [3]) aNil)))
theorem sc_forms_of_thing : FnScope ["stem", "kind", "case", "many"] ["stem", "kind"] (defScope s_forms_of_thing) := ⟨rfl, rfl, rfl, by decide +kernel, rfl, by decide +kernel, by decide +kernel⟩
theorem x_forms_of_thing {P : Program} {w : World} {K : PySem.W.Frag} {mg : Str → Option Value} {base : Heap} {g : Gc} {k : Nat} (n_tuple : mg "tuple" = none) (C_CASES : Cst K mg "CASES" c_CASES) {F_thing_form : List FL.D → VH → Out FL.D} (d_thing_form : Df P w K mg base g k "thing_form" F_thing_form) {f : Addr} {fd : FuncData} (Fn : L2.Fun K "forms_of_thing" "forms_of_thing" s_forms_of_thing f fd) (hm : mg "forms_of_thing" = some (.ref f)) (hb : Binds K fd ["stem", "kind"] []) :
    Df P w K mg base g (k + 1) "forms_of_thing" (runF 2 4 (b_forms_of_thing F_thing_form)) := by
  refine Df.mkD Fn sc_forms_of_thing hm hb fun cdv A outer s H E hr => ?_
  have hN := sc_forms_of_thing.nd
  exact (fss_one (fs_ret (fe_BT cr_tup n_tuple (fa_cons (fe_lc2 rfl hN (fe_cst C_CASES) (Lc2P.mk (own := [("case", 2), ("many", 3)]) (sl1 := [3]) (blk_by (N := ["stem", "kind", "case", "many"]) (sc := defScope s_forms_of_thing) (by decide +kernel)) (by decide) (fun s H C cl fp => (fg_name hN rfl (by first | exact .inl rfl | exact .inr rfl))) (fun s H C cl fp => fts_nil) (fun s H C cl fp => (fe_tup (fa_cons fe_bl (fa_cons fe_bl fa_nil)))) (fun s H C cl fp => (fg_name hN rfl (by first | exact .inl rfl | exact .inr rfl))) (fun s H C cl fp => fts_nil) (fun s H C cl fp => (fe_tup (fa_cons (fe_F d_thing_form LamX.takes0 hr (fa_cons (fe_var 0) (fa_cons (fe_var 1) (fa_cons (fe_var 2) (fa_cons (fe_var 3) fa_nil)))) (Nat.le_refl _)) (fa_cons (fe_var 2) (fa_cons (fe_var 3) fa_nil))))))) fa_nil))))
abbrev s_forms_of_deed : Stmt := top 41
def b_forms_of_deed_1 (F_deed_form : List FL.D → VH → Out FL.D) : FSt :=
  (sEx (eM isL mExtend (eV 1) (aCons (FL.eLc (eTup (aCons (eC (.bl false)) (aCons (eC (.bl true)) aNil))) (gN 4) tYes (eTup (aCons (eF F_deed_form (aCons (eV 0) (aCons (eV 2) (aCons (eV 3) (aCons (eV 4) aNil))))) (aCons (eV 2) (aCons (eV 3) (aCons (eV 4) aNil))))) [4]) aNil)))
def b_forms_of_deed_2 (F_deed_form : List FL.D → VH → Out FL.D) : FSt :=
  (sFor (eTup (aCons (eC (.int 1)) (aCons (eC (.int 2)) (aCons (eC (.int 3)) aNil)))) (gN 3)
  (b_forms_of_deed_1 F_deed_form))
def b_forms_of_deed (F_deed_form : List FL.D → VH → Out FL.D) : FSt :=
  (sSeq (sAs (eLst aNil) (gN 1))
  (sSeq (sFor (eC c_TIMES) (gN 2)
  (b_forms_of_deed_2 F_deed_form))
  (sRet (eB bTup (aCons (eV 1) aNil)))))
theorem sc_forms_of_deed : FnScope ["stem", "rows", "time", "person", "many"] ["stem"] (defScope s_forms_of_deed) := ⟨rfl, rfl, rfl, by decide +kernel, rfl, by decide +kernel, by decide +kernel⟩
theorem x_forms_of_deed {P : Program} {w : World} {K : PySem.W.Frag} {mg : Str → Option Value} {base : Heap} {g : Gc} {k : Nat} (C_TIMES : Cst K mg "TIMES" c_TIMES) (n_tuple : mg "tuple" = none) {F_deed_form : List FL.D → VH → Out FL.D} (d_deed_form : Df P w K mg base g k "deed_form" F_deed_form) {f : Addr} {fd : FuncData} (Fn : L2.Fun K "forms_of_deed" "forms_of_deed" s_forms_of_deed f fd) (hm : mg "forms_of_deed" = some (.ref f)) (hb : Binds K fd ["stem"] []) :
    Df P w K mg base g (k + 1) "forms_of_deed" (runF 1 5 (b_forms_of_deed F_deed_form)) := by
  refine Df.mkD Fn sc_forms_of_deed hm hb fun cdv A outer s H E hr => ?_
  have hN := sc_forms_of_deed.nd
  exact (fss_cons (fs_set (i := 1) hN rfl (by first | exact .inl rfl | exact .inr rfl) (fe_lst fa_nil))
  (fss_cons (fs_for (own := [2]) poF rfl (fe_cst C_TIMES) (fg_name hN rfl (by first | exact .inl rfl | exact .inr rfl))
  (fss_one (fs_for (own := [3]) poF rfl (fe_tup (fa_cons fe_int (fa_cons fe_int (fa_cons fe_int fa_nil)))) (fg_name hN rfl (by first | exact .inl rfl | exact .inr rfl))
  (fss_one (fs_ex (fe_M PySem.F.plainAttrs_list PySem.F.slot_list_extend PySem.F.type_list_extend mr_extend ty_list (fe_var 1) (fa_cons (fe_lc rfl hN (fe_tup (fa_cons fe_bl (fa_cons fe_bl fa_nil))) (LcP.mk (own := [("many", 4)]) (blk_by (N := ["stem", "rows", "time", "person", "many"]) (sc := defScope s_forms_of_deed) (by decide +kernel)) (fun s H C cl fp => (fg_name hN rfl (by first | exact .inl rfl | exact .inr rfl))) (fun s H C cl fp => fts_nil) (fun s H C cl fp => (fe_tup (fa_cons (fe_F d_deed_form LamX.takes0 hr (fa_cons (fe_var 0) (fa_cons (fe_var 2) (fa_cons (fe_var 3) (fa_cons (fe_var 4) fa_nil)))) (Nat.le_refl _)) (fa_cons (fe_var 2) (fa_cons (fe_var 3) (fa_cons (fe_var 4) fa_nil)))))))) fa_nil)))))))
  (fss_one (fs_ret (fe_BT cr_tup n_tuple (fa_cons (fe_var 1) fa_nil))))))
abbrev s_asked_form : Stmt := top 43
def b_asked_form : FSt :=
  (sSeq (sIf (tV (e2 cNin (eV 0) (eC c_CASES))) (sRaise 0) sNil)
  (sRet (e2 oAdd (eC (.str [107, 101, 108])) (e2 oIx (eTup (aCons (eC (.str [])) (aCons (eC (.str [111, 109])) (aCons (eC (.str [101, 115])) (aCons (eC (.str [117, 108])) aNil))))) (eM isT mIndexT (eC c_CASES) (aCons (eV 0) aNil))))))
theorem sc_asked_form : FnScope ["case"] ["case"] (defScope s_asked_form) := ⟨rfl, rfl, rfl, by decide +kernel, rfl, by decide +kernel, by decide +kernel⟩
theorem x_asked_form {P : Program} {w : World} {K : PySem.W.Frag} {mg : Str → Option Value} {base : Heap} {g : Gc} {k : Nat} (C_CASES : Cst K mg "CASES" c_CASES) (e_BadWord : Er K mg g 0 "BadWord") {f : Addr} {fd : FuncData} (Fn : L2.Fun K "asked_form" "asked_form" s_asked_form f fd) (hm : mg "asked_form" = some (.ref f)) (hb : Binds K fd ["case"] []) :
    Df P w K mg base g (k + 1) "asked_form" (runF 1 1 (b_asked_form)) := by
  refine Df.mkD Fn sc_asked_form hm hb fun cdv A outer s H E hr => ?_
  have hN := sc_asked_form.nd
  exact (fss_cons (fs_if (ft_cmp (or_nin (u65 hr)) (fe_var 0) (fe_cst C_CASES) (by rfl)) (fss_one (fs_raise e_BadWord rfl tkF)) fss_nil)
  (fss_one (fs_ret (fe_op or_add fe_str (fe_ix (u1 hr) (fe_tup (fa_cons fe_str (fa_cons fe_str (fa_cons fe_str (fa_cons fe_str fa_nil))))) (fe_M PySem.F.plainAttrs_tuple PySem.F.slot_tuple_index PySem.F.type_tuple_index (mr_indexT (u65 hr)) ty_tup (fe_cst C_CASES) (fa_cons (fe_var 0) fa_nil)))))))
abbrev s_all_forms : Stmt := top 42
def b_all_forms_1 (F_check_book : List FL.D → VH → Out FL.D) (F_forms_of_thing : List FL.D → VH → Out FL.D) (F_forms_of_deed : List FL.D → VH → Out FL.D) (F_who_form : List FL.D → VH → Out FL.D) (F_asked_form : List FL.D → VH → Out FL.D) : FSt :=
  (sEx (eM isL mAppend (eM isDc mSetd (eV 4) (aCons (eV 7) (aCons (eLst aNil) aNil))) (aCons (eTup (aCons (eC (.str [116, 104, 105, 110, 103])) (aCons (eV 5) (aCons (eV 6) (aCons (eV 8) (aCons (eV 9) aNil)))))) aNil)))
def b_all_forms_2 (F_check_book : List FL.D → VH → Out FL.D) (F_forms_of_thing : List FL.D → VH → Out FL.D) (F_forms_of_deed : List FL.D → VH → Out FL.D) (F_who_form : List FL.D → VH → Out FL.D) (F_asked_form : List FL.D → VH → Out FL.D) : FSt :=
  (sFor (eF F_forms_of_thing (aCons (eV 5) (aCons (eV 6) aNil))) (gT 3 (gCons (gN 7) (gCons (gN 8) (gCons (gN 9) gNil))))
  (b_all_forms_1 F_check_book F_forms_of_thing F_forms_of_deed F_who_form F_asked_form))
def b_all_forms_3 (F_check_book : List FL.D → VH → Out FL.D) (F_forms_of_thing : List FL.D → VH → Out FL.D) (F_forms_of_deed : List FL.D → VH → Out FL.D) (F_who_form : List FL.D → VH → Out FL.D) (F_asked_form : List FL.D → VH → Out FL.D) : FSt :=
  (sEx (eM isL mAppend (eM isDc mSetd (eV 4) (aCons (eV 7) (aCons (eLst aNil) aNil))) (aCons (eTup (aCons (eC (.str [109, 97, 114, 107])) (aCons (eV 5) (aCons (eV 6) (aCons (eV 8) (aCons (eV 9) aNil)))))) aNil)))
def b_all_forms_4 (F_check_book : List FL.D → VH → Out FL.D) (F_forms_of_thing : List FL.D → VH → Out FL.D) (F_forms_of_deed : List FL.D → VH → Out FL.D) (F_who_form : List FL.D → VH → Out FL.D) (F_asked_form : List FL.D → VH → Out FL.D) : FSt :=
  (sFor (eF F_forms_of_thing (aCons (eV 5) (aCons (eV 6) aNil))) (gT 3 (gCons (gN 7) (gCons (gN 8) (gCons (gN 9) gNil))))
  (b_all_forms_3 F_check_book F_forms_of_thing F_forms_of_deed F_who_form F_asked_form))
def b_all_forms_5 (F_check_book : List FL.D → VH → Out FL.D) (F_forms_of_thing : List FL.D → VH → Out FL.D) (F_forms_of_deed : List FL.D → VH → Out FL.D) (F_who_form : List FL.D → VH → Out FL.D) (F_asked_form : List FL.D → VH → Out FL.D) : FSt :=
  (sFor (eTup (aCons (eC (.int 0)) (aCons (eC (.int 1)) aNil))) (gN 6)
  (b_all_forms_4 F_check_book F_forms_of_thing F_forms_of_deed F_who_form F_asked_form))
def b_all_forms_6 (F_check_book : List FL.D → VH → Out FL.D) (F_forms_of_thing : List FL.D → VH → Out FL.D) (F_forms_of_deed : List FL.D → VH → Out FL.D) (F_who_form : List FL.D → VH → Out FL.D) (F_asked_form : List FL.D → VH → Out FL.D) : FSt :=
  (sEx (eM isL mAppend (eM isDc mSetd (eV 4) (aCons (eV 7) (aCons (eLst aNil) aNil))) (aCons (eTup (aCons (eC (.str [100, 101, 101, 100])) (aCons (eV 5) (aCons (eV 10) (aCons (eV 11) (aCons (eV 9) aNil)))))) aNil)))
def b_all_forms_7 (F_check_book : List FL.D → VH → Out FL.D) (F_forms_of_thing : List FL.D → VH → Out FL.D) (F_forms_of_deed : List FL.D → VH → Out FL.D) (F_who_form : List FL.D → VH → Out FL.D) (F_asked_form : List FL.D → VH → Out FL.D) : FSt :=
  (sFor (eF F_forms_of_deed (aCons (eV 5) aNil)) (gT 4 (gCons (gN 7) (gCons (gN 10) (gCons (gN 11) (gCons (gN 9) gNil)))))
  (b_all_forms_6 F_check_book F_forms_of_thing F_forms_of_deed F_who_form F_asked_form))
def b_all_forms_8 (F_check_book : List FL.D → VH → Out FL.D) (F_forms_of_thing : List FL.D → VH → Out FL.D) (F_forms_of_deed : List FL.D → VH → Out FL.D) (F_who_form : List FL.D → VH → Out FL.D) (F_asked_form : List FL.D → VH → Out FL.D) : FSt :=
  (sEx (eM isL mAppend (eM isDc mSetd (eV 4) (aCons (eF F_who_form (aCons (eV 12) (aCons (eV 8) (aCons (eV 9) aNil)))) (aCons (eLst aNil) aNil))) (aCons (eTup (aCons (eC (.str [119, 104, 111])) (aCons (eV 12) (aCons (eV 8) (aCons (eV 9) aNil))))) aNil)))
def b_all_forms_9 (F_check_book : List FL.D → VH → Out FL.D) (F_forms_of_thing : List FL.D → VH → Out FL.D) (F_forms_of_deed : List FL.D → VH → Out FL.D) (F_who_form : List FL.D → VH → Out FL.D) (F_asked_form : List FL.D → VH → Out FL.D) : FSt :=
  (sFor (eTup (aCons (eC (.bl false)) (aCons (eC (.bl true)) aNil))) (gN 9)
  (b_all_forms_8 F_check_book F_forms_of_thing F_forms_of_deed F_who_form F_asked_form))
def b_all_forms_10 (F_check_book : List FL.D → VH → Out FL.D) (F_forms_of_thing : List FL.D → VH → Out FL.D) (F_forms_of_deed : List FL.D → VH → Out FL.D) (F_who_form : List FL.D → VH → Out FL.D) (F_asked_form : List FL.D → VH → Out FL.D) : FSt :=
  (sFor (eC c_CASES) (gN 8)
  (b_all_forms_9 F_check_book F_forms_of_thing F_forms_of_deed F_who_form F_asked_form))
def b_all_forms_11 (F_check_book : List FL.D → VH → Out FL.D) (F_forms_of_thing : List FL.D → VH → Out FL.D) (F_forms_of_deed : List FL.D → VH → Out FL.D) (F_who_form : List FL.D → VH → Out FL.D) (F_asked_form : List FL.D → VH → Out FL.D) : FSt :=
  (sEx (eM isL mAppend (eM isDc mSetd (eV 4) (aCons (eF F_asked_form (aCons (eV 8) aNil)) (aCons (eLst aNil) aNil))) (aCons (eTup (aCons (eC (.str [97, 115, 107, 101, 100])) (aCons (eV 8) aNil))) aNil)))
def b_all_forms (F_check_book : List FL.D → VH → Out FL.D) (F_forms_of_thing : List FL.D → VH → Out FL.D) (F_forms_of_deed : List FL.D → VH → Out FL.D) (F_who_form : List FL.D → VH → Out FL.D) (F_asked_form : List FL.D → VH → Out FL.D) : FSt :=
  (sSeq (sEx (eF F_check_book (aCons (eV 0) aNil)))
  (sSeq (sAs (eV 0) (gT 3 (gCons (gN 1) (gCons (gN 2) (gCons (gN 3) gNil)))))
  (sSeq (sAs eDct (gN 4))
  (sSeq (sFor (eV 1) (gT 2 (gCons (gN 5) (gCons (gN 6) gNil)))
  (b_all_forms_2 F_check_book F_forms_of_thing F_forms_of_deed F_who_form F_asked_form))
  (sSeq (sFor (eV 3) (gN 5)
  (b_all_forms_5 F_check_book F_forms_of_thing F_forms_of_deed F_who_form F_asked_form))
  (sSeq (sFor (eV 2) (gN 5)
  (b_all_forms_7 F_check_book F_forms_of_thing F_forms_of_deed F_who_form F_asked_form))
  (sSeq (sFor (eC c_WHO) (gN 12)
  (b_all_forms_10 F_check_book F_forms_of_thing F_forms_of_deed F_who_form F_asked_form))
  (sSeq (sFor (eC c_CASES) (gN 8)
  (b_all_forms_11 F_check_book F_forms_of_thing F_forms_of_deed F_who_form F_asked_form))
  (sRet (eV 4))))))))))
theorem sc_all_forms : FnScope ["book", "things", "deeds", "marks", "table", "stem", "kind", "form", "case", "many", "time", "person", "who"] ["book"] (defScope s_all_forms) := ⟨rfl, rfl, rfl, by decide +kernel, rfl, by decide +kernel, by decide +kernel⟩
theorem x_all_forms {P : Program} {w : World} {K : PySem.W.Frag} {mg : Str → Option Value} {base : Heap} {g : Gc} {k : Nat} (C_CASES : Cst K mg "CASES" c_CASES) (C_WHO : Cst K mg "WHO" c_WHO) {F_check_book : List FL.D → VH → Out FL.D} {F_forms_of_thing : List FL.D → VH → Out FL.D} {F_forms_of_deed : List FL.D → VH → Out FL.D} {F_who_form : List FL.D → VH → Out FL.D} {F_asked_form : List FL.D → VH → Out FL.D} (d_check_book : Df P w K mg base g k "check_book" F_check_book) (d_forms_of_thing : Df P w K mg base g k "forms_of_thing" F_forms_of_thing) (d_forms_of_deed : Df P w K mg base g k "forms_of_deed" F_forms_of_deed) (d_who_form : Df P w K mg base g k "who_form" F_who_form) (d_asked_form : Df P w K mg base g k "asked_form" F_asked_form) {f : Addr} {fd : FuncData} (Fn : L2.Fun K "all_forms" "all_forms" s_all_forms f fd) (hm : mg "all_forms" = some (.ref f)) (hb : Binds K fd ["book"] []) :
    Df P w K mg base g (k + 1) "all_forms" (runF 1 13 (b_all_forms F_check_book F_forms_of_thing F_forms_of_deed F_who_form F_asked_form)) := by
  refine Df.mkD Fn sc_all_forms hm hb fun cdv A outer s H E hr => ?_
  have hN := sc_all_forms.nd
  exact (fss_cons (fs_ex (fe_F d_check_book tkF hr (fa_cons (fe_var 0) fa_nil) (Nat.le_refl _)))
  (fss_cons (fs_as (own := [1, 2, 3]) (fe_var 0) (fg_tup rfl (fgs_cons (fg_name hN rfl (by first | exact .inl rfl | exact .inr rfl)) (fgs_cons (fg_name hN rfl (by first | exact .inl rfl | exact .inr rfl)) (fgs_cons (fg_name hN rfl (by first | exact .inl rfl | exact .inr rfl)) fgs_nil)))))
  (fss_cons (fs_set (i := 4) hN rfl (by first | exact .inl rfl | exact .inr rfl) fe_dct)
  (fss_cons (fs_for (own := [5, 6]) poF rfl (fe_var 1) (fg_tup rfl (fgs_cons (fg_name hN rfl (by first | exact .inl rfl | exact .inr rfl)) (fgs_cons (fg_name hN rfl (by first | exact .inl rfl | exact .inr rfl)) fgs_nil)))
  (fss_one (fs_for (own := [7, 8, 9]) poF rfl (fe_F d_forms_of_thing tkF hr (fa_cons (fe_var 5) (fa_cons (fe_var 6) fa_nil)) (Nat.le_refl _)) (fg_tup rfl (fgs_cons (fg_name hN rfl (by first | exact .inl rfl | exact .inr rfl)) (fgs_cons (fg_name hN rfl (by first | exact .inl rfl | exact .inr rfl)) (fgs_cons (fg_name hN rfl (by first | exact .inl rfl | exact .inr rfl)) fgs_nil))))
  (fss_one (fs_ex (fe_M PySem.F.plainAttrs_list PySem.F.slot_list_append PySem.F.type_list_append mr_append ty_list (fe_M PySem.F.plainAttrs_dict PySem.F.slot_dict_setdefault PySem.F.type_dict_setdefault mr_setd ty_dct (fe_var 4) (fa_cons (fe_var 7) (fa_cons (fe_lst fa_nil) fa_nil))) (fa_cons (fe_tup (fa_cons fe_str (fa_cons (fe_var 5) (fa_cons (fe_var 6) (fa_cons (fe_var 8) (fa_cons (fe_var 9) fa_nil)))))) fa_nil)))))))
  (fss_cons (fs_for (own := [5]) poF rfl (fe_var 3) (fg_name hN rfl (by first | exact .inl rfl | exact .inr rfl))
  (fss_one (fs_for (own := [6]) poF rfl (fe_tup (fa_cons fe_int (fa_cons fe_int fa_nil))) (fg_name hN rfl (by first | exact .inl rfl | exact .inr rfl))
  (fss_one (fs_for (own := [7, 8, 9]) poF rfl (fe_F d_forms_of_thing tkF hr (fa_cons (fe_var 5) (fa_cons (fe_var 6) fa_nil)) (Nat.le_refl _)) (fg_tup rfl (fgs_cons (fg_name hN rfl (by first | exact .inl rfl | exact .inr rfl)) (fgs_cons (fg_name hN rfl (by first | exact .inl rfl | exact .inr rfl)) (fgs_cons (fg_name hN rfl (by first | exact .inl rfl | exact .inr rfl)) fgs_nil))))
  (fss_one (fs_ex (fe_M PySem.F.plainAttrs_list PySem.F.slot_list_append PySem.F.type_list_append mr_append ty_list (fe_M PySem.F.plainAttrs_dict PySem.F.slot_dict_setdefault PySem.F.type_dict_setdefault mr_setd ty_dct (fe_var 4) (fa_cons (fe_var 7) (fa_cons (fe_lst fa_nil) fa_nil))) (fa_cons (fe_tup (fa_cons fe_str (fa_cons (fe_var 5) (fa_cons (fe_var 6) (fa_cons (fe_var 8) (fa_cons (fe_var 9) fa_nil)))))) fa_nil)))))))))
  (fss_cons (fs_for (own := [5]) poF rfl (fe_var 2) (fg_name hN rfl (by first | exact .inl rfl | exact .inr rfl))
  (fss_one (fs_for (own := [7, 10, 11, 9]) poF rfl (fe_F d_forms_of_deed tkF hr (fa_cons (fe_var 5) fa_nil) (Nat.le_refl _)) (fg_tup rfl (fgs_cons (fg_name hN rfl (by first | exact .inl rfl | exact .inr rfl)) (fgs_cons (fg_name hN rfl (by first | exact .inl rfl | exact .inr rfl)) (fgs_cons (fg_name hN rfl (by first | exact .inl rfl | exact .inr rfl)) (fgs_cons (fg_name hN rfl (by first | exact .inl rfl | exact .inr rfl)) fgs_nil)))))
  (fss_one (fs_ex (fe_M PySem.F.plainAttrs_list PySem.F.slot_list_append PySem.F.type_list_append mr_append ty_list (fe_M PySem.F.plainAttrs_dict PySem.F.slot_dict_setdefault PySem.F.type_dict_setdefault mr_setd ty_dct (fe_var 4) (fa_cons (fe_var 7) (fa_cons (fe_lst fa_nil) fa_nil))) (fa_cons (fe_tup (fa_cons fe_str (fa_cons (fe_var 5) (fa_cons (fe_var 10) (fa_cons (fe_var 11) (fa_cons (fe_var 9) fa_nil)))))) fa_nil)))))))
  (fss_cons (fs_for (own := [12]) poF rfl (fe_cst C_WHO) (fg_name hN rfl (by first | exact .inl rfl | exact .inr rfl))
  (fss_one (fs_for (own := [8]) poF rfl (fe_cst C_CASES) (fg_name hN rfl (by first | exact .inl rfl | exact .inr rfl))
  (fss_one (fs_for (own := [9]) poF rfl (fe_tup (fa_cons fe_bl (fa_cons fe_bl fa_nil))) (fg_name hN rfl (by first | exact .inl rfl | exact .inr rfl))
  (fss_one (fs_ex (fe_M PySem.F.plainAttrs_list PySem.F.slot_list_append PySem.F.type_list_append mr_append ty_list (fe_M PySem.F.plainAttrs_dict PySem.F.slot_dict_setdefault PySem.F.type_dict_setdefault mr_setd ty_dct (fe_var 4) (fa_cons (fe_F d_who_form tkF hr (fa_cons (fe_var 12) (fa_cons (fe_var 8) (fa_cons (fe_var 9) fa_nil))) (Nat.le_refl _)) (fa_cons (fe_lst fa_nil) fa_nil))) (fa_cons (fe_tup (fa_cons fe_str (fa_cons (fe_var 12) (fa_cons (fe_var 8) (fa_cons (fe_var 9) fa_nil))))) fa_nil)))))))))
  (fss_cons (fs_for (own := [8]) poF rfl (fe_cst C_CASES) (fg_name hN rfl (by first | exact .inl rfl | exact .inr rfl))
  (fss_one (fs_ex (fe_M PySem.F.plainAttrs_list PySem.F.slot_list_append PySem.F.type_list_append mr_append ty_list (fe_M PySem.F.plainAttrs_dict PySem.F.slot_dict_setdefault PySem.F.type_dict_setdefault mr_setd ty_dct (fe_var 4) (fa_cons (fe_F d_asked_form tkF hr (fa_cons (fe_var 8) fa_nil) (Nat.le_refl _)) (fa_cons (fe_lst fa_nil) fa_nil))) (fa_cons (fe_tup (fa_cons fe_str (fa_cons (fe_var 8) fa_nil))) fa_nil)))))
  (fss_one (fs_ret (fe_var 4)))))))))))
abbrev s_doubtful : Stmt := top 45
abbrev s_without : Stmt := top 48
def b_without : FSt :=
  (sRet (eB bTup (aCons (FL.eLc (eV 0) (gN 2) (tV (e2 cNe (eV 2) (eV 1))) (eV 2) [2]) aNil)))
theorem sc_without : FnScope ["row", "one", "other"] ["row", "one"] (defScope s_without) := ⟨rfl, rfl, rfl, by decide +kernel, rfl, by decide +kernel, by decide +kernel⟩
theorem x_without {P : Program} {w : World} {K : PySem.W.Frag} {mg : Str → Option Value} {base : Heap} {g : Gc} {k : Nat} (n_tuple : mg "tuple" = none) {f : Addr} {fd : FuncData} (Fn : L2.Fun K "without" "without" s_without f fd) (hm : mg "without" = some (.ref f)) (hb : Binds K fd ["row", "one"] []) :
    Df P w K mg base g (k + 1) "without" (runF 2 3 (b_without)) := by
  refine Df.mkD Fn sc_without hm hb fun cdv A outer s H E hr => ?_
  have hN := sc_without.nd
  exact (fss_one (fs_ret (fe_BT cr_tup n_tuple (fa_cons (fe_lc rfl hN (fe_var 0) (LcP.mk (own := [("other", 2)]) (blk_by (N := ["row", "one", "other"]) (sc := defScope s_without) (by decide +kernel)) (fun s H C cl fp => (fg_name hN rfl (by first | exact .inl rfl | exact .inr rfl))) (fun s H C cl fp => (fts_one (ft_cmp (or_ne (u64 hr)) (fe_var 2) (fe_var 1) (by rfl)))) (fun s H C cl fp => (fe_var 2)))) fa_nil))))
abbrev s_repr_of : Stmt := top 53
abbrev s_whole : Stmt := top 54
abbrev s_read_by : Stmt := top 52
def b_read_by_1 (F_whole : List FL.D → VH → Out FL.D) (F_repr_of : List FL.D → VH → Out FL.D) : FSt :=
  (sIf (tAnd (tV (e2 cNin (eV 4) (eV 0))) (tV (e2 cNin (eV 4) (eTup (aCons (eC (.str [110, 101])) (aCons (eC (.str [107, 117])) aNil)))))) (sRaiseP 2 (eV 3)) sNil)
def b_read_by_2 (F_whole : List FL.D → VH → Out FL.D) (F_repr_of : List FL.D → VH → Out FL.D) : FSt :=
  (sSub setN (eC (.bl true)) (eV 7) (e2 oAdd (e2 oAdd (eSl (eV 8) pNo (pSo (eC (.int 3)))) (eTup (aCons (eV 5) aNil))) (eSl (eV 8) (pSo (eC (.int 3))) pNo)))
def b_read_by (F_whole : List FL.D → VH → Out FL.D) (F_repr_of : List FL.D → VH → Out FL.D) : FSt :=
  (sSeq (sIf (tOr (tNot (tV (eB bIsi (aCons (eV 1) (aCons (eC (.ty "str")) aNil))))) (tV (e2 cGt (eB bLen (aCons (eV 1) aNil)) (eC (.int 300))))) (sRaiseP 2 (eC (.int 0))) sNil)
  (sSeq (sAs (eM isS mSplit (eV 1) (aCons (eC (.str [32])) aNil)) (gN 2))
  (sSeq (sForE (aCons (eV 2) aNil) (gT 2 (gCons (gN 3) (gCons (gN 4) gNil)))
  (b_read_by_1 F_whole F_repr_of))
  (sSeq (sIf (tV (e2 cGt (eB bLen (aCons (eV 2) aNil)) (eC (.int 14)))) (sRaise 4) sNil)
  (sSeq (sAs (e2 cEq (e2 oIx (eV 2) (eC (.int 0))) (eC (.str [107, 117]))) (gN 5))
  (sSeq (sAs (eIf (tTr (eV 5)) (eSl (eV 2) (pSo (eC (.int 1))) pNo) (eV 2)) (gN 6))
  (sSeq (sAs eDct (gN 7))
  (sSeq (sFor (eF F_whole (aCons (eV 0) (aCons (eV 6) (aCons (eC (.int 0)) (aCons eDct aNil))))) (gN 8)
  (b_read_by_2 F_whole F_repr_of))
  (sSeq (sIf (tV (e2 cEqN (eV 7) eDct)) (sRaiseP 2 (eB bLen (aCons (eV 2) aNil))) sNil)
  (sRet (eB bTup (aCons (eSortKN (eV 7) [9] 9 (eF F_repr_of (aCons (eV 9) aNil))) aNil))))))))))))
theorem sc_read_by : FnScope ["table", "text", "words", "k", "word", "asks", "rows", "found", "sentence", "one"] ["table", "text"] (defScope s_read_by) := ⟨rfl, rfl, rfl, by decide +kernel, rfl, by decide +kernel, by decide +kernel⟩
theorem x_read_by {P : Program} {w : World} {K : PySem.W.Frag} {mg : Str → Option Value} {base : Heap} {g : Gc} {k : Nat} (n_isinstance : mg "isinstance" = none) (n_str : mg "str" = none) (n_len : mg "len" = none) (q_BadSentence : ErP P w K mg base g 1 2 "BadSentence") (hk2 : 2 ≤ k) (n_enumerate : mg "enumerate" = none) (e_TooLarge : Er K mg g 4 "TooLarge") (hw : g.hw = fun k => NestedKey.hash w k) (n_tuple : mg "tuple" = none) (n_sorted : mg "sorted" = none) {F_whole : List FL.D → VH → Out FL.D} {F_repr_of : List FL.D → VH → Out FL.D} (d_whole : Df P w K mg base g k "whole" F_whole) (d_repr_of : Df P w K mg base g k "repr_of" F_repr_of) {cs : List (Addr × Addr)} (KD : KeyD K mg g cs "read_by" s_read_by ["table", "text"] (PySem.Str.ofString "read_by.<locals>.<lambda>")) (hTB : ∀ p ∈ cs, LamX.TabB base mg p.1 p.2) :
    Df P w K mg base g (k + 4) "read_by" (runF 2 10 (b_read_by F_whole F_repr_of)) := by
  refine KD.df hTB sc_read_by fun f c Pt A outer s H E TB hmT hu hr3 => ?_
  have hN := sc_read_by.nd
  have hr : Room k _ := hr3.mono (by omega)
  have hr2 : Room (k + 2) _ := hr3.mono (by omega)
  exact (fss_cons (fs_if (ft_w (fw_or (ft_not (ft_val (fe_B cr_isi n_isinstance (fa_cons (fe_var 1) (fa_cons (fe_ty n_str) fa_nil))))) (fw_or1 (ft_cmp or_gt (fe_B cr_len n_len (fa_cons (fe_var 1) fa_nil)) fe_int (by rfl))))) (fss_one (fs_raiseP q_BadSentence rfl tkF (hr.mono hk2) fe_int)) fss_nil)
  (fss_cons (fs_set (i := 2) hN rfl (by first | exact .inl rfl | exact .inr rfl) (fe_M PySem.F.plainAttrs_str PySem.F.slot_str_split PySem.F.type_str_split mr_split ty_str (fe_var 1) (fa_cons fe_str fa_nil)))
  (fss_cons (fs_forE (own := [3, 4]) poF rfl n_enumerate (fa_cons (fe_var 2) fa_nil) (fg_tup rfl (fgs_cons (fg_name hN rfl (by first | exact .inl rfl | exact .inr rfl)) (fgs_cons (fg_name hN rfl (by first | exact .inl rfl | exact .inr rfl)) fgs_nil)))
  (fss_one (fs_if (ft_w (fw_and (ft_cmp (or_nin (u65 hr)) (fe_var 4) (fe_var 0) (by rfl)) (fw_and1 (ft_cmp (or_nin (u65 hr)) (fe_var 4) (fe_tup (fa_cons fe_str (fa_cons fe_str fa_nil))) (by rfl))))) (fss_one (fs_raiseP q_BadSentence rfl tkF (hr.mono hk2) (fe_var 3))) fss_nil)))
  (fss_cons (fs_if (ft_cmp or_gt (fe_B cr_len n_len (fa_cons (fe_var 2) fa_nil)) fe_int (by rfl)) (fss_one (fs_raise e_TooLarge rfl tkF)) fss_nil)
  (fss_cons (fs_set (i := 5) hN rfl (by first | exact .inl rfl | exact .inr rfl) (fe_cmp (or_eq (u64 hr)) (fe_ix (u1 hr) (fe_var 2) fe_int) fe_str (by rfl)))
  (fss_cons (fs_set (i := 6) hN rfl (by first | exact .inl rfl | exact .inr rfl) (fe_if (ft_tru (fe_var 5)) (fe_sl (fe_var 2) (fo_some fe_int) fo_none) (fe_var 2)))
  (fss_cons (fs_set (i := 7) hN rfl (by first | exact .inl rfl | exact .inr rfl) fe_dct)
  (fss_cons (fs_for (own := [8]) poF rfl (fe_F d_whole tkF hr (fa_cons (fe_var 0) (fa_cons (fe_var 6) (fa_cons fe_int (fa_cons fe_dct fa_nil)))) (Nat.le_refl _)) (fg_name hN rfl (by first | exact .inl rfl | exact .inr rfl))
  (fss_one (fs_sub (ps_setN (u65 hr) hw) fe_bl (fe_var 7) (fe_op or_add (fe_op or_add (fe_sl (fe_var 8) fo_none (fo_some fe_int)) (fe_tup (fa_cons (fe_var 5) fa_nil))) (fe_sl (fe_var 8) (fo_some fe_int) fo_none)))))
  (fss_cons (fs_if (ft_cmp (or_eqN (u64 hr) hw) (fe_var 7) fe_dct (by rfl)) (fss_one (fs_raiseP q_BadSentence rfl tkF (hr.mono hk2) (fe_B cr_len n_len (fa_cons (fe_var 2) fa_nil)))) fss_nil)
  (fss_one (fs_ret (fe_BT cr_tup n_tuple (fa_cons (fe_sortKN hw n_sorted TB rfl hmT hu hN hr3 (fe_var 7) (LamF.mk (own := [("one", 9)]) (i := 9) (clo_by (N := ["table", "text", "words", "k", "word", "asks", "rows", "found", "sentence", "one"]) (sc := defScope s_read_by) (by decide +kernel)) rfl ⟨"one", rfl, rfl, fun _ _ _ _ _ _ => rfl⟩ (fun A s H L f c hr => (fe_F d_repr_of LamX.takes0 hr (fa_cons (fe_var 9) fa_nil) (Nat.le_refl _)))) rfl) fa_nil)))))))))))))
abbrev s_read : Stmt := top 51
def b_read (F_read_by : List FL.D → VH → Out FL.D) (F_all_forms : List FL.D → VH → Out FL.D) : FSt :=
  (sRet (eF F_read_by (aCons (eF F_all_forms (aCons (eV 0) aNil)) (aCons (eV 1) aNil))))
theorem sc_read : FnScope ["book", "text"] ["book", "text"] (defScope s_read) := ⟨rfl, rfl, rfl, by decide +kernel, rfl, by decide +kernel, by decide +kernel⟩
theorem x_read {P : Program} {w : World} {K : PySem.W.Frag} {mg : Str → Option Value} {base : Heap} {g : Gc} {k : Nat} {F_read_by : List FL.D → VH → Out FL.D} {F_all_forms : List FL.D → VH → Out FL.D} (d_read_by : Df P w K mg base g k "read_by" F_read_by) (d_all_forms : Df P w K mg base g k "all_forms" F_all_forms) {f : Addr} {fd : FuncData} (Fn : L2.Fun K "read" "read" s_read f fd) (hm : mg "read" = some (.ref f)) (hb : Binds K fd ["book", "text"] []) :
    Df P w K mg base g (k + 1) "read" (runF 2 2 (b_read F_read_by F_all_forms)) := by
  refine Df.mkD Fn sc_read hm hb fun cdv A outer s H E hr => ?_
  have hN := sc_read.nd
  exact (fss_one (fs_ret (fe_F d_read_by tkF hr (fa_cons (fe_F d_all_forms tkF hr (fa_cons (fe_var 0) fa_nil) (Nat.le_refl _)) (fa_cons (fe_var 1) fa_nil)) (Nat.le_refl _))))
abbrev s_putting : Stmt := top 62
abbrev s_put : Stmt := top 61
def b_put (F_putting : List FL.D → VH → Out FL.D) : FSt :=
  (sSeq (sIf (tV (e2 cGt (eB bLen (aCons (eV 0) aNil)) (eC (.int 7)))) (sRaise 4) sNil)
  (sSeq (sAs (eF F_putting (aCons (eB bList (aCons (eV 0) aNil)) (aCons (eV 1) (aCons (eTup aNil) aNil)))) (gN 2))
  (sSeq (sIf (tV (e2 cIs (eV 2) (eC .non))) (sRaise 3) sNil)
  (sRet (eV 2)))))
theorem sc_put : FnScope ["words", "feet", "found"] ["words", "feet"] (defScope s_put) := ⟨rfl, rfl, rfl, by decide +kernel, rfl, by decide +kernel, by decide +kernel⟩
theorem x_put {P : Program} {w : World} {K : PySem.W.Frag} {mg : Str → Option Value} {base : Heap} {g : Gc} {k : Nat} (n_len : mg "len" = none) (e_TooLarge : Er K mg g 4 "TooLarge") (n_list : mg "list" = none) (e_NoWay : Er K mg g 3 "NoWay") {F_putting : List FL.D → VH → Out FL.D} (d_putting : Df P w K mg base g k "putting" F_putting) {f : Addr} {fd : FuncData} (Fn : L2.Fun K "put" "put" s_put f fd) (hm : mg "put" = some (.ref f)) (hb : Binds K fd ["words", "feet"] []) :
    Df P w K mg base g (k + 1) "put" (runF 2 3 (b_put F_putting)) := by
  refine Df.mkD Fn sc_put hm hb fun cdv A outer s H E hr => ?_
  have hN := sc_put.nd
  exact (fss_cons (fs_if (ft_cmp or_gt (fe_B cr_len n_len (fa_cons (fe_var 0) fa_nil)) fe_int (by rfl)) (fss_one (fs_raise e_TooLarge rfl tkF)) fss_nil)
  (fss_cons (fs_set (i := 2) hN rfl (by first | exact .inl rfl | exact .inr rfl) (fe_F d_putting tkF hr (fa_cons (fe_BT cr_list n_list (fa_cons (fe_var 0) fa_nil)) (fa_cons (fe_var 1) (fa_cons (fe_tup fa_nil) fa_nil))) (Nat.le_refl _)))
  (fss_cons (fs_if (ft_cmp or_is (fe_var 2) fe_non (by rfl)) (fss_one (fs_raise e_NoWay rfl tkF)) fss_nil)
  (fss_one (fs_ret (fe_var 2))))))
abbrev s_Desk___init__ : Stmt := inClass (top 47) 0
def b_Desk___init__ (F_check_book : List FL.D → VH → Out FL.D) : FSt :=
  (sSeq (sEx (eF F_check_book (aCons (eV 1) aNil)))
  (sSeq (FL.sFld 0 "book" (eV 0) (eV 1))
  (sSeq (FL.sFld 0 "lets" (eV 0) (eV 2))
  (sSeq (FL.sFld 0 "deeds" (eV 0) (eLst aNil))
  (FL.sFld 0 "undone" (eV 0) (eLst aNil))))))
theorem sc_Desk___init__ : FnScope ["self", "book", "lets"] ["self", "book", "lets"] (defScope s_Desk___init__) := ⟨rfl, rfl, rfl, by decide +kernel, rfl, by decide +kernel, by decide +kernel⟩
theorem x_Desk___init__ {P : Program} {w : World} {K : PySem.W.Frag} {mg : Str → Option Value} {base : Heap} {g : Gc} {k : Nat} (A_Desk_book : FldA K g 0 "book") (A_Desk_lets : FldA K g 0 "lets") (A_Desk_deeds : FldA K g 0 "deeds") (A_Desk_undone : FldA K g 0 "undone") {F_check_book : List FL.D → VH → Out FL.D} (d_check_book : Df P w K mg base g k "check_book" F_check_book) (MF : MethF K g 0 "__init__" "Desk.__init__" s_Desk___init__ ["self", "book", "lets"]) :
    Mf P w K mg base g (k + 1) 0 "__init__" (runF 3 3 (b_Desk___init__ F_check_book)) := by
  refine Mf.mkD MF sc_Desk___init__ fun f cdv A outer s H E hr => ?_
  have hN := sc_Desk___init__.nd
  exact (fss_cons (fs_ex (fe_F d_check_book tkF hr (fa_cons (fe_var 1) fa_nil) (Nat.le_refl _)))
  (fss_cons (fs_fld A_Desk_book (fe_var 0) (fe_var 1))
  (fss_cons (fs_fld A_Desk_lets (fe_var 0) (fe_var 2))
  (fss_cons (fs_fld A_Desk_deeds (fe_var 0) (fe_lst fa_nil))
  (fss_one (fs_fld A_Desk_undone (fe_var 0) (fe_lst fa_nil)))))))
abbrev s_Desk_note : Stmt := inClass (top 47) 1
abbrev s_Desk_take : Stmt := inClass (top 47) 5
def b_Desk_take (F_without : List FL.D → VH → Out FL.D) (F_Desk_note : List FL.D → VH → Out FL.D) : FSt :=
  (sSeq (sAs (e1 (oFld 0 "book") (eV 0)) (gT 3 (gCons (gN 2) (gCons (gN 3) (gCons (gN 4) gNil)))))
  (sSeq (sAs (eTup (aCons (eB bTup (aCons (FL.eLc (eV 2) (gN 6) (tV (e2 cNe (e2 oIx (eV 6) (eC (.int 0))) (eV 1))) (eV 6) [6]) aNil)) (aCons (eF F_without (aCons (eV 3) (aCons (eV 1) aNil))) (aCons (eF F_without (aCons (eV 4) (aCons (eV 1) aNil))) aNil)))) (gN 5))
  (sSeq (sIf (tV (e2 cEq (eV 5) (e1 (oFld 0 "book") (eV 0)))) (sRaise 5) sNil)
  (sEx (eMeth 0 "note" F_Desk_note (eV 0) (aCons (eV 5) aNil))))))
theorem sc_Desk_take : FnScope ["self", "stem", "things", "deeds", "marks", "after", "one"] ["self", "stem"] (defScope s_Desk_take) := ⟨rfl, rfl, rfl, by decide +kernel, rfl, by decide +kernel, by decide +kernel⟩
theorem x_Desk_take {P : Program} {w : World} {K : PySem.W.Frag} {mg : Str → Option Value} {base : Heap} {g : Gc} {k : Nat} (A_Desk_book : FldA K g 0 "book") (n_tuple : mg "tuple" = none) (e_BadDeed : Er K mg g 5 "BadDeed") {F_without : List FL.D → VH → Out FL.D} {F_Desk_note : List FL.D → VH → Out FL.D} (d_without : Df P w K mg base g k "without" F_without) (d_Desk_note : Mf P w K mg base g k 0 "note" F_Desk_note) (MF : MethF K g 0 "take" "Desk.take" s_Desk_take ["self", "stem"]) :
    Mf P w K mg base g (k + 1) 0 "take" (runF 2 7 (b_Desk_take F_without F_Desk_note)) := by
  refine Mf.mkD MF sc_Desk_take fun f cdv A outer s H E hr => ?_
  have hN := sc_Desk_take.nd
  exact (fss_cons (fs_as (own := [2, 3, 4]) (fe_fld A_Desk_book (fe_var 0)) (fg_tup rfl (fgs_cons (fg_name hN rfl (by first | exact .inl rfl | exact .inr rfl)) (fgs_cons (fg_name hN rfl (by first | exact .inl rfl | exact .inr rfl)) (fgs_cons (fg_name hN rfl (by first | exact .inl rfl | exact .inr rfl)) fgs_nil)))))
  (fss_cons (fs_set (i := 5) hN rfl (by first | exact .inl rfl | exact .inr rfl) (fe_tup (fa_cons (fe_BT cr_tup n_tuple (fa_cons (fe_lc rfl hN (fe_var 2) (LcP.mk (own := [("one", 6)]) (blk_by (N := ["self", "stem", "things", "deeds", "marks", "after", "one"]) (sc := defScope s_Desk_take) (by decide +kernel)) (fun s H C cl fp => (fg_name hN rfl (by first | exact .inl rfl | exact .inr rfl))) (fun s H C cl fp => (fts_one (ft_cmp (or_ne (u64 hr)) (fe_ix (u1 hr) (fe_var 6) fe_int) (fe_var 1) (by rfl)))) (fun s H C cl fp => (fe_var 6)))) fa_nil)) (fa_cons (fe_F d_without tkF hr (fa_cons (fe_var 3) (fa_cons (fe_var 1) fa_nil)) (Nat.le_refl _)) (fa_cons (fe_F d_without tkF hr (fa_cons (fe_var 4) (fa_cons (fe_var 1) fa_nil)) (Nat.le_refl _)) fa_nil)))))
  (fss_cons (fs_if (ft_cmp (or_eq (u64 hr)) (fe_var 5) (fe_fld A_Desk_book (fe_var 0)) (by rfl)) (fss_one (fs_raise e_BadDeed rfl tkF)) fss_nil)
  (fss_one (fs_ex (fe_meth d_Desk_note tkF hr (fe_var 0) (fa_cons (fe_var 5) fa_nil) (Nat.le_refl _)))))))
abbrev s_law_dice : Stmt := top 64
def b_law_dice : FSt :=
  (sSeq (sIf (tV (eCh cLt cLt (e2 oSub (eC (.int 0)) (eC (.int 10))) (eV 0) (eC (.int 10)))) (sRet (eLst (aCons (eB bAbs (aCons (eV 0) aNil)) (aCons (eC (.int 0)) (aCons (eC (.int 2)) aNil))))) sNil)
  (sRet (eLst (aCons (eV 0) (aCons (e2 oAdd (eC (.int 1)) (e2 oMod (eB bInt (aCons (eV 0) aNil)) (eC (.int 1009)))) (aCons (eB bInt (aCons (e2 cGe (eV 0) (e2 oPow (eC (.int 10)) (eC (.int 18)))) aNil)) aNil))))))
theorem sc_law_dice : FnScope ["cell"] ["cell"] (defScope s_law_dice) := ⟨rfl, rfl, rfl, by decide +kernel, rfl, by decide +kernel, by decide +kernel⟩
theorem x_law_dice {P : Program} {w : World} {K : PySem.W.Frag} {mg : Str → Option Value} {base : Heap} {g : Gc} {k : Nat} (n_abs : mg "abs" = none) (n_int : mg "int" = none) {f : Addr} {fd : FuncData} (Fn : L2.Fun K "_law_dice" "_law_dice" s_law_dice f fd) (hm : mg "_law_dice" = some (.ref f)) (hb : Binds K fd ["cell"] []) :
    Df P w K mg base g (k + 1) "_law_dice" (runF 1 1 (b_law_dice)) := by
  refine Df.mkD Fn sc_law_dice hm hb fun cdv A outer s H E hr => ?_
  have hN := sc_law_dice.nd
  exact (fss_cons (fs_if (ft_ch or_lt or_lt (fe_op or_sub fe_int fe_int) (fe_var 0) fe_int) (fss_one (fs_ret (fe_lst (fa_cons (fe_B cr_abs n_abs (fa_cons (fe_var 0) fa_nil)) (fa_cons fe_int (fa_cons fe_int fa_nil)))))) fss_nil)
  (fss_one (fs_ret (fe_lst (fa_cons (fe_var 0) (fa_cons (fe_op or_add fe_int (fe_op or_mod (fe_BT cr_int n_int (fa_cons (fe_var 0) fa_nil)) fe_int)) (fa_cons (fe_BT cr_int n_int (fa_cons (fe_cmp or_ge (fe_var 0) (fe_op or_pow fe_int fe_int) (by rfl)) fa_nil)) fa_nil)))))))
abbrev s_law_roll : Stmt := top 65
def b_law_roll : FSt :=
  (sSeq (sIf (tOr (tV (e2 cEq (e2 oIx (eV 0) (eC (.int 2))) (eC (.int 2)))) (tAnd (tV (e2 cEq (e2 oIx (eV 0) (eC (.int 2))) (eC (.int 1)))) (tV (e2 cGt (e2 oIx (eV 0) (eC (.int 0))) (eC (.int 0)))))) (sSeq (sAs (e2 oMod (eB bInt (aCons (e2 oIx (eV 0) (eC (.int 0))) aNil)) (eV 1)) (gN 2))
  (sSeq (sSub setL (e2 oFdv (e2 oIx (eV 0) (eC (.int 0))) (eV 1)) (eV 0) (eC (.int 0)))
  (sRet (eV 2)))) sNil)
  (sSeq (sSub setL (eC (.int 0)) (eV 0) (eC (.int 2)))
  (sSeq (sSub setL (e2 oMod (eB bInt (aCons (e2 oAdd (e2 oAdd (e2 oMul (e2 oIx (eV 0) (eC (.int 0))) (eC (.int 48271))) (e2 oMul (e2 oIx (eV 0) (eC (.int 1))) (eC (.int 69621)))) (eC (.int 11))) aNil)) (eC (.int 2147483647))) (eV 0) (eC (.int 0)))
  (sSeq (sSub setL (e2 oAdd (e2 oIx (eV 0) (eC (.int 1))) (eC (.int 1))) (eV 0) (eC (.int 1)))
  (sRet (e2 oMod (eB bInt (aCons (e2 oAdd (e2 oFdv (e2 oIx (eV 0) (eC (.int 0))) (eC (.int 7))) (e2 oIx (eV 0) (eC (.int 0)))) aNil)) (eV 1)))))))
theorem sc_law_roll : FnScope ["dice", "many", "found"] ["dice", "many"] (defScope s_law_roll) := ⟨rfl, rfl, rfl, by decide +kernel, rfl, by decide +kernel, by decide +kernel⟩
theorem x_law_roll {P : Program} {w : World} {K : PySem.W.Frag} {mg : Str → Option Value} {base : Heap} {g : Gc} {k : Nat} (n_int : mg "int" = none) {f : Addr} {fd : FuncData} (Fn : L2.Fun K "_law_roll" "_law_roll" s_law_roll f fd) (hm : mg "_law_roll" = some (.ref f)) (hb : Binds K fd ["dice", "many"] []) :
    Df P w K mg base g (k + 1) "_law_roll" (runF 2 3 (b_law_roll)) := by
  refine Df.mkD Fn sc_law_roll hm hb fun cdv A outer s H E hr => ?_
  have hN := sc_law_roll.nd
  exact (fss_cons (fs_if (ft_w (fw_or (ft_cmp (or_eq (u64 hr)) (fe_ix (u1 hr) (fe_var 0) fe_int) fe_int (by rfl)) (fw_or1 (ft_w (fw_and (ft_cmp (or_eq (u64 hr)) (fe_ix (u1 hr) (fe_var 0) fe_int) fe_int (by rfl)) (fw_and1 (ft_cmp or_gt (fe_ix (u1 hr) (fe_var 0) fe_int) fe_int (by rfl)))))))) (fss_cons (fs_set (i := 2) hN rfl (by first | exact .inl rfl | exact .inr rfl) (fe_op or_mod (fe_BT cr_int n_int (fa_cons (fe_ix (u1 hr) (fe_var 0) fe_int) fa_nil)) (fe_var 1)))
  (fss_cons (fs_sub ps_setL (fe_op or_fdv (fe_ix (u1 hr) (fe_var 0) fe_int) (fe_var 1)) (fe_var 0) fe_int)
  (fss_one (fs_ret (fe_var 2))))) fss_nil)
  (fss_cons (fs_sub ps_setL fe_int (fe_var 0) fe_int)
  (fss_cons (fs_sub ps_setL (fe_op or_mod (fe_BT cr_int n_int (fa_cons (fe_op or_add (fe_op or_add (fe_op or_mul (fe_ix (u1 hr) (fe_var 0) fe_int) fe_int) (fe_op or_mul (fe_ix (u1 hr) (fe_var 0) fe_int) fe_int)) fe_int) fa_nil)) fe_int) (fe_var 0) fe_int)
  (fss_cons (fs_sub ps_setL (fe_op or_add (fe_ix (u1 hr) (fe_var 0) fe_int) fe_int) (fe_var 0) fe_int)
  (fss_one (fs_ret (fe_op or_mod (fe_BT cr_int n_int (fa_cons (fe_op or_add (fe_op or_fdv (fe_ix (u1 hr) (fe_var 0) fe_int) fe_int) (fe_ix (u1 hr) (fe_var 0) fe_int)) fa_nil)) (fe_var 1))))))))
abbrev s_law_rounds : Stmt := top 66
def b_law_rounds (F_law_dice : List FL.D → VH → Out FL.D) : FSt :=
  (sSeq (sAs (eSl (eV 0) pNo (pSo (eV 1))) (gN 2))
  (sSeq (sIf (tV (e2 cEq (eV 2) (eFl aNil))) (sAs (eFl (aCons (eC (.int 0)) aNil)) (gN 2)) sNil)
  (sRet (FL.eLc (eV 2) (gN 3) tYes (eF F_law_dice (aCons (eV 3) aNil)) [3]))))
theorem sc_law_rounds : FnScope ["script", "most", "cells", "cell"] ["script", "most"] (defScope s_law_rounds) := ⟨rfl, rfl, rfl, by decide +kernel, rfl, by decide +kernel, by decide +kernel⟩
theorem x_law_rounds {P : Program} {w : World} {K : PySem.W.Frag} {mg : Str → Option Value} {base : Heap} {g : Gc} {k : Nat} {F_law_dice : List FL.D → VH → Out FL.D} (d_law_dice : Df P w K mg base g k "_law_dice" F_law_dice) {f : Addr} {fd : FuncData} (Fn : L2.Fun K "_law_rounds" "_law_rounds" s_law_rounds f fd) (hm : mg "_law_rounds" = some (.ref f)) (hb : Binds K fd ["script", "most"] []) :
    Df P w K mg base g (k + 1) "_law_rounds" (runF 2 4 (b_law_rounds F_law_dice)) := by
  refine Df.mkD Fn sc_law_rounds hm hb fun cdv A outer s H E hr => ?_
  have hN := sc_law_rounds.nd
  exact (fss_cons (fs_set (i := 2) hN rfl (by first | exact .inl rfl | exact .inr rfl) (fe_sl (fe_var 0) fo_none (fo_some (fe_var 1))))
  (fss_cons (fs_if (ft_cmp (or_eq (u64 hr)) (fe_var 2) (fe_fl fa_nil) (by rfl)) (fss_one (fs_set (i := 2) hN rfl (by first | exact .inl rfl | exact .inr rfl) (fe_fl (fa_cons fe_int fa_nil)))) fss_nil)
  (fss_one (fs_ret (fe_lc rfl hN (fe_var 2) (LcP.mk (own := [("cell", 3)]) (blk_by (N := ["script", "most", "cells", "cell"]) (sc := defScope s_law_rounds) (by decide +kernel)) (fun s H C cl fp => (fg_name hN rfl (by first | exact .inl rfl | exact .inr rfl))) (fun s H C cl fp => fts_nil) (fun s H C cl fp => (fe_F d_law_dice LamX.takes0 hr (fa_cons (fe_var 3) fa_nil) (Nat.le_refl _)))))))))
abbrev s_law : Stmt := top 68
def lam_law_0 (cells : List (Str × Addr)) : LamD := lamAt 0 (PySem.Str.ofString "law.<locals>.<lambda>") (elN (asV (stN (forB (stN (defBody s_law) 0)) 1)) 0) cells
theorem ls_law_0 (cells : List (Str × Addr)) : LamX.LamS (defScope s_law) (lam_law_0 cells).scope := LamX.lamS_by (sc := defScope s_law) (scope := lamSc (elN (asV (stN (forB (stN (defBody s_law) 0)) 1)) 0)) (by decide +kernel)
def lam_law_1 (cells : List (Str × Addr)) : LamD := lamAt 1 (PySem.Str.ofString "law.<locals>.<lambda>") (elN (asV (stN (forB (stN (defBody s_law) 0)) 1)) 1) cells
theorem ls_law_1 (cells : List (Str × Addr)) : LamX.LamS (defScope s_law) (lam_law_1 cells).scope := LamX.lamS_by (sc := defScope s_law) (scope := lamSc (elN (asV (stN (forB (stN (defBody s_law) 0)) 1)) 1)) (by decide +kernel)
def lam_law_2 (cells : List (Str × Addr)) : LamD := lamAt 2 (PySem.Str.ofString "law.<locals>.<lambda>") (elN (asV (stN (forB (stN (defBody s_law) 0)) 1)) 2) cells
theorem ls_law_2 (cells : List (Str × Addr)) : LamX.LamS (defScope s_law) (lam_law_2 cells).scope := LamX.lamS_by (sc := defScope s_law) (scope := lamSc (elN (asV (stN (forB (stN (defBody s_law) 0)) 1)) 2)) (by decide +kernel)
def lam_law_3 (cells : List (Str × Addr)) : LamD := lamAt 3 (PySem.Str.ofString "law.<locals>.<lambda>") (elN (asV (stN (forB (stN (defBody s_law) 0)) 1)) 3) cells
theorem ls_law_3 (cells : List (Str × Addr)) : LamX.LamS (defScope s_law) (lam_law_3 cells).scope := LamX.lamS_by (sc := defScope s_law) (scope := lamSc (elN (asV (stN (forB (stN (defBody s_law) 0)) 1)) 3)) (by decide +kernel)
def lam_law_4 (cells : List (Str × Addr)) : LamD := lamAt 4 (PySem.Str.ofString "law.<locals>.<lambda>") (elN (asV (stN (forB (stN (defBody s_law) 0)) 1)) 4) cells
theorem ls_law_4 (cells : List (Str × Addr)) : LamX.LamS (defScope s_law) (lam_law_4 cells).scope := LamX.lamS_by (sc := defScope s_law) (scope := lamSc (elN (asV (stN (forB (stN (defBody s_law) 0)) 1)) 4)) (by decide +kernel)
def lam_law_5 (cells : List (Str × Addr)) : LamD := lamAt 5 (PySem.Str.ofString "law.<locals>.<lambda>") (elN (asV (stN (forB (stN (defBody s_law) 0)) 1)) 5) cells
theorem ls_law_5 (cells : List (Str × Addr)) : LamX.LamS (defScope s_law) (lam_law_5 cells).scope := LamX.lamS_by (sc := defScope s_law) (scope := lamSc (elN (asV (stN (forB (stN (defBody s_law) 0)) 1)) 5)) (by decide +kernel)
noncomputable def b_law_1 (cells : List (Str × Addr)) (F_law_roll : List FL.D → VH → Out FL.D) (F_Desk___init__ : List FL.D → VH → Out FL.D) (F_told : List FL.D → VH → Out FL.D) (F_check_book : List FL.D → VH → Out FL.D) (F_read : List FL.D → VH → Out FL.D) (F_shortest : List FL.D → VH → Out FL.D) (F_put : List FL.D → VH → Out FL.D) (F_Desk_take : List FL.D → VH → Out FL.D) (F_law_rounds : List FL.D → VH → Out FL.D) : FSt :=
  (sIf (tV (e2 cNe (eTellG (tellR 3 tellHd tellFr) [(lam_law_0 cells, (eF F_told (aCons (e2 oAdd (eC (.int 999999)) (eV 4)) aNil))), (lam_law_1 cells, (eF F_check_book (aCons (eV 4) aNil))), (lam_law_2 cells, (eF F_read (aCons (eTup (aCons (eTup aNil) (aCons (eTup aNil) (aCons (eTup aNil) aNil)))) (aCons (eB bStr (aCons (eV 4) aNil)) aNil)))), (lam_law_3 cells, (eF F_shortest (aCons (eV 4) (aCons (eC (.int 0)) aNil)))), (lam_law_4 cells, (eF F_put (aCons (e2 oMul (eFl (aCons (eC (.str [117, 110])) aNil)) (e2 oAdd (eC (.int 7)) (eV 4))) (aCons (eTup (aCons (eC (.int 1)) aNil)) aNil)))), (lam_law_5 cells, (eMeth 0 "take" F_Desk_take (eV 5) (aCons (eB bStr (aCons (eV 4) aNil)) aNil)))] (e2 oIx (eV 2) (eV 3))) (e2 oAdd (FL.eLcR (aCons (eC (.int 6)) aNil) (gN 6) tYes (e2 cEq (eV 6) (eV 3)) [6]) (eFl (aCons (eC (.bl true)) aNil))))) (sRet (eC (.bl false))) sNil)
noncomputable def b_law_2 (cells : List (Str × Addr)) (F_law_roll : List FL.D → VH → Out FL.D) (F_Desk___init__ : List FL.D → VH → Out FL.D) (F_told : List FL.D → VH → Out FL.D) (F_check_book : List FL.D → VH → Out FL.D) (F_read : List FL.D → VH → Out FL.D) (F_shortest : List FL.D → VH → Out FL.D) (F_put : List FL.D → VH → Out FL.D) (F_Desk_take : List FL.D → VH → Out FL.D) (F_law_rounds : List FL.D → VH → Out FL.D) : FSt :=
  (sSeq (sAs (eTup (aCons (e2 oAdd (eC (.int 1)) (eF F_law_roll (aCons (eV 1) (aCons (eC (.int 900)) aNil)))) (aCons (eNew 0 F_Desk___init__ (aCons (eTup (aCons (eTup aNil) (aCons (eTup aNil) (aCons (eTup aNil) aNil)))) (aCons (eC (.bl true)) aNil))) aNil))) (gT 2 (gCons (gN 4) (gCons (gN 5) gNil))))
  (sSeq (sAs (eFl (aCons (eLam (lam_law_0 cells)) (aCons (eLam (lam_law_1 cells)) (aCons (eLam (lam_law_2 cells)) (aCons (eLam (lam_law_3 cells)) (aCons (eLam (lam_law_4 cells)) (aCons (eLam (lam_law_5 cells)) aNil))))))) (gN 2))
  (sForR (aCons (eB bLen (aCons (eV 2) aNil)) aNil) (gN 3)
  (b_law_1 cells F_law_roll F_Desk___init__ F_told F_check_book F_read F_shortest F_put F_Desk_take F_law_rounds))))
noncomputable def b_law (cells : List (Str × Addr)) (F_law_roll : List FL.D → VH → Out FL.D) (F_Desk___init__ : List FL.D → VH → Out FL.D) (F_told : List FL.D → VH → Out FL.D) (F_check_book : List FL.D → VH → Out FL.D) (F_read : List FL.D → VH → Out FL.D) (F_shortest : List FL.D → VH → Out FL.D) (F_put : List FL.D → VH → Out FL.D) (F_Desk_take : List FL.D → VH → Out FL.D) (F_law_rounds : List FL.D → VH → Out FL.D) : FSt :=
  (sSeq (sFor (eF F_law_rounds (aCons (eV 0) (aCons (eC (.int 3)) aNil))) (gN 1)
  (b_law_2 cells F_law_roll F_Desk___init__ F_told F_check_book F_read F_shortest F_put F_Desk_take F_law_rounds))
  (sRet (eC (.bl true))))
theorem sc_law : FnScope ["script", "dice", "whats", "k", "many", "desk", "j"] ["script"] (defScope s_law) := ⟨rfl, rfl, rfl, by decide +kernel, rfl, by decide +kernel, by decide +kernel⟩
theorem x_law {P : Program} {w : World} {K : PySem.W.Frag} {mg : Str → Option Value} {base : Heap} {g : Gc} {k : Nat} (n_str : mg "str" = none) (T_law_told : ∀ k, TellG P w K mg base g k "_law_told" "what" s_law_told ["what", "e", "some"] tellHd tellFr) (n_range : mg "range" = none) (n_len : mg "len" = none) (hsub : Subs K g sub) {F_law_roll : List FL.D → VH → Out FL.D} {F_Desk___init__ : List FL.D → VH → Out FL.D} {F_told : List FL.D → VH → Out FL.D} {F_check_book : List FL.D → VH → Out FL.D} {F_read : List FL.D → VH → Out FL.D} {F_shortest : List FL.D → VH → Out FL.D} {F_put : List FL.D → VH → Out FL.D} {F_Desk_take : List FL.D → VH → Out FL.D} {F_law_rounds : List FL.D → VH → Out FL.D} (d_law_roll : Df P w K mg base g k "_law_roll" F_law_roll) (d_Desk : Nf P w K mg base g k "Desk" 0 F_Desk___init__) (d_told : Df P w K mg base g k "told" F_told) (d_check_book : Df P w K mg base g k "check_book" F_check_book) (d_read : Df P w K mg base g k "read" F_read) (d_shortest : Df P w K mg base g k "shortest" F_shortest) (d_put : Df P w K mg base g k "put" F_put) (d_Desk_take : Mf P w K mg base g k 0 "take" F_Desk_take) (d_law_rounds : Df P w K mg base g k "_law_rounds" F_law_rounds) {f c Pt : Addr} {dV kV doc pm ct oc : Value} {an od : Option Addr} {osl : Array (Option Value)} (lk : K.lookup f = some ⟨oc, od, .func (PySem.W.fnOf "law" "law" (defArgs s_law) (defBody s_law) (defScope s_law) dV kV doc pm an (.ref c) ct), osl⟩)
    (hcd : PySem.W.codeIn K (.ref c) "law" = true) (TB : LamX.TabB base mg c Pt) (hmT : (Pt, PySem.Str.ofString "law.<locals>.<lambda>") ∈ g.T) (hu : ∀ p ∈ g.T, p.1 = Pt → p.2 = PySem.Str.ofString "law.<locals>.<lambda>") :
    FnOk P w K mg base (L2.CX P w) (k + 3) f (PySem.W.fnOf "law" "law" (defArgs s_law) (defBody s_law) (defScope s_law) dV kV doc pm an (.ref c) ct) ["script"] (spF K g (runA 1 7 (fun cells => b_law cells F_law_roll F_Desk___init__ F_told F_check_book F_read F_shortest F_put F_Desk_take F_law_rounds))) := by
  refine mkA lk hcd sc_law fun A outer s H E hr2 => ?_
  have hN := sc_law.nd
  have hr : Room k _ := hr2.mono (by omega)
  exact (fss_cons (fs_for (own := [1]) poF rfl (fe_F d_law_rounds tkF hr (fa_cons (fe_var 0) (fa_cons fe_int fa_nil)) (Nat.le_refl _)) (fg_name hN rfl (by first | exact .inl rfl | exact .inr rfl))
  (fss_cons (fs_as (own := [4, 5]) (fe_tup (fa_cons (fe_op or_add fe_int (fe_F d_law_roll tkF hr (fa_cons (fe_var 1) (fa_cons fe_int fa_nil)) (Nat.le_refl _))) (fa_cons (fe_new d_Desk tkF hr2 (fa_cons (fe_tup (fa_cons (fe_tup fa_nil) (fa_cons (fe_tup fa_nil) (fa_cons (fe_tup fa_nil) fa_nil)))) (fa_cons fe_bl fa_nil)) (by omega)) fa_nil))) (fg_tup rfl (fgs_cons (fg_name hN rfl (by first | exact .inl rfl | exact .inr rfl)) (fgs_cons (fg_name hN rfl (by first | exact .inl rfl | exact .inr rfl)) fgs_nil))))
  (fss_cons (fs_set (i := 2) hN rfl (by first | exact .inl rfl | exact .inr rfl) (fe_fl (fa_cons (fe_lam TB rfl hmT hu (ls_law_0 _) rfl rfl rfl rfl rfl rfl) (fa_cons (fe_lam TB rfl hmT hu (ls_law_1 _) rfl rfl rfl rfl rfl rfl) (fa_cons (fe_lam TB rfl hmT hu (ls_law_2 _) rfl rfl rfl rfl rfl rfl) (fa_cons (fe_lam TB rfl hmT hu (ls_law_3 _) rfl rfl rfl rfl rfl rfl) (fa_cons (fe_lam TB rfl hmT hu (ls_law_4 _) rfl rfl rfl rfl rfl rfl) (fa_cons (fe_lam TB rfl hmT hu (ls_law_5 _) rfl rfl rfl rfl rfl rfl) fa_nil))))))))
  (fss_one (fs_forR1 (own := [3]) poF rfl n_range (fa_cons (fe_B cr_len n_len (fa_cons (fe_var 2) fa_nil)) fa_nil) (aLen_cons aLen_nil) (fg_name hN rfl (by first | exact .inl rfl | exact .inr rfl))
  (fss_one (fs_if (ft_cmp (or_ne (u64 hr)) (fe_tellG (T_law_told _) rfl (allL_cons (LamOk.live (ls_law_0 _) rfl rfl (fun _ _ _ _ _ => rfl) (fun A outer s H E f c hr => (fe_F d_told tkL hr (fa_cons (fe_op or_add fe_int (fe_var 4)) fa_nil) (Nat.le_refl _)))) (allL_cons (LamOk.live (ls_law_1 _) rfl rfl (fun _ _ _ _ _ => rfl) (fun A outer s H E f c hr => (fe_F d_check_book tkL hr (fa_cons (fe_var 4) fa_nil) (Nat.le_refl _)))) (allL_cons (LamOk.live (ls_law_2 _) rfl rfl (fun _ _ _ _ _ => rfl) (fun A outer s H E f c hr => (fe_F d_read tkL hr (fa_cons (fe_tup (fa_cons (fe_tup fa_nil) (fa_cons (fe_tup fa_nil) (fa_cons (fe_tup fa_nil) fa_nil)))) (fa_cons (fe_BT cr_str n_str (fa_cons (fe_var 4) fa_nil)) fa_nil)) (Nat.le_refl _)))) (allL_cons (LamOk.live (ls_law_3 _) rfl rfl (fun _ _ _ _ _ => rfl) (fun A outer s H E f c hr => (fe_F d_shortest tkL hr (fa_cons (fe_var 4) (fa_cons fe_int fa_nil)) (Nat.le_refl _)))) (allL_cons (LamOk.live (ls_law_4 _) rfl rfl (fun _ _ _ _ _ => rfl) (fun A outer s H E f c hr => (fe_F d_put tkL hr (fa_cons (fe_op or_mul (fe_fl (fa_cons fe_str fa_nil)) (fe_op or_add fe_int (fe_var 4))) (fa_cons (fe_tup (fa_cons fe_int fa_nil)) fa_nil)) (Nat.le_refl _)))) (allL_cons (LamOk.live (ls_law_5 _) rfl rfl (fun _ _ _ _ _ => rfl) (fun A outer s H E f c hr => (fe_meth d_Desk_take tkL hr (fe_var 5) (fa_cons (fe_BT cr_str n_str (fa_cons (fe_var 4) fa_nil)) fa_nil) (Nat.le_refl _)))) allL_nil)))))) rfl tkF hr2 (fe_ix (u1 hr) (fe_var 2) (fe_var 3)) rfl rfl) (fe_op or_add (fe_lcR1 rfl hN n_range (fa_cons fe_int fa_nil) (aLen_cons aLen_nil) (LcP.mk (own := [("j", 6)]) (blk_by (N := ["script", "dice", "whats", "k", "many", "desk", "j"]) (sc := defScope s_law) (by decide +kernel)) (fun s H C cl fp => (fg_name hN rfl (by first | exact .inl rfl | exact .inr rfl))) (fun s H C cl fp => fts_nil) (fun s H C cl fp => (fe_cmp (or_eq (u64 hr)) (fe_var 6) (fe_var 3) (by rfl))))) (fe_fl (fa_cons fe_bl fa_nil))) (by rfl)) (fss_one (fs_ret fe_bl)) fss_nil)))))))
  (fss_one (fs_ret fe_bl)))
abbrev s_BadSentence___init__ : Stmt := inClass (top 5) 0
theorem ix_BadSentence : InitX "BadSentence.__init__" (defArgs s_BadSentence___init__) (defBody s_BadSentence___init__) (defScope s_BadSentence___init__) := ⟨⟨_, _, _, _, _, _, _, _, _, _, _, _, rfl, fun L f cdv cc => ⟨_, rfl⟩, fun L f cdv cc => rfl⟩, ⟨rfl, rfl, rfl, rfl, rfl, rfl, rfl, by decide +kernel, by decide +kernel⟩, ⟨_, rfl, rfl⟩,
  fun kV dc pm cdv ct an cc => Binds.all fun us hl => match us, hl with | [_, _], _ => rfl⟩
end K22
end
set_option Elab.async false
set_option linter.all false
set_option maxRecDepth 100000
set_option maxHeartbeats 4000000
namespace K22
open PySem FL
def vows : List Nat := [97, 101, 105, 111, 117]
def oths : List Nat := [98, 100, 102, 103, 107, 108, 109, 110, 112, 114, 115, 116, 118, 122]
def isV (c : Nat) : Bool := decide (c ∈ vows)
def isLt (c : Nat) : Bool := decide (c ∈ vows ++ oths)
theorem c_VOWELS_eq : c_VOWELS = .str vows := rfl
theorem c_OTHERS_eq : c_OTHERS = .str oths := rfl
def isWord (w : List Nat) : Bool := decide (1 ≤ w.length ∧ w.length ≤ 30) && (w.all isLt && w.any isV)
theorem isWord_len {w : List Nat} (h : isWord w = true) : 1 ≤ w.length ∧ w.length ≤ 30 := by
  unfold isWord at h
  rw [Bool.and_eq_true] at h
  exact of_decide_eq_true h.1
def wordS : List D → VH → Out D
  | [.str w], h => if w.length ≤ 16777216 then .ok (.bl (isWord w)) h else .bad
  | [.non], h => .ok (.bl false) h
  | [.int _], h => .ok (.bl false) h
  | _, _ => .bad
theorem word_eq (xs : List D) (h : VH) : wordS xs h = .bad ∨ runF 1 2 b_is_word xs h = wordS xs h := by
  have run : ∀ x, runF 1 2 b_is_word [x] h = endF (b_is_word [some x, none] h) := fun x => rfl
  unfold wordS
  split
  · rename_i w
    split
    · rename_i hl
      right
      have q1 : stT false (gN 1) tYes (e2 cIn (eV 1) (e2 oAdd (eC c_VOWELS) (eC c_OTHERS))) [1] [some (.str w), none] (w.map fun c => .str [c]) h = .ok (w.all isLt) h :=
        stT_all (fun c => D.str [c]) isLt w fun c _ => ⟨_, rfl, rfl, by simp [c_VOWELS_eq, c_OTHERS_eq, FL.wipe, isLt, vows, oths]⟩
      have q2 : stT true (gN 1) tYes (e2 cIn (eV 1) (eC c_VOWELS)) [1] [some (.str w), none] (w.map fun c => .str [c]) h = .ok (w.any isV) h :=
        stT_any (fun c => D.str [c]) isV w fun c _ => ⟨_, rfl, rfl, by simp [c_VOWELS_eq, FL.wipe, isV, vows]⟩
      rw [run]
      unfold b_is_word isWord
      by_cases h1 : 1 ≤ w.length
      · have h1' : (1 : Int) ≤ w.length := by omega
        by_cases h2 : w.length ≤ 30
        · have h2' : (w.length : Int) ≤ 30 := by omega
          simp only [ap_sSeq, ap_sIf, ap_tOr, ap_tNot, ap_tV, ap_eB, ap_aCons, ap_aNil, ap_eV, ap_eC, List.getElem?_cons_zero, vK_some, bind_ok, bIsi_x, tyN_s, isi_ss, of_some, bK_bl, Bool.not_true, Bool.false_eq_true, if_false, ap_eCh, bLen_s, hl, if_true, cLe_ii, h1', h2', decide_true, chK_t, thenS_ok, ap_sNil, nextS_nx, ap_sRet, ap_eAnd, ap_eStG, stX_str, q1, q2, stEnd_ok, anK_bl]
          cases w.all isLt <;> simp [h1, h2]
        · have h2' : ¬ (w.length : Int) ≤ 30 := by omega
          simp [hl, h1', h1, h2', h2]
      · have h1' : ¬ (1 : Int) ≤ w.length := by omega
        simp [hl, h1', h1]
    · exact .inl rfl
  · right
    rw [run]
    simp [b_is_word]
  · right
    rw [run]
    simp [b_is_word]
  · exact .inl rfl
theorem word_str {w : List Nat} {h : VH} (hl : w.length ≤ 16777216) : wordS [.str w] h = .ok (.bl (isWord w)) h := by
  exact if_pos hl
def lastN (w : List Nat) : Nat := w.getD (w.length - 1) 0
def hdN (w : List Nat) : Nat := w.getD 0 0
def joinW (s e : List Nat) : List Nat :=
  if e = [] then s else if isV (lastN s) = true ∧ isV (hdN e) = true then s ++ [110] ++ e
  else if lastN s = 107 ∧ hdN e ∈ [101, 105] then s.take (s.length - 1) ++ [115] ++ e
  else if lastN s = 116 ∧ hdN e = 105 then s.take (s.length - 1) ++ [122] ++ e else s ++ e
def joinS : List D → VH → Out D
  | [.str s, .str e], h => if 1 ≤ s.length ∧ s.length ≤ 1000 ∧ e.length ≤ 1000 then .ok (.str (joinW s e)) h else .bad
  | _, _ => .bad
theorem at_last {w : List Nat} (h : 0 < w.length) : atI w (-1) = some (lastN w) := by
  unfold atI ixN lastN
  rw [if_neg (by decide), if_pos (by omega)]
  have e : ((-1 : Int) + (w.length : Nat)).toNat = w.length - 1 := by omega
  rw [e]
  show w[w.length - 1]? = _
  rw [List.getD_eq_getElem?_getD, List.getElem?_eq_getElem (by omega)]
  rfl
theorem ix_last {w : List Nat} {h : VH} (h0 : 0 < w.length) (hl : w.length ≤ 16777216) : oIx (.str w) (.int (-1)) h = some (.str [lastN w], h) := by
  have e : oIx (.str w) (.int (-1)) h = if w.length ≤ 16777216 then (match atI w (-1) with
    | some c => some (.str [c], h)
    | none => none) else none := rfl
  rw [e, if_pos hl, at_last h0]
theorem ix_hd {w : List Nat} {h : VH} (h0 : 0 < w.length) (hl : w.length ≤ 16777216) : oIx (.str w) (.int 0) h = some (.str [hdN w], h) := by
  have e : oIx (.str w) (.int 0) h = if w.length ≤ 16777216 then (match atI w (0 : Nat) with
    | some c => some (.str [c], h)
    | none => none) else none := rfl
  rw [e, if_pos hl, atI_nat, List.getElem?_eq_getElem h0]
  unfold hdN
  rw [List.getD_eq_getElem?_getD, List.getElem?_eq_getElem h0]
  rfl
theorem join_eq (xs : List D) (h : VH) : joinS xs h = .bad ∨ runF 2 4 b_joined xs h = joinS xs h := by
  have run : ∀ x y, runF 2 4 b_joined [x, y] h = endF (b_joined [some x, some y, none, none] h) := fun x y => rfl
  unfold joinS
  split
  · rename_i s e
    split
    · rename_i hl
      obtain ⟨h1, h2, h3⟩ := hl
      right
      have i1 := ix_last (w := s) (h := h) h1 (by omega)
      rw [run]
      unfold b_joined joinW
      by_cases he : e = []
      · subst he
        simp
      have h4 : 1 ≤ e.length := List.length_pos_iff.mpr he
      have i2 := ix_hd (w := e) (h := h) h4 (by omega)
      have c1 := cut_init s 1 (by decide) h1
      have c1' : cut s none (some (-1)) = s.take (s.length - 1) := c1
      have l1 : (s.take (s.length - 1)).length = s.length - 1 := by rw [List.length_take]; omega
      rw [if_neg he]
      simp only [isV, decide_eq_true_eq]
      refine run_nx (δ1 := [some (.str s), some (.str e), none, none]) (h1 := h) (by simp [he]) ?_
      refine run_nx (δ1 := [some (.str s), some (.str e), some (.str [lastN s]), some (.str [hdN e])]) (h1 := h) (by simp [oNeg, i1, i2]) ?_
      generalize lastN s = a at *
      generalize hdN e = b at *
      clear run
      have z1 : s.length + 1 ≤ 16777216 := by omega
      have z2 : s.length + 1 + e.length ≤ 16777216 := by omega
      have z3 : s.length + e.length ≤ 16777216 := by omega
      have z4 : s.length ≤ 16777216 := by omega
      have z5 : s.length - 1 + 1 ≤ 16777216 := by omega
      have z6 : s.length - 1 + 1 + e.length ≤ 16777216 := by omega
      have z7 : s.length - 1 ≤ 16777216 := by omega
      by_cases q1 : a ∈ vows ∧ b ∈ vows
      · simp [c_VOWELS_eq, q1.1, q1.2, z1, z2, z3]
        try omega
      have q1' : ¬ (a ∈ vows ∧ b ∈ vows) := q1
      have st1 : sIf (tAnd (tV (FL.e2 cIn (eV 2) (eC c_VOWELS))) (tV (FL.e2 cIn (eV 3) (eC c_VOWELS)))) (sRet (FL.e2 oAdd (FL.e2 oAdd (eV 0) (eC (.str [110]))) (eV 1))) sNil [some (.str s), some (.str e), some (.str [a]), some (.str [b])] h = .nx [some (.str s), some (.str e), some (.str [a]), some (.str [b])] h := by
        by_cases qa : a ∈ vows
        · have qb : ¬ b ∈ vows := fun z => q1 ⟨qa, z⟩
          simp [c_VOWELS_eq, qa, qb]
        · simp [c_VOWELS_eq, qa]
      rw [if_neg q1]
      refine run_nx st1 ?_
      by_cases q2 : a = 107 ∧ b ∈ [101, 105]
      · rw [if_pos q2]
        obtain ⟨rfl, q2⟩ := q2
        have q2' : b = 101 ∨ b = 105 := by simpa using q2
        simp [q2', oNeg, c1', z1, z2, z3, z4, l1, z5, z6]
        try omega
      rw [if_neg q2]
      have st2 : sIf (tAnd (tV (FL.e2 cEq (eV 2) (eC (.str [107])))) (tV (FL.e2 cIn (eV 3) (eC (.str [101, 105]))))) (sRet (FL.e2 oAdd (FL.e2 oAdd (eSl (eV 0) pNo (pSo (FL.e1 oNeg (eC (.int 1))))) (eC (.str [115]))) (eV 1))) sNil [some (.str s), some (.str e), some (.str [a]), some (.str [b])] h = .nx [some (.str s), some (.str e), some (.str [a]), some (.str [b])] h := by
        by_cases qa : a = 107
        · have qb : ¬ b ∈ [101, 105] := fun z => q2 ⟨qa, z⟩
          have qb' : ¬ (b = 101 ∨ b = 105) := by simpa using qb
          subst qa
          simp [qb']
        · simp [qa]
      refine run_nx st2 ?_
      by_cases q3 : a = 116 ∧ b = 105
      · rw [if_pos q3]
        obtain ⟨rfl, rfl⟩ := q3
        simp [oNeg, c1', z1, z2, z3, z4, l1, z5, z6]
        try omega
      rw [if_neg q3]
      by_cases qa : a = 116
      · have qb : ¬ b = 105 := fun z => q3 ⟨qa, z⟩
        subst qa
        simp [qb, z3]
      · simp [qa, z3]
    · exact .inl rfl
  · exact .inl rfl
theorem join_ok {s e : List Nat} {h : VH} (h1 : 1 ≤ s.length) (h2 : s.length ≤ 1000) (h3 : e.length ≤ 1000) : joinS [.str s, .str e] h = .ok (.str (joinW s e)) h := if_pos ⟨h1, h2, h3⟩
def casesL : List (List Nat) := [[100, 111, 101, 114], [100, 111, 110, 101], [111, 119, 110, 101, 114], [112, 108, 97, 99, 101]]
def timesL : List (List Nat) := [[110, 111, 119], [112, 97, 115, 116], [116, 111, 32, 99, 111, 109, 101]]
def whoL : List (List Nat) := [[109, 105], [116, 105], [108, 111], [108, 97]]
def smallL : List (List Nat) := [[110, 101], [107, 117], [107, 101, 108]]
def end0L : List (List Nat) := [[111], [111, 109], [101, 115], [117, 108]]
def end1L : List (List Nat) := [[97], [97, 109], [105, 115], [117, 108]]
def persL : List (List Nat) := [[117], [105, 115], [101], [117, 109, 111], [105, 116, 101], [101, 110]]
def aheadL : List (List Nat) := [[], [97, 114], [101, 118]]
def whoEndL : List (List Nat) := [[], [110], [115], [108]]
def askEndL : List (List Nat) := [[], [111, 109], [101, 115], [117, 108]]
theorem c_CASES_eq : c_CASES = .tup (casesL.map D.str) := rfl
theorem c_TIMES_eq : c_TIMES = .tup (timesL.map D.str) := rfl
theorem c_WHO_eq : c_WHO = .tup (whoL.map D.str) := rfl
theorem find_ix {l : List (List Nat)} {c : List Nat} (hc : c ∈ l) : l.findIdx? (fun z => decide (z = c)) = some (l.idxOf c) := by
  induction l with
  | nil => cases hc
  | cons b l ih =>
    rw [List.findIdx?_cons, List.idxOf_cons]
    by_cases e : b = c
    · subst e; simp
    · have hm : c ∈ l := (List.mem_cons.mp hc).resolve_left fun z => e z.symm
      have e' : (b == c) = false := by simpa using e
      simp [e, e', ih hm]
theorem mIndexT_at {l : List (List Nat)} {c : List Nat} {h : VH} (hc : c ∈ l) : mIndexT (.tup (l.map D.str)) [.str c] h = some (.int ((l.idxOf c : Nat) : Int), h) := by
  rw [mIndexT_strs, find_ix hc]
theorem idx_lt {l : List (List Nat)} {c : List Nat} (hc : c ∈ l) : l.idxOf c < l.length := List.idxOf_lt_length_iff.mpr hc
theorem ixT_strs {l : List (List Nat)} {n : Nat} {h : VH} (hn : n < l.length) : oIx (.tup (l.map D.str)) (.int (n : Int)) h = some (.str (l.getD n []), h) := by
  have e : oIx (.tup (l.map D.str)) (.int (n : Int)) h = match atI (l.map D.str) (n : Int) with
    | some d => some (d, h)
    | none => none := rfl
  rw [e, atI_nat, List.getElem?_map, List.getElem?_eq_getElem hn, List.getD_eq_getElem?_getD, List.getElem?_eq_getElem hn]
  rfl
def tailT (k : Int) (n : Nat) : List Nat := if k = 0 then end0L.getD n [] else end1L.getD n []
def manyT (m : Bool) : List Nat := if m = true then [105] else []
def thingW (s : List Nat) (k : Int) (c : List Nat) (m : Bool) : List Nat := joinW s (tailT k (casesL.idxOf c) ++ manyT m)
def thingS : List D → VH → Out D
  | [.str s, .int k, .str c, .bl m], h => if 1 ≤ s.length ∧ s.length ≤ 1000 then (if (k = 0 ∨ k = 1) ∧ c ∈ casesL then .ok (.str (thingW s k c m)) h else .err 0 none h) else .bad
  | _, _ => .bad
theorem end0_ok : ∀ n < 4, 1 ≤ (end0L.getD n []).length ∧ (end0L.getD n []).length ≤ 2 := by decide
theorem end1_ok : ∀ n < 4, 1 ≤ (end1L.getD n []).length ∧ (end1L.getD n []).length ≤ 2 := by decide
theorem tailT_ok {k : Int} {c : List Nat} (hc : c ∈ casesL) : 1 ≤ (tailT k (casesL.idxOf c)).length ∧ (tailT k (casesL.idxOf c)).length ≤ 2 := by
  unfold tailT
  split
  · exact end0_ok _ (idx_lt hc)
  · exact end1_ok _ (idx_lt hc)
theorem manyT_len (m : Bool) : (manyT m).length ≤ 1 := by cases m <;> decide
theorem wn_ENDINGS {k : Int} {h : VH} : oWnin c_ENDINGS (.int k) h = some (.bl (!decide (k = 0 ∨ k = 1)), h) := by
  by_cases h0 : k = 0
  · subst h0; rfl
  · by_cases h1 : k = 1
    · subst h1; rfl
    · have h0' : ¬ (0 : Int) = k := fun z => h0 z.symm
      have h1' : ¬ (1 : Int) = k := fun z => h1 z.symm
      simp [oWnin, isKey, c_ENDINGS, dGet, keyEq, h0, h1, h0', h1']
theorem wx_ENDINGS0 {h : VH} : oWix c_ENDINGS (.int 0) h = some (.tup (end0L.map D.str), h) := rfl
theorem wx_ENDINGS1 {h : VH} : oWix c_ENDINGS (.int 1) h = some (.tup (end1L.map D.str), h) := rfl
theorem thing_eq (xs : List D) (h : VH) : thingS xs h = .bad ∨ runF 4 4 (b_thing_form joinS) xs h = thingS xs h := by
  have run : ∀ x y z u, runF 4 4 (b_thing_form joinS) [x, y, z, u] h = endF (b_thing_form joinS [some x, some y, some z, some u] h) := fun x y z u => rfl
  unfold thingS
  split
  · rename_i s k c m
    split
    · rename_i hl
      right
      rw [run]
      unfold b_thing_form
      have n2 : cNin (.str c) c_CASES h = some (.bl (!decide (c ∈ casesL)), h) := by rw [c_CASES_eq, cNin_sT]
      by_cases hk : k = 0 ∨ k = 1
      · by_cases hc : c ∈ casesL
        · have n3 : mIndexT c_CASES [.str c] h = some (.int ((casesL.idxOf c : Nat) : Int), h) := mIndexT_at hc
          have n4 := idx_lt hc
          have n5 := tailT_ok (k := k) hc
          have n6 := manyT_len m
          have tc : isT c_CASES h = true := rfl
          have q : ∀ e, FL.e2 oAdd (FL.e2 oIx (FL.e1 (oWix c_ENDINGS) (eV 1)) (eM isT mIndexT (eC c_CASES) (aCons (eV 2) aNil))) (eIf (tTr (eV 3)) (eC (.str [105])) (eC (.str []))) [some (.str s), some (.int k), some (.str c), some (.bl m)] h = e → e = .ok (.str (tailT k (casesL.idxOf c) ++ manyT m)) h := by
            intro e he
            rw [← he]
            have l2 : (tailT k (casesL.idxOf c)).length ≤ 16777215 := by omega
            have l3 : (tailT k (casesL.idxOf c)).length ≤ 16777216 := by omega
            rcases hk with rfl | rfl
            · have i4 := ixT_strs (l := end0L) (h := h) n4
              unfold tailT at *
              simp only [if_true] at *
              cases m <;> simp [-List.getD_eq_getElem?_getD, wx_ENDINGS0, tc, n3, i4, manyT, l2, l3]
            · have i4 := ixT_strs (l := end1L) (h := h) n4
              unfold tailT at *
              simp only [show ¬ (1 : Int) = 0 by decide, if_false] at *
              cases m <;> simp [-List.getD_eq_getElem?_getD, wx_ENDINGS1, tc, n3, i4, manyT, l2, l3]
          have q := q _ rfl
          have j : joinS [.str s, .str (tailT k (casesL.idxOf c) ++ manyT m)] h = .ok (.str (thingW s k c m)) h := join_ok hl.1 hl.2 (by rw [List.length_append]; omega)
          rw [if_pos ⟨hk, hc⟩]
          refine run_nx (δ1 := [some (.str s), some (.int k), some (.str c), some (.bl m)]) (h1 := h) (by simp [wn_ENDINGS, hk, n2, hc]) ?_
          simp [-ap_e2, q, j]
        · rw [if_neg fun z => hc z.2]
          simp [wn_ENDINGS, hk, n2, hc]
      · rw [if_neg fun z => hk z.1]
        simp [wn_ENDINGS, hk]
    · exact .inl rfl
  · exact .inl rfl
def tailD (t : List Nat) (p : Int) (m : Bool) : List Nat := aheadL.getD (timesL.idxOf t) [] ++ persL.getD ((p - 1 + if m = true then 3 else 0).toNat) []
def deedW (s t : List Nat) (p : Int) (m : Bool) : List Nat := joinW s (tailD t p m)
def deedS : List D → VH → Out D
  | [.str s, .str t, .int p, .bl m], h => if 1 ≤ s.length ∧ s.length ≤ 1000 ∧ (p = 1 ∨ p = 2 ∨ p = 3) then (if t ∈ timesL then .ok (.str (deedW s t p m)) h else .err 0 none h) else .bad
  | _, _ => .bad
theorem timesL_cases {t : List Nat} (h : t ∈ timesL) : t = [110, 111, 119] ∨ t = [112, 97, 115, 116] ∨ t = [116, 111, 32, 99, 111, 109, 101] := by simpa [timesL] using h
theorem tailD_len {t : List Nat} {p : Int} {m : Bool} (ht : t ∈ timesL) (hp : p = 1 ∨ p = 2 ∨ p = 3) : 1 ≤ (tailD t p m).length ∧ (tailD t p m).length ≤ 5 := by
  rcases timesL_cases ht with rfl | rfl | rfl <;> rcases hp with rfl | rfl | rfl <;> cases m <;> decide
theorem deed_eq (xs : List D) (h : VH) : deedS xs h = .bad ∨ runF 4 4 (b_deed_form joinS) xs h = deedS xs h := by
  have run : ∀ x y z u, runF 4 4 (b_deed_form joinS) [x, y, z, u] h = endF (b_deed_form joinS [some x, some y, some z, some u] h) := fun x y z u => rfl
  unfold deedS
  split
  · rename_i s t p m
    split
    · rename_i hl
      obtain ⟨l1, l2, hp⟩ := hl
      right
      rw [run]
      unfold b_deed_form
      have n2 : cNin (.str t) c_TIMES h = some (.bl (!decide (t ∈ timesL)), h) := by rw [c_TIMES_eq, cNin_sT]
      by_cases ht : t ∈ timesL
      · rw [if_pos ht]
        have hb := tailD_len (m := m) ht hp
        have j : joinS [.str s, .str (tailD t p m)] h = .ok (.str (deedW s t p m)) h := join_ok l1 l2 (by omega)
        have n3 : cNin (.int p) (.tup [.int 1, .int 2, .int 3]) h = some (.bl false, h) := by
          rcases hp with rfl | rfl | rfl <;> rfl
        have q : FL.e2 oAdd (FL.e1 (oWix c_AHEAD) (eV 1)) (FL.e2 oIx (eC c_PERSONS) (FL.e2 oAdd (FL.e2 oSub (eV 2) (eC (.int 1))) (eIf (tTr (eV 3)) (eC (.int 3)) (eC (.int 0))))) [some (.str s), some (.str t), some (.int p), some (.bl m)] h = .ok (.str (tailD t p m)) h := by
          rcases timesL_cases ht with rfl | rfl | rfl <;> rcases hp with rfl | rfl | rfl <;> cases m <;> rfl
        refine run_nx (δ1 := [some (.str s), some (.str t), some (.int p), some (.bl m)]) (h1 := h) (by simp [n2, ht, n3]) ?_
        simp [-ap_e2, q, j]
      · rw [if_neg ht]
        simp [n2, ht]
    · exact .inl rfl
  · exact .inl rfl
def whoW (w c : List Nat) (m : Bool) : List Nat := w ++ (if m = true then [114, [97, 101, 105, 111].getD (whoL.idxOf w) 0] else []) ++ whoEndL.getD (casesL.idxOf c) []
def whoS : List D → VH → Out D
  | [.str w, .str c, .bl m], h => if w ∈ whoL ∧ c ∈ casesL then .ok (.str (whoW w c m)) h else if w.length ≤ 1000 ∧ c.length ≤ 1000 then .err 0 none h else .bad
  | _, _ => .bad
theorem casesL_cases {t : List Nat} (h : t ∈ casesL) : t = [100, 111, 101, 114] ∨ t = [100, 111, 110, 101] ∨ t = [111, 119, 110, 101, 114] ∨ t = [112, 108, 97, 99, 101] := by simpa [casesL] using h
theorem whoL_cases {t : List Nat} (h : t ∈ whoL) : t = [109, 105] ∨ t = [116, 105] ∨ t = [108, 111] ∨ t = [108, 97] := by simpa [whoL] using h
theorem who_eq (xs : List D) (h : VH) : whoS xs h = .bad ∨ runF 3 3 b_who_form xs h = whoS xs h := by
  have run : ∀ x y z, runF 3 3 b_who_form [x, y, z] h = endF (b_who_form [some x, some y, some z] h) := fun x y z => rfl
  unfold whoS
  split
  · rename_i w c m
    have n1 : cNin (.str w) c_WHO h = some (.bl (!decide (w ∈ whoL)), h) := by rw [c_WHO_eq, cNin_sT]
    have n2 : cNin (.str c) c_CASES h = some (.bl (!decide (c ∈ casesL)), h) := by rw [c_CASES_eq, cNin_sT]
    split
    · rename_i hl
      right
      rw [run]
      unfold b_who_form
      refine run_nx (δ1 := [some (.str w), some (.str c), some (.bl m)]) (h1 := h) (by simp [n1, n2, hl.1, hl.2]) ?_
      clear n1 n2 run
      obtain ⟨h1, h2⟩ := hl
      rcases whoL_cases h1 with rfl | rfl | rfl | rfl <;> rcases casesL_cases h2 with rfl | rfl | rfl | rfl <;> cases m <;> rfl
    · split
      · rename_i hn hl
        right
        rw [run]
        unfold b_who_form
        by_cases h1 : w ∈ whoL
        · have h2 : ¬ c ∈ casesL := fun z => hn ⟨h1, z⟩
          simp [n1, n2, h1, h2]
        · simp [n1, n2, h1]
      · exact .inl rfl
  · exact .inl rfl
def askW (c : List Nat) : List Nat := [107, 101, 108] ++ askEndL.getD (casesL.idxOf c) []
def askS : List D → VH → Out D
  | [.str c], h => if c ∈ casesL then .ok (.str (askW c)) h else .bad
  | _, _ => .bad
theorem ask_eq (xs : List D) (h : VH) : askS xs h = .bad ∨ runF 1 1 b_asked_form xs h = askS xs h := by
  have run : ∀ x, runF 1 1 b_asked_form [x] h = endF (b_asked_form [some x] h) := fun x => rfl
  unfold askS
  split
  · rename_i c
    split
    · rename_i hc
      right
      rw [run]
      unfold b_asked_form
      have n2 : cNin (.str c) c_CASES h = some (.bl (!decide (c ∈ casesL)), h) := by rw [c_CASES_eq, cNin_sT]
      refine run_nx (δ1 := [some (.str c)]) (h1 := h) (by simp [n2, hc]) ?_
      rcases casesL_cases hc with rfl | rfl | rfl | rfl <;> rfl
    · exact .inl rfl
  · exact .inl rfl
def isStem (w : List Nat) : Bool := isWord w && (decide (w.length ≤ 12) && !decide (w ∈ smallL ++ whoL))
def stemS : List D → VH → Out D
  | [.str w], h => if w.length ≤ 16777216 then .ok (.bl (isStem w)) h else .bad
  | [.int _], h => .ok (.bl false) h
  | _, _ => .bad
theorem stem_eq (xs : List D) (h : VH) : stemS xs h = .bad ∨ runF 1 1 (b_is_stem wordS) xs h = stemS xs h := by
  have run : ∀ x, runF 1 1 (b_is_stem wordS) [x] h = endF (b_is_stem wordS [some x] h) := fun x => rfl
  unfold stemS
  split
  · rename_i w
    split
    · rename_i hl
      right
      rw [run]
      unfold b_is_stem isStem
      have n1 : oAdd c_SMALL c_WHO h = some (.tup ((smallL ++ whoL).map D.str), h) := rfl
      have n2 : cNin (.str w) (.tup ((smallL ++ whoL).map D.str)) h = some (.bl (!decide (w ∈ smallL ++ whoL)), h) := cNin_sT
      have n3 : (w.length : Int) ≤ 12 ↔ w.length ≤ 12 := by omega
      cases hw : isWord w with
      | false => simp [word_str hl, hw]
      | true =>
        by_cases h12 : w.length ≤ 12
        · simp only [ap_sRet, ap_eAnd, ap_eF, ap_aCons, ap_aNil, ap_eV, ap_eC, ap_eB, List.getElem?_cons_zero, vK_some, bind_ok, word_str hl, hw, anK_bl]
          have n3' : (w.length : Int) ≤ 12 := by omega
          simp [-List.map_append, hl, n1, n2, h12, n3']
        · have n3' : ¬ (w.length : Int) ≤ 12 := by omega
          simp [word_str hl, hw, hl, h12, n3']
    · exact .inl rfl
  · exact .inr rfl
  · exact .inl rfl
end K22
set_option Elab.async false
set_option linter.all false
set_option maxRecDepth 100000
set_option maxHeartbeats 4000000
namespace K22
open PySem FL
def bothL : List Bool := [false, true]
def thRow (s : List Nat) (k : Int) (c : List Nat) (m : Bool) : D := .tup [.str (thingW s k c m), .str c, .bl m]
def thingsL (s : List Nat) (k : Int) : List D := casesL.flatMap fun c => bothL.map (thRow s k c)
def thingsS : List D → VH → Out D
  | [.str s, .int k], h => if 1 ≤ s.length ∧ s.length ≤ 1000 ∧ (k = 0 ∨ k = 1) then .ok (.tup (thingsL s k)) h else .bad
  | _, _ => .bad
theorem filt_true {α : Type} (l : List α) : l.filter (fun _ => true) = l := List.filter_eq_self.mpr fun _ _ => rfl
theorem things_eq (xs : List D) (h : VH) : thingsS xs h = .bad ∨ runF 2 4 (b_forms_of_thing thingS) xs h = thingsS xs h := by
  have run : ∀ x y, runF 2 4 (b_forms_of_thing thingS) [x, y] h = endF (b_forms_of_thing thingS [some x, some y, none, none] h) := fun x y => rfl
  unfold thingsS
  split
  · rename_i s k
    split
    · rename_i hl
      obtain ⟨l1, l2, hk⟩ := hl
      right
      rw [run]
      unfold b_forms_of_thing
      have q := lc2_of (a := eC c_CASES) (g := gN 2) (a1 := eTup (aCons (eC (.bl false)) (aCons (eC (.bl true)) aNil))) (g1 := gN 3) (t1 := tYes) (e := eTup (aCons (eF thingS (aCons (eV 0) (aCons (eV 1) (aCons (eV 2) (aCons (eV 3) aNil))))) (aCons (eV 2) (aCons (eV 3) aNil)))) (own := [2, 3]) (own1 := [3]) (δ := [some (.str s), some (.int k), none, none]) (h := h) (h1 := h)
        D.str casesL (fun _ => bothL) (fun _ => D.bl) (fun _ _ => true) (thRow s k) (d0 := c_CASES) rfl rfl (by decide) fun c hc => ⟨_, _, rfl, rfl, rfl, fun m _ => ⟨_, rfl, rfl, fun _ => by
          have j : thingS [.str s, .int k, .str c, .bl m] h = .ok (.str (thingW s k c m)) h := by
            show (if 1 ≤ s.length ∧ s.length ≤ 1000 then (if (k = 0 ∨ k = 1) ∧ c ∈ casesL then Out.ok (D.str (thingW s k c m)) h else .err 0 none h) else .bad) = _
            rw [if_pos ⟨l1, l2⟩, if_pos ⟨hk, hc⟩]
          simp [FL.wipe, j, thRow]⟩⟩
      simp only [filt_true] at q
      rw [ap_sRet, ap_eB, ap_aCons, q]
      rfl
    · exact .inl rfl
  · exact .inl rfl
def dRow (s t : List Nat) (p : Int) (m : Bool) : D := .tup [.str (deedW s t p m), .str t, .int p, .bl m]
def perL : List Int := [1, 2, 3]
def dRow2 (s t : List Nat) (p : Int) : List D := bothL.map (dRow s t p)
def dRow3 (s t : List Nat) : List D := perL.flatMap (dRow2 s t)
def deedsL (s : List Nat) : List D := timesL.flatMap (dRow3 s)
theorem dRow2_len (s t : List Nat) (p : Int) : (dRow2 s t p).length = 2 := rfl
theorem dRow3_len (s t : List Nat) (k : Nat) : ((perL.take k).flatMap (dRow2 s t)).length ≤ 6 := by
  rw [List.length_flatMap]
  have e : (perL.take k).map (fun a => (dRow2 s t a).length) = (perL.take k).map fun _ => 2 := List.map_congr_left fun _ _ => dRow2_len _ _ _
  rw [e, List.map_const', List.sum_replicate_nat, List.length_take]
  show min k 3 * 2 ≤ 6
  omega
theorem deedsL_len (s : List Nat) (k : Nat) : ((timesL.take k).flatMap (dRow3 s)).length ≤ 18 := by
  rw [List.length_flatMap]
  have e : (timesL.take k).map (fun a => (dRow3 s a).length) = (timesL.take k).map fun _ => 6 := List.map_congr_left fun _ _ => rfl
  rw [e, List.map_const', List.sum_replicate_nat, List.length_take]
  show min k 3 * 6 ≤ 18
  omega
theorem take_succ_flat {α β : Type} {l : List α} {k : Nat} {x : α} (f : α → List β) (hx : l[k]? = some x) : (l.take (k + 1)).flatMap f = (l.take k).flatMap f ++ f x := by
  rw [List.take_add_one, hx, List.flatMap_append]
  simp
theorem perL_cases {p : Int} (h : p ∈ perL) : p = 1 ∨ p = 2 ∨ p = 3 := by simpa [perL] using h
def deedsS : List D → VH → Out D
  | [.str s], h => if 1 ≤ s.length ∧ s.length ≤ 1000 then .ok (.tup (deedsL s)) h else .bad
  | _, _ => .bad
theorem deeds_turn {s t : List Nat} {p : Int} {acc : List D} {h : VH} {x4 : Option D} (l1 : 1 ≤ s.length) (l2 : s.length ≤ 1000) (ht : t ∈ timesL) (hp : p ∈ perL) (ha : acc.length ≤ 100) :
    b_forms_of_deed_1 deedS [some (.str s), some (.ref h.length), some (.str t), some (.int p), x4] (h ++ [.lst acc]) = .nx [some (.str s), some (.ref h.length), some (.str t), some (.int p), x4] (h ++ [.lst (acc ++ dRow2 s t p)]) := by
  unfold b_forms_of_deed_1
  have q := lcF_all (a := eTup (aCons (eC (.bl false)) (aCons (eC (.bl true)) aNil))) (i := 4) (e := eTup (aCons (eF deedS (aCons (eV 0) (aCons (eV 2) (aCons (eV 3) (aCons (eV 4) aNil))))) (aCons (eV 2) (aCons (eV 3) (aCons (eV 4) aNil))))) (own := [4]) (δ := [some (.str s), some (.ref h.length), some (.str t), some (.int p), x4]) (h := h ++ [.lst acc]) (h1 := h ++ [.lst acc]) (l := bothL) D.bl (.inr rfl) (by decide) (dRow s t p) fun m _ => by
    have j : deedS [.str s, .str t, .int p, .bl m] (h ++ [.lst acc]) = .ok (.str (deedW s t p m)) (h ++ [.lst acc]) := by
      show (if 1 ≤ s.length ∧ s.length ≤ 1000 ∧ (p = 1 ∨ p = 2 ∨ p = 3) then (if t ∈ timesL then Out.ok (D.str (deedW s t p m)) (h ++ [.lst acc]) else .err 0 none (h ++ [.lst acc])) else .bad) = _
      rw [if_pos ⟨l1, l2, perL_cases hp⟩, if_pos ht]
    simp [FL.wipe, j, dRow]
  have ex := extend_rf (h := h ++ [.lst acc]) (k := h.length) (xs := acc) (ys := dRow2 s t p) (by simp) (by rw [dRow2_len]; omega)
  rw [set_last] at ex
  have ex' : mExtend (.ref h.length) [.fls (bothL.map (dRow s t p))] (h ++ [.lst acc]) = some (.non, h ++ [.lst (acc ++ dRow2 s t p)]) := ex
  rw [ap_sEx, ap_eM, ap_eV]
  simp [-ap_eLc, q, ex']
theorem deeds_run {s : List Nat} {h : VH} (l1 : 1 ≤ s.length) (l2 : s.length ≤ 1000) : endF (b_forms_of_deed deedS [some (.str s), none, none, none, none] h) = .ok (.tup (deedsL s)) (h ++ [.lst (deedsL s)]) := by
  unfold b_forms_of_deed
  refine run_nx (δ1 := [some (.str s), some (.ref h.length), none, none, none]) (h1 := h ++ [.lst []]) (by simp) ?_
  have q : OkS (fun δ h' => (∃ x2 x3 x4, δ = [some (.str s), some (.ref h.length), x2, x3, x4]) ∧ h' = h ++ [.lst (deedsL s)]) (sFor (eC c_TIMES) (gN 2) (b_forms_of_deed_2 deedS) [some (.str s), some (.ref h.length), none, none, none] (h ++ [.lst []])) := by
    rw [ap_sFor, ap_eC, thenS_ok, c_TIMES_eq, forX_tup]
    have r := forT_ix (g := gN 2) (b := b_forms_of_deed_2 deedS) D.str timesL (fun k δ h' => (∃ x2 x3 x4, δ = [some (.str s), some (.ref h.length), x2, x3, x4]) ∧ h' = h ++ [.lst ((timesL.take k).flatMap (dRow3 s))]) (δ := [some (.str s), some (.ref h.length), none, none, none]) (h := h ++ [.lst []]) ⟨⟨none, none, none, rfl⟩, rfl⟩ fun k t δ h' hk q => by
      obtain ⟨⟨x2, x3, x4, rfl⟩, rfl⟩ := q
      refine ⟨_, _, rfl, .of ?_⟩
      have ht : t ∈ timesL := List.mem_of_getElem? hk
      have la := deedsL_len s k
      rw [take_succ_flat (dRow3 s) hk]
      generalize (timesL.take k).flatMap (dRow3 s) = acc at *
      show OkS _ (b_forms_of_deed_2 deedS [some (.str s), some (.ref h.length), some (.str t), x3, x4] (h ++ [.lst acc]))
      unfold b_forms_of_deed_2
      rw [ap_sFor]
      have e0 : eTup (aCons (eC (.int 1)) (aCons (eC (.int 2)) (aCons (eC (.int 3)) aNil))) [some (.str s), some (.ref h.length), some (.str t), x3, x4] (h ++ [.lst acc]) = .ok (.tup (perL.map D.int)) (h ++ [.lst acc]) := rfl
      rw [e0, thenS_ok, forX_tup]
      have r := forT_ix (g := gN 3) (b := b_forms_of_deed_1 deedS) D.int perL (fun j δ h' => (∃ x3 x4, δ = [some (.str s), some (.ref h.length), some (.str t), x3, x4]) ∧ h' = h ++ [.lst (acc ++ (perL.take j).flatMap (dRow2 s t))]) (δ := [some (.str s), some (.ref h.length), some (.str t), x3, x4]) (h := h ++ [.lst acc]) ⟨⟨x3, x4, rfl⟩, by simp⟩ fun j p δ h' hj q => by
        obtain ⟨⟨x3, x4, rfl⟩, rfl⟩ := q
        have hp : p ∈ perL := List.mem_of_getElem? hj
        have lb := dRow3_len s t j
        refine ⟨_, _, rfl, .nx (deeds_turn (x4 := x4) l1 l2 ht hp (by rw [List.length_append]; omega)) ⟨⟨_, _, rfl⟩, ?_⟩⟩
        rw [take_succ_flat (dRow2 s t) hj, List.append_assoc]
      obtain ⟨δ2, h2, e2, ⟨x3', x4', rfl⟩, rfl⟩ := r.ex
      exact .nx e2 ⟨⟨_, _, _, rfl⟩, rfl⟩
    exact r
  obtain ⟨δ2, h2, e2, ⟨x2, x3, x4, rfl⟩, rfl⟩ := q.ex
  refine run_nx e2 ?_
  simp
theorem bnd_dRow (n : Nat) (s t : List Nat) (p : Int) (m : Bool) : bnd n (dRow s t p m) = true := rfl
theorem bnds_of {n : Nat} : ∀ {l : List D}, (∀ d ∈ l, bnd n d = true) → bnds n l = true
  | [], _ => rfl
  | a :: l, H => by
    unfold bnds
    rw [H a List.mem_cons_self, bnds_of fun d hd => H d (List.mem_cons_of_mem _ hd)]
    rfl
theorem deeds_cl (xs : List D) (h : VH) (w : wf h) : Cl h.length (runF 1 5 (b_forms_of_deed deedS) xs h) (deedsS xs h) := by
  have run : ∀ x, runF 1 5 (b_forms_of_deed deedS) [x] h = endF (b_forms_of_deed deedS [some x, none, none, none, none] h) := fun x => rfl
  unfold deedsS
  split
  · rename_i s
    split
    · rename_i hl
      rw [run, deeds_run hl.1 hl.2]
      refine .v w (bnds_of fun d hd => ?_)
      obtain ⟨t, _, hd⟩ := List.mem_flatMap.mp hd
      obtain ⟨p, _, hd⟩ := List.mem_flatMap.mp hd
      obtain ⟨m, _, rfl⟩ := List.mem_map.mp hd
      exact bnd_dRow _ _ _ _ _
    · exact .bad
  · exact .bad
end K22
set_option Elab.async false
set_option linter.all false
set_option maxRecDepth 100000
set_option maxHeartbeats 4000000
namespace K22
open PySem FL
open Classical in
noncomputable def inv {α : Type} (en : α → D) (x : D) : Option α := if h : ∃ a, en a = x then some h.choose else none
theorem inv_en {α : Type} {en : α → D} (hi : ∀ a b, en a = en b → a = b) (a : α) : inv en (en a) = some a := by
  have h : ∃ b, en b = en a := ⟨a, rfl⟩
  unfold inv
  rw [dif_pos h]
  exact congrArg some (hi _ _ h.choose_spec)
theorem inv_some {α : Type} {en : α → D} {x : D} {a : α} (e : inv en x = some a) : x = en a := by
  unfold inv at e
  split at e
  · rename_i h
    cases e
    exact h.choose_spec.symm
  · cases e
theorem map_str_inj : ∀ {a b : List (List Nat)}, a.map D.str = b.map D.str → a = b
  | [], [], _ => rfl
  | [], _ :: _, e => by simp at e
  | _ :: _, [], e => by simp at e
  | x :: a, y :: b, e => by
    rw [List.map_cons, List.map_cons] at e
    injection e with e1 e2
    injection e1 with e1
    rw [e1, map_str_inj e2]
structure Book where
  things : List (List Nat × Int)
  deeds : List (List Nat)
  marks : List (List Nat)
def thD (t : List Nat × Int) : D := .tup [.str t.1, .int t.2]
def bookD (B : Book) : D := .tup [.tup (B.things.map thD), .tup (B.deeds.map D.str), .tup (B.marks.map D.str)]
theorem map_thD_inj : ∀ {a b : List (List Nat × Int)}, a.map thD = b.map thD → a = b
  | [], [], _ => rfl
  | [], _ :: _, e => by simp at e
  | _ :: _, [], e => by simp at e
  | (x, i) :: a, (y, j) :: b, e => by
    rw [List.map_cons, List.map_cons] at e
    injection e with e1 e2
    unfold thD at e1
    simp only [D.tup.injEq, List.cons.injEq, D.str.injEq, D.int.injEq, and_true] at e1
    rw [e1.1, e1.2, map_thD_inj e2]
theorem bookD_inj (A B : Book) (e : bookD A = bookD B) : A = B := by
  obtain ⟨a1, a2, a3⟩ := A
  obtain ⟨b1, b2, b3⟩ := B
  unfold bookD at e
  simp only [D.tup.injEq, List.cons.injEq, and_true] at e
  rw [map_thD_inj e.1, map_str_inj e.2.1, map_str_inj e.2.2]
theorem inv_book (B : Book) : inv bookD (bookD B) = some B := inv_en bookD_inj B
inductive Wh where
  | thing (s : List Nat) (k : Int) (c : List Nat) (m : Bool)
  | mark (s : List Nat) (k : Int) (c : List Nat) (m : Bool)
  | deed (s t : List Nat) (p : Int) (m : Bool)
  | who (w c : List Nat) (m : Bool)
  | asked (c : List Nat)
def wThing : List Nat := [116, 104, 105, 110, 103]
def wMark : List Nat := [109, 97, 114, 107]
def wDeed : List Nat := [100, 101, 101, 100]
def wWho : List Nat := [119, 104, 111]
def wAsked : List Nat := [97, 115, 107, 101, 100]
def whD : Wh → D
  | .thing s k c m => .tup [.str wThing, .str s, .int k, .str c, .bl m]
  | .mark s k c m => .tup [.str wMark, .str s, .int k, .str c, .bl m]
  | .deed s t p m => .tup [.str wDeed, .str s, .str t, .int p, .bl m]
  | .who w c m => .tup [.str wWho, .str w, .str c, .bl m]
  | .asked c => .tup [.str wAsked, .str c]
def whF : Wh → List Nat
  | .thing s k c m => thingW s k c m
  | .mark s k c m => thingW s k c m
  | .deed s t p m => deedW s t p m
  | .who w c m => whoW w c m
  | .asked c => askW c
def thWs (s : List Nat) (k : Int) : List Wh := casesL.flatMap fun c => bothL.map (Wh.thing s k c)
def mkWs (s : List Nat) (k : Int) : List Wh := casesL.flatMap fun c => bothL.map (Wh.mark s k c)
def ddWs (s : List Nat) : List Wh := timesL.flatMap fun t => perL.flatMap fun p => bothL.map (Wh.deed s t p)
def whoWs (w : List Nat) : List Wh := casesL.flatMap fun c => bothL.map (Wh.who w c)
def rowsB (B : Book) : List Wh := B.things.flatMap (fun t => thWs t.1 t.2) ++ (B.marks.flatMap (fun s => mkWs s 0 ++ mkWs s 1) ++ (B.deeds.flatMap ddWs ++ (whoL.flatMap whoWs ++ casesL.map Wh.asked)))
def keysOf (l : List Wh) : List (List Nat) := l.foldl (fun ks r => ins ks (whF r)) []
def atF (l : List Wh) (f : List Nat) : List Wh := l.filter fun r => decide (whF r = f)
def tabD (l : List Wh) : D := .fdc ((keysOf l).map D.str) ((keysOf l).map fun f => .fls ((atF l f).map whD))
theorem keysOf_snoc (l : List Wh) (r : Wh) : keysOf (l ++ [r]) = ins (keysOf l) (whF r) := by unfold keysOf; rw [List.foldl_append]; rfl
theorem keysOf_mem {l : List Wh} {f : List Nat} : f ∈ keysOf l ↔ ∃ r ∈ l, whF r = f := by
  unfold keysOf
  suffices ∀ (l : List Wh) (ks : List (List Nat)), f ∈ l.foldl (fun ks r => ins ks (whF r)) ks ↔ f ∈ ks ∨ ∃ r ∈ l, whF r = f by
    rw [this]; simp
  intro l
  induction l with
  | nil => intro ks; simp
  | cons r l ih =>
    intro ks
    rw [List.foldl_cons, ih, ins_mem]
    constructor
    · rintro ((h | h) | ⟨x, hx, e⟩)
      · exact .inl h
      · exact .inr ⟨r, List.mem_cons_self, h.symm⟩
      · exact .inr ⟨x, List.mem_cons_of_mem _ hx, e⟩
    · rintro (h | ⟨x, hx, e⟩)
      · exact .inl (.inl h)
      · rcases List.mem_cons.mp hx with rfl | hx
        · exact .inl (.inr e.symm)
        · exact .inr ⟨x, hx, e⟩
theorem keysOf_nodup (l : List Wh) : (keysOf l).Nodup := by
  unfold keysOf
  suffices ∀ (l : List Wh) (ks : List (List Nat)), ks.Nodup → (l.foldl (fun ks r => ins ks (whF r)) ks).Nodup from this l [] List.nodup_nil
  intro l
  induction l with
  | nil => exact fun _ h => h
  | cons r l ih => exact fun ks h => ih _ (ins_nodup h)
theorem keysOf_len (l : List Wh) : (keysOf l).length ≤ l.length := by
  unfold keysOf
  suffices ∀ (l : List Wh) (ks : List (List Nat)), (l.foldl (fun ks r => ins ks (whF r)) ks).length ≤ ks.length + l.length by simpa using this l []
  intro l
  induction l with
  | nil => intro ks; simp
  | cons r l ih =>
    intro ks
    have h := ih (ins ks (whF r))
    have e : (ins ks (whF r)).length ≤ ks.length + 1 := by
      unfold ins
      split
      · omega
      · simp
    rw [List.foldl_cons, List.length_cons]
    omega
theorem atF_snoc (l : List Wh) (r : Wh) (f : List Nat) : atF (l ++ [r]) f = if whF r = f then atF l f ++ [r] else atF l f := by
  unfold atF
  rw [List.filter_append]
  by_cases h : whF r = f
  · simp [h]
  · simp [h]
theorem atF_len (l : List Wh) (f : List Nat) : (atF l f).length ≤ l.length := List.length_filter_le _ _
structure TabI (h : VH) (l : List Wh) (h1 : VH) : Prop where
  ex : ∃ (J : List (List Nat × Nat)) (g : VH), h1 = h ++ (O.dct (J.map fun p => (D.str p.1, D.ref (h.length + (p.2 + 1)))) :: g) ∧ J.map (·.1) = keysOf l ∧ (J.map (·.2)).Nodup ∧ (∀ p ∈ J, g[p.2]? = some (.lst ((atF l p.1).map whD))) ∧ g.all notFk = true
theorem dGet_J {n : Nat} (f : List Nat) : ∀ J : List (List Nat × Nat), dGet (J.map fun p => (D.str p.1, D.ref (n + (p.2 + 1)))) (.str f) = (J.find? fun p => decide (p.1 = f)).map fun p => D.ref (n + (p.2 + 1))
  | [] => rfl
  | p :: J => by
    simp only [List.map_cons, dGet, keyEq, List.find?_cons]
    by_cases e : p.1 = f
    · simp [e]
    · simp [e, dGet_J f J]
theorem dPut_J {n : Nat} {f : List Nat} {v : D} : ∀ {J : List (List Nat × Nat)}, f ∉ J.map (·.1) → dPut (J.map fun p => (D.str p.1, D.ref (n + (p.2 + 1)))) (.str f) v = (J.map fun p => (D.str p.1, D.ref (n + (p.2 + 1)))) ++ [(.str f, v)]
  | [], _ => rfl
  | p :: J, e => by
    simp only [List.map_cons, List.mem_cons, not_or] at e
    have ne : ¬ p.1 = f := fun z => e.1 z.symm
    simp [dPut, keyEq, ne, dPut_J e.2]
theorem nodup_fst {α β : Type} {J : List (α × β)} (h : (J.map (·.1)).Nodup) {p q : α × β} (hp : p ∈ J) (hq : q ∈ J) (e : p.1 = q.1) : p = q := by
  induction J with
  | nil => cases hp
  | cons x J ih =>
    rw [List.map_cons, List.nodup_cons] at h
    rcases List.mem_cons.mp hp with hp' | hp'
    · rcases List.mem_cons.mp hq with hq' | hq'
      · rw [hp', hq']
      · rw [hp'] at e
        exact absurd (List.mem_map.mpr ⟨q, hq', e.symm⟩) h.1
    · rcases List.mem_cons.mp hq with hq' | hq'
      · rw [hq'] at e
        exact absurd (List.mem_map.mpr ⟨p, hp', e⟩) h.1
      · exact ih h.2 hp' hq'
theorem nodup_snd {α β : Type} {J : List (α × β)} (h : (J.map (·.2)).Nodup) {p q : α × β} (hp : p ∈ J) (hq : q ∈ J) (e : p.2 = q.2) : p = q := by
  induction J with
  | nil => cases hp
  | cons x J ih =>
    rw [List.map_cons, List.nodup_cons] at h
    rcases List.mem_cons.mp hp with hp' | hp'
    · rcases List.mem_cons.mp hq with hq' | hq'
      · rw [hp', hq']
      · rw [hp'] at e
        exact absurd (List.mem_map.mpr ⟨q, hq', e.symm⟩) h.1
    · rcases List.mem_cons.mp hq with hq' | hq'
      · rw [hq'] at e
        exact absurd (List.mem_map.mpr ⟨p, hp', e⟩) h.1
      · exact ih h.2 hp' hq'
theorem TabI.zero (h : VH) : TabI h [] (h ++ [.dct []]) := ⟨[], [], rfl, rfl, List.nodup_nil, fun p hp => (nomatch hp), rfl⟩
theorem add_row {fe we : FE} {δ : DS} {h h1 : VH} {l : List Wh} {r : Wh} (I : TabI h l h1) (h4 : δ[4]? = some (some (.ref h.length))) (hf : fe δ h1 = .ok (.str (whF r)) h1) (hw : ∀ h2, we δ h2 = .ok (whD r) h2) (hl : l.length < 100000) :
    ∃ h2, sEx (eM isL mAppend (eM isDc mSetd (eV 4) (aCons fe (aCons (eLst aNil) aNil))) (aCons we aNil)) δ h1 = .nx δ h2 ∧ TabI h (l ++ [r]) h2 := by
  obtain ⟨J, g, e1, e2, e3, e4, e5⟩ := I.ex
  subst e1
  have nk : (J.map (·.1)).Nodup := by rw [e2]; exact keysOf_nodup l
  have hJ : J.length ≤ l.length := by
    have := keysOf_len l
    rw [← e2, List.length_map] at this
    exact this
  have q0 : (h ++ (O.dct (J.map fun p => (D.str p.1, D.ref (h.length + (p.2 + 1)))) :: g)).length = h.length + (g.length + 1) := by simp
  cases hx : J.find? fun p => decide (p.1 = whF r) with
  | some p =>
    have pm := List.mem_of_find?_eq_some hx
    have pf : p.1 = whF r := by simpa using List.find?_some hx
    have hj : p.2 < g.length := (List.getElem?_eq_some_iff.mp (e4 p pm)).1
    have s1 : mSetd (.ref h.length) [.str (whF r), .ref (h.length + (g.length + 1))] (h ++ (O.dct (J.map fun p => (D.str p.1, D.ref (h.length + (p.2 + 1)))) :: (g ++ [O.lst []]))) = some (.ref (h.length + (p.2 + 1)), h ++ (O.dct (J.map fun p => (D.str p.1, D.ref (h.length + (p.2 + 1)))) :: (g ++ [O.lst []]))) := by
      have hz : J.length < 16777216 := by omega
      simp [mSetd, isKey, hz, dGet_J, hx]
    have at1 : (g ++ [O.lst []])[p.2]? = some (.lst ((atF l p.1).map whD)) := by rw [List.getElem?_append_left hj]; exact e4 p pm
    have hz2 : (atF l p.1).length < 16777216 := by have := atF_len l p.1; omega
    have s2 : mAppend (.ref (h.length + (p.2 + 1))) [whD r] (h ++ (O.dct (J.map fun p => (D.str p.1, D.ref (h.length + (p.2 + 1)))) :: (g ++ [O.lst []]))) = some (.non, h ++ (O.dct (J.map fun p => (D.str p.1, D.ref (h.length + (p.2 + 1)))) :: (g ++ [O.lst []]).set p.2 (O.lst ((atF l p.1).map whD ++ [whD r])))) := by
      simp [at1, hz2]
    refine ⟨_, ?_, J, (g ++ [O.lst []]).set p.2 (O.lst ((atF l p.1).map whD ++ [whD r])), rfl, ?_, e3, fun q qm => ?_, ?_⟩
    · simp [h4, hf, hw, isDc, s1, isL, at1, s2]
    · rw [keysOf_snoc, e2]
      unfold ins
      rw [if_pos (by rw [← e2, ← pf]; exact List.mem_map.mpr ⟨p, pm, rfl⟩)]
    · by_cases z : q.2 = p.2
      · have qp := nodup_snd e3 qm pm z
        subst qp
        rw [List.getElem?_set_self (by simp; omega), atF_snoc, if_pos pf.symm, List.map_append]
        rfl
      · have nf : ¬ whF r = q.1 := fun y => z (congrArg (·.2) (nodup_fst nk qm pm (y.symm.trans pf.symm)))
        have hq : q.2 < g.length := (List.getElem?_eq_some_iff.mp (e4 q qm)).1
        rw [List.getElem?_set_ne (fun y => z y.symm), List.getElem?_append_left hq, e4 q qm, atF_snoc, if_neg nf]
    · rw [List.all_eq_true] at e5 ⊢
      intro o ho
      rcases List.mem_or_eq_of_mem_set ho with z | z
      · rcases List.mem_append.mp z with z | z
        · exact e5 o z
        · rw [List.mem_singleton.mp z]; rfl
      · rw [z]; rfl
  | none =>
    have nf : whF r ∉ J.map (·.1) := fun z => by
      obtain ⟨p, pm, pe⟩ := List.mem_map.mp z
      have := List.find?_eq_none.mp hx p pm
      simp [pe] at this
    have s1 : mSetd (.ref h.length) [.str (whF r), .ref (h.length + (g.length + 1))] (h ++ (O.dct (J.map fun p => (D.str p.1, D.ref (h.length + (p.2 + 1)))) :: (g ++ [O.lst []]))) = some (.ref (h.length + (g.length + 1)), h ++ (O.dct ((J ++ [(whF r, g.length)]).map fun p => (D.str p.1, D.ref (h.length + (p.2 + 1)))) :: (g ++ [O.lst []]))) := by
      have hz : J.length < 16777216 := by omega
      simp [mSetd, isKey, hz, dGet_J, hx, dPut_J nf]
    refine ⟨h ++ (O.dct ((J ++ [(whF r, g.length)]).map fun p => (D.str p.1, D.ref (h.length + (p.2 + 1)))) :: (g ++ [O.lst [whD r]])), ?_, J ++ [(whF r, g.length)], g ++ [O.lst [whD r]], rfl, ?_, ?_, fun q qm => ?_, ?_⟩
    · have e0 : (h ++ (O.dct (J.map fun p => (D.str p.1, D.ref (h.length + (p.2 + 1)))) :: g)) ++ [O.lst []] = h ++ (O.dct (J.map fun p => (D.str p.1, D.ref (h.length + (p.2 + 1)))) :: (g ++ [O.lst []])) := by simp
      have s2 : mAppend (.ref (h.length + (g.length + 1))) [whD r] (h ++ (O.dct ((J ++ [(whF r, g.length)]).map fun p => (D.str p.1, D.ref (h.length + (p.2 + 1)))) :: (g ++ [O.lst []]))) = some (.non, h ++ (O.dct ((J ++ [(whF r, g.length)]).map fun p => (D.str p.1, D.ref (h.length + (p.2 + 1)))) :: (g ++ [O.lst [whD r]]))) := by
        simp
      have s3 : isL (.ref (h.length + (g.length + 1))) (h ++ (O.dct ((J ++ [(whF r, g.length)]).map fun p => (D.str p.1, D.ref (h.length + (p.2 + 1)))) :: (g ++ [O.lst []]))) = true := by simp [isL]
      have s4 : isDc (.ref h.length) (h ++ (O.dct (J.map fun p => (D.str p.1, D.ref (h.length + (p.2 + 1)))) :: g)) = true := by simp [isDc]
      simp only [ap_sEx, ap_eM, ap_eV, h4, vK_some, bind_ok, s4, if_true, ap_aCons, hf, ap_eLst, ap_aNil, List.length_nil, Nat.zero_le, e0, q0, s1, of_some, s3, hw, s2, thenS_ok]
    · rw [keysOf_snoc, List.map_append, e2]
      unfold ins
      rw [if_neg (by rw [← e2]; exact nf)]
      rfl
    · rw [List.map_append]
      refine List.nodup_append.mpr ⟨e3, by simp, fun a ha b hb z => ?_⟩
      obtain ⟨p, pm, rfl⟩ := List.mem_map.mp ha
      have hp : p.2 < g.length := (List.getElem?_eq_some_iff.mp (e4 p pm)).1
      simp at hb
      omega
    · rcases List.mem_append.mp qm with z | z
      · have nq : ¬ whF r = q.1 := fun y => nf (by rw [y]; exact List.mem_map.mpr ⟨q, z, rfl⟩)
        have hq : q.2 < g.length := (List.getElem?_eq_some_iff.mp (e4 q z)).1
        rw [List.getElem?_append_left hq, e4 q z, atF_snoc, if_neg nq]
      · rw [List.mem_singleton.mp z]
        have e6 : atF l (whF r) = [] := by
          unfold atF
          rw [List.filter_eq_nil_iff]
          intro x hx y
          have : whF r ∈ keysOf l := keysOf_mem.mpr ⟨x, hx, by simpa using y⟩
          rw [← e2] at this
          exact nf this
        rw [atF_snoc, if_pos rfl, e6]
        simp
    · rw [List.all_append, e5]
      rfl
end K22
set_option Elab.async false
set_option linter.all false
set_option maxRecDepth 100000
set_option maxHeartbeats 4000000
namespace K22
open PySem FL
def thsD (l : List (List Nat × Int)) : D := .tup (l.map thD)
def strsD (l : List (List Nat)) : D := .tup (l.map D.str)
theorem thsD_inj (a b : List (List Nat × Int)) (e : thsD a = thsD b) : a = b := by
  unfold thsD at e
  exact map_thD_inj (D.tup.inj e)
theorem strsD_inj (a b : List (List Nat)) (e : strsD a = strsD b) : a = b := by
  unfold strsD at e
  exact map_str_inj (D.tup.inj e)
def ltTh (a b : List Nat × Int) : Bool := PySem.W.dataLt (toQ 12 (thD a)) (toQ 12 (thD b))
def ltSt (a b : List Nat) : Bool := decide (a < b)
def risesW {α : Type} (lt : α → α → Bool) (xs : List α) : Bool := (List.range (xs.length - 1)).all fun k => match xs[k]?, xs[k + 1]? with
  | some a, some b => lt a b
  | _, _ => true
noncomputable def risesS : List D → VH → Out D
  | [x], h => match inv strsD x with
    | some l => if l.length ≤ 1000000 then .ok (.bl (risesW ltSt l)) h else .bad
    | none => match inv thsD x with
      | some l => if l.length ≤ 1000000 then .ok (.bl (risesW ltTh l)) h else .bad
      | none => .bad
  | _, _ => .bad
theorem stT_rng {g : FG} {t : FT} {e : FE} {own : List Nat} {δ : DS} {h : VH} (p : Nat → Bool) (N : Nat) (H : ∀ k, k < N → ∃ δ1, g (.int (k : Int)) (FL.wipe δ own) h = some (δ1, h) ∧ t δ1 h = .ok true h ∧ e δ1 h = .ok (.bl (p k)) h) :
    stT false g t e own δ ((List.range N).map fun (k : Nat) => D.int (k : Int)) h = .ok ((List.range N).all p) h :=
  stT_all (fun (k : Nat) => D.int (k : Int)) p (List.range N) fun k hk => H k (List.mem_range.mp hk)
theorem rises_run {α : Type} {en : α → D} {lt : α → α → Bool} {l : List α} {h : VH} (hl : l.length ≤ 1000000) (hc : ∀ a ∈ l, ∀ b ∈ l, cLtD (en a) (en b) h = some (.bl (lt a b), h)) : endF (b_rises [some (.tup (l.map en)), none] h) = .ok (.bl (risesW lt l)) h := by
  unfold b_rises
  cases l with
  | nil => rfl
  | cons a0 l0 =>
    generalize hL : a0 :: l0 = L at *
    have h0 : 0 < L.length := by rw [← hL]; simp
    have c0 : ((L.length : Int) - 1) = ((L.length - 1 : Nat) : Int) := by omega
    have q := stT_rng (g := gN 1) (t := tYes) (e := FL.e2 cLtD (FL.e2 oIx (eV 0) (eV 1)) (FL.e2 oIx (eV 0) (FL.e2 oAdd (eV 1) (eC (.int 1))))) (own := [1]) (δ := [some (.tup (L.map en)), none]) (h := h) (fun k => match L[k]?, L[k + 1]? with
      | some a, some b => lt a b
      | _, _ => true) (L.length - 1) fun k hk => ⟨_, rfl, rfl, by
        have k1 : k < L.length := by omega
        have k2 : k + 1 < L.length := by omega
        have i1 : atI (L.map en) (k : Int) = some (en L[k]) := by rw [atI_nat, List.getElem?_map, List.getElem?_eq_getElem k1]; rfl
        have i2 : atI (L.map en) ((k : Int) + 1) = some (en L[k + 1]) := by
          rw [show ((k : Int) + 1) = ((k + 1 : Nat) : Int) by omega, atI_nat, List.getElem?_map, List.getElem?_eq_getElem k2]; rfl
        have c := hc L[k] (List.getElem_mem k1) L[k + 1] (List.getElem_mem k2)
        rw [List.getElem?_eq_getElem k1, List.getElem?_eq_getElem k2]
        simp [FL.wipe, i1, i2, c]⟩
    have e1 : rEnds [.int ((L.length - 1 : Nat) : Int)] = some (0, ((L.length - 1 : Nat) : Int)) := rEnds_1 (by omega)
    simp [c0, e1, rng0, q]
    rfl
theorem cLtD_str {a b : List Nat} {h : VH} : cLtD (.str a) (.str b) h = some (.bl (ltSt a b), h) := rfl
theorem cLtD_th {a b : List Nat × Int} {h : VH} : cLtD (thD a) (thD b) h = some (.bl (ltTh a b), h) := by
  obtain ⟨a, i⟩ := a
  obtain ⟨b, j⟩ := b
  rfl
theorem rises_eq (xs : List D) (h : VH) : risesS xs h = .bad ∨ runF 1 2 b_rises xs h = risesS xs h := by
  unfold risesS
  split
  · rename_i x
    cases h1 : inv strsD x with
    | some l =>
      dsimp only
      split
      · rename_i hl
        right
        rw [inv_some h1]
        exact rises_run (en := D.str) hl fun a _ b _ => cLtD_str
      · exact .inl rfl
    | none =>
      dsimp only
      cases h2 : inv thsD x with
      | none => exact .inl rfl
      | some l =>
        dsimp only
        split
        · rename_i hl
          right
          rw [inv_some h2]
          exact rises_run (en := thD) hl fun a _ b _ => cLtD_th
        · exact .inl rfl
  · exact .inl rfl
theorem risesS_str {l : List (List Nat)} {h : VH} (hl : l.length ≤ 1000000) : risesS [.tup (l.map D.str)] h = .ok (.bl (risesW ltSt l)) h := by
  show (match inv strsD (strsD l) with
    | some l => if l.length ≤ 1000000 then Out.ok (D.bl (risesW ltSt l)) h else .bad
    | none => match inv thsD (strsD l) with
      | some l => if l.length ≤ 1000000 then .ok (.bl (risesW ltTh l)) h else .bad
      | none => .bad) = _
  rw [inv_en strsD_inj]
  dsimp only
  rw [if_pos hl]
theorem inv_none {α : Type} {en : α → D} {x : D} (h : ∀ a, en a ≠ x) : inv en x = none := by
  unfold inv
  rw [dif_neg]
  exact fun ⟨a, e⟩ => h a e
theorem risesS_th {l : List (List Nat × Int)} {h : VH} (hl : l.length ≤ 1000000) : risesS [.tup (l.map thD)] h = .ok (.bl (risesW ltTh l)) h := by
  cases l with
  | nil => exact risesS_str (l := []) (by decide)
  | cons a l =>
    have e1 : inv strsD (thsD (a :: l)) = none := inv_none fun b e => by
      unfold strsD thsD at e
      cases b with
      | nil => cases e
      | cons x b =>
        have := D.tup.inj e
        rw [List.map_cons, List.map_cons] at this
        injection this with e1 _
        cases e1
    show (match inv strsD (thsD (a :: l)) with
      | some l => if l.length ≤ 1000000 then Out.ok (D.bl (risesW ltSt l)) h else .bad
      | none => match inv thsD (thsD (a :: l)) with
        | some l => if l.length ≤ 1000000 then .ok (.bl (risesW ltTh l)) h else .bad
        | none => .bad) = _
    rw [e1]
    dsimp only
    rw [inv_en thsD_inj]
    dsimp only
    rw [if_pos hl]
def kindsOk (l : List (List Nat × Int)) : Bool := l.all fun t => decide (t.2 ∈ [0, 1])
def stemsB (B : Book) : List (List Nat) := B.things.map (·.1) ++ B.deeds ++ B.marks
def isBookW (B : Book) : Bool := kindsOk B.things && ((stemsB B).all isStem && (decide ((stemsB B).Nodup) && (risesW ltTh B.things && (risesW ltSt B.deeds && risesW ltSt B.marks))))
def smallB (B : Book) : Prop := B.things.length ≤ 1000 ∧ B.deeds.length ≤ 1000 ∧ B.marks.length ≤ 1000 ∧ ∀ s ∈ stemsB B, s.length ≤ 16777216
def badBooks : List D := [.tup [.tup [], .tup []], .non]
def isBadB (x : D) : Prop := x ∈ badBooks ∨ ∃ n, x = .int n
open Classical in
noncomputable def isbS : List D → VH → Out D
  | [x], h => match inv bookD x with
    | some B => if smallB B then .ok (.bl (isBookW B)) h else .bad
    | none => if isBadB x then .ok (.bl false) h else .bad
  | _, _ => .bad
theorem insN_len1 (l : List (List Nat)) (k : List Nat) : (insN l k).length = if k ∈ l then l.length else l.length + 1 := by
  unfold insN
  split <;> simp
theorem foldl_insN_len : ∀ (l acc : List (List Nat)), acc.Nodup → (((l.foldl insN acc).length = acc.length + l.length) ↔ (l.Nodup ∧ ∀ a ∈ l, a ∉ acc)) ∧ (l.foldl insN acc).length ≤ acc.length + l.length
  | [], acc, _ => by simp
  | x :: l, acc, hn => by
    rw [List.foldl_cons]
    have hn2 : (insN acc x).Nodup := by
      unfold insN
      split
      · exact hn
      · rename_i hx
        exact List.nodup_cons.mpr ⟨hx, hn⟩
    obtain ⟨h1, h2⟩ := foldl_insN_len l (insN acc x) hn2
    have e := insN_len1 acc x
    by_cases hx : x ∈ acc
    · rw [if_pos hx] at e
      refine ⟨⟨fun z => ?_, fun z => absurd hx (z.2 x List.mem_cons_self)⟩, by rw [List.length_cons]; omega⟩
      rw [List.length_cons] at z
      omega
    · rw [if_neg hx] at e
      refine ⟨?_, by rw [List.length_cons]; omega⟩
      have e3 : ((l.foldl insN (insN acc x)).length = acc.length + (x :: l).length) ↔ ((l.foldl insN (insN acc x)).length = (insN acc x).length + l.length) := by
        rw [e, List.length_cons]
        omega
      rw [e3, h1]
      have e4 : insN acc x = x :: acc := by unfold insN; rw [if_neg hx]
      rw [e4]
      constructor
      · rintro ⟨a, b⟩
        refine ⟨List.nodup_cons.mpr ⟨fun z => b x z List.mem_cons_self, a⟩, fun y hy => ?_⟩
        rcases List.mem_cons.mp hy with rfl | hy
        · exact hx
        · exact fun z => b y hy (List.mem_cons_of_mem _ z)
      · rintro ⟨a, b⟩
        obtain ⟨a1, a2⟩ := List.nodup_cons.mp a
        refine ⟨a2, fun y hy z => ?_⟩
        rcases List.mem_cons.mp z with rfl | z
        · exact a1 hy
        · exact b y (List.mem_cons_of_mem _ hy) z
theorem nubN_len (l : List (List Nat)) : ((nubN l).length = l.length) ↔ l.Nodup := by
  have := (foldl_insN_len l [] List.nodup_nil).1
  simpa [nubN] using this
theorem scLen_of {a : FE} {i : Nat} {own : List Nat} {δ : DS} {h : VH} {d : D} {l : List (List Nat)} (ha : a δ h = .ok d h) (hd : itOf d = some (l.map D.str)) (hl : l.length ≤ 4095) (hi : i < (FL.wipe δ own).length) : eSc lenFin a (gN i) tYes (eV i) own δ h = .ok (.int ((nubN l).length : Nat)) h := by
  rw [ap_eSc, ha, bind_ok, hd]
  dsimp only
  rw [scT_of D.str (fun x => x) l [] (by simpa using hl) fun x hx => ⟨_, rfl, rfl, by rw [ap_eV, List.getElem?_set_self hi]; rfl⟩]
  simp [scEnd, lenFin, nubN]
theorem isb_run {B : Book} {h : VH} (hs : smallB B) : endF (b_is_book stemS risesS [some (bookD B), none, none, none, none, none, none, none] h) = .ok (.bl (isBookW B)) h := by
  obtain ⟨l1, l2, l3, l4⟩ := hs
  unfold b_is_book
  refine run_nx (δ1 := [some (bookD B), none, none, none, none, none, none, none]) (h1 := h) ?_ ?_
  · have e1 : stT false (gN 1) tYes (eB bIsi (aCons (eV 1) (aCons (eC (.ty "tuple")) aNil))) [1] [some (bookD B), none, none, none, none, none, none, none] [.tup (B.things.map thD), .tup (B.deeds.map D.str), .tup (B.marks.map D.str)] h = .ok true h :=
      stT_all id (fun _ => true) [.tup (B.things.map thD), .tup (B.deeds.map D.str), .tup (B.marks.map D.str)] fun x hx => ⟨_, rfl, rfl, by
        have : ∃ ys, x = .tup ys := by
          simp only [List.mem_cons, List.not_mem_nil, or_false] at hx
          rcases hx with rfl | rfl | rfl <;> exact ⟨_, rfl⟩
        obtain ⟨ys, rfl⟩ := this
        simp [FL.wipe]⟩
    have b1 : bIsi [bookD B, .ty "tuple"] h = some (.bl true, h) := rfl
    have b2 : bLen [bookD B] h = some (.int 3, h) := rfl
    have b3 : stX false (gN 1) tYes (eB bIsi (aCons (eV 1) (aCons (eC (.ty "tuple")) aNil))) [1] [some (bookD B), none, none, none, none, none, none, none] (bookD B) h = .ok (.bl true) h := by
      show stEnd (stT false (gN 1) tYes (eB bIsi (aCons (eV 1) (aCons (eC (.ty "tuple")) aNil))) [1] [some (bookD B), none, none, none, none, none, none, none] [.tup (B.things.map thD), .tup (B.deeds.map D.str), .tup (B.marks.map D.str)] h) = _
      rw [e1]
      rfl
    simp [-bIsi_x, b1, b2, b3]
  refine run_nx (δ1 := [some (bookD B), none, some (.tup (B.things.map thD)), some (.tup (B.deeds.map D.str)), some (.tup (B.marks.map D.str)), none, none, none]) (h1 := h) rfl ?_
  have e2 : stT false (gN 5) tYes (eAnd (eB bIsi (aCons (eV 5) (aCons (eC (.ty "tuple")) aNil))) (eAnd (FL.e2 cEq (eB bLen (aCons (eV 5) aNil)) (eC (.int 2))) (FL.e2 cIn (FL.e2 oIx (eV 5) (eC (.int 1))) (eTup (aCons (eC (.int 0)) (aCons (eC (.int 1)) aNil)))))) [5] [some (bookD B), none, some (.tup (B.things.map thD)), some (.tup (B.deeds.map D.str)), some (.tup (B.marks.map D.str)), none, none, none] (B.things.map thD) h = .ok (kindsOk B.things) h :=
    stT_all thD (fun t => decide (t.2 ∈ [0, 1])) B.things fun t _ => ⟨_, rfl, rfl, by
      have c : cIn (.int t.2) (.tup [.int 0, .int 1]) h = some (.bl (decide (t.2 ∈ [0, 1])), h) := by
        unfold cIn
        rw [show inD (.int t.2) (.tup [.int 0, .int 1]) h = some (decide (t.2 ∈ [0, 1])) from inD_intT (l := [0, 1])]
      have i1 : oIx (thD t) (.int 1) h = some (.int t.2, h) := rfl
      have i2 : bIsi [thD t, .ty "tuple"] h = some (.bl true, h) := rfl
      have i3 : bLen [thD t] h = some (.int 2, h) := rfl
      simp only [FL.wipe, ap_eAnd, ap_eB, ap_aCons, ap_eV, ap_eC, ap_aNil, ap_e2, ap_eTup, List.set_cons_succ, List.set_cons_zero, List.getElem?_cons_succ, List.getElem?_cons_zero, vK_some, bind_ok, i1, i2, i3, of_some, anK_bl, if_true, cEq_ii, decide_true, List.length_cons, List.length_nil, Nat.reduceAdd, Nat.reduceLeDiff, c]⟩
  unfold isBookW
  cases hk : kindsOk B.things with
  | false =>
    rw [hk] at e2
    simp [e2]
  | true =>
  rw [hk] at e2
  refine run_nx (δ1 := [some (bookD B), none, some (.tup (B.things.map thD)), some (.tup (B.deeds.map D.str)), some (.tup (B.marks.map D.str)), none, none, none]) (h1 := h) (by simp [e2]) ?_
  have e3 : FL.eLc (eV 2) (gN 5) tYes (FL.e2 oIx (eV 5) (eC (.int 0))) [5] [some (bookD B), none, some (.tup (B.things.map thD)), some (.tup (B.deeds.map D.str)), some (.tup (B.marks.map D.str)), none, none, none] h = .ok (.fls ((B.things.map (·.1)).map D.str)) h := by
    rw [lcF_all thD (l := B.things) (.inr rfl) (by omega) (fun t => .str t.1) fun t _ => by
      have i1 : oIx (thD t) (.int 0) h = some (.str t.1, h) := rfl
      simp [FL.wipe, i1]]
    rw [List.map_map]
    rfl
  refine run_nx (δ1 := [some (bookD B), none, some (.tup (B.things.map thD)), some (.tup (B.deeds.map D.str)), some (.tup (B.marks.map D.str)), none, some (.fls ((stemsB B).map D.str)), none]) (h1 := h) ?_ ?_
  · have z1 : B.things.length + B.deeds.length ≤ 16777216 := by omega
    have z2 : B.things.length + B.deeds.length + B.marks.length ≤ 16777216 := by omega
    rw [ap_sAs, ap_e2, ap_e2, e3]
    simp [z1, z2, stemsB]
  have lS : (stemsB B).length ≤ 3000 := by unfold stemsB; simp; omega
  have e4 : stT false (gN 7) tYes (eF stemS (aCons (eV 7) aNil)) [7] [some (bookD B), none, some (.tup (B.things.map thD)), some (.tup (B.deeds.map D.str)), some (.tup (B.marks.map D.str)), none, some (.fls ((stemsB B).map D.str)), none] ((stemsB B).map D.str) h = .ok ((stemsB B).all isStem) h :=
    stT_all D.str isStem (stemsB B) fun s hs => ⟨_, rfl, rfl, by
      have q : stemS [.str s] h = .ok (.bl (isStem s)) h := if_pos (l4 s hs)
      simp [FL.wipe, q]⟩
  have e5 := scLen_of (a := eV 6) (i := 7) (own := [7]) (δ := [some (bookD B), none, some (.tup (B.things.map thD)), some (.tup (B.deeds.map D.str)), some (.tup (B.marks.map D.str)), none, some (.fls ((stemsB B).map D.str)), none]) (h := h) (l := stemsB B) rfl rfl (by omega) (show 7 < 8 by decide)
  have e6 : (decide ((((nubN (stemsB B)).length : Nat) : Int) = ((stemsB B).length : Int))) = decide ((stemsB B).Nodup) := by
    rw [decide_eq_decide, ← nubN_len]
    omega
  cases hst : (stemsB B).all isStem with
  | false =>
    rw [hst] at e4
    simp [e4]
  | true =>
  rw [hst] at e4
  cases hnd : decide ((stemsB B).Nodup) with
  | false =>
    rw [hnd] at e6
    have e6 : ¬ (((nubN (stemsB B)).length : Nat) : Int) = ((stemsB B).length : Int) := by simpa using e6
    simp [-ap_eSc, e4, e5, e6]
  | true =>
  rw [hnd] at e6
  have e6 : (((nubN (stemsB B)).length : Nat) : Int) = ((stemsB B).length : Int) := by simpa using e6
  refine run_nx (δ1 := [some (bookD B), none, some (.tup (B.things.map thD)), some (.tup (B.deeds.map D.str)), some (.tup (B.marks.map D.str)), none, some (.fls ((stemsB B).map D.str)), none]) (h1 := h) (by simp [-ap_eSc, e4, e5, e6]) ?_
  have r1 := risesS_th (l := B.things) (h := h) (by omega)
  have r2 := risesS_str (l := B.deeds) (h := h) (by omega)
  have r3 := risesS_str (l := B.marks) (h := h) (by omega)
  cases q1 : risesW ltTh B.things with
  | false => rw [q1] at r1; simp [stT, FL.wipe, r1]
  | true =>
    rw [q1] at r1
    cases q2 : risesW ltSt B.deeds with
    | false => rw [q2] at r2; simp [stT, FL.wipe, r1, r2]
    | true =>
      rw [q2] at r2
      cases q3 : risesW ltSt B.marks with
      | false => rw [q3] at r3; simp [stT, FL.wipe, r1, r2, r3]
      | true => rw [q3] at r3; simp [stT, FL.wipe, r1, r2, r3]
theorem isb_eq (xs : List D) (h : VH) : isbS xs h = .bad ∨ runF 1 8 (b_is_book stemS risesS) xs h = isbS xs h := by
  unfold isbS
  split
  · rename_i x
    cases h1 : inv bookD x with
    | some B =>
      dsimp only
      split
      · rename_i hs
        right
        rw [inv_some h1]
        exact isb_run hs
      · exact .inl rfl
    | none =>
      dsimp only
      split
      · rename_i hx
        right
        rcases hx with hx | ⟨n, rfl⟩
        · simp only [badBooks, List.mem_cons, List.not_mem_nil, or_false] at hx
          rcases hx with rfl | rfl <;> rfl
        · rfl
      · exact .inl rfl
  · exact .inl rfl
theorem isb_ok {B : Book} {h : VH} (hs : smallB B) : isbS [bookD B] h = .ok (.bl (isBookW B)) h := by
  show (match inv bookD (bookD B) with
    | some B => open Classical in if smallB B then Out.ok (D.bl (isBookW B)) h else .bad
    | none => open Classical in if isBadB (bookD B) then .ok (.bl false) h else .bad) = _
  rw [inv_book]
  dsimp only
  rw [if_pos hs]
theorem isb_bad {x : D} {h : VH} (hx : isBadB x) : isbS [x] h = .ok (.bl false) h := by
  have e : inv bookD x = none := inv_none fun B z => by
    rcases hx with hx | ⟨n, rfl⟩
    · simp only [badBooks, List.mem_cons, List.not_mem_nil, or_false] at hx
      rcases hx with rfl | rfl <;> simp [bookD] at z
    · cases z
  show (match inv bookD x with
    | some B => open Classical in if smallB B then Out.ok (D.bl (isBookW B)) h else .bad
    | none => open Classical in if isBadB x then .ok (.bl false) h else .bad) = _
  rw [e]
  dsimp only
  rw [if_pos hx]
def cbK : D → VH → Out D
  | .bl true, h => .ok .non h
  | .bl false, h => .err 1 none h
  | _, _ => .bad
noncomputable def cbS : List D → VH → Out D
  | [x], h => (isbS [x] h).bind cbK
  | _, _ => .bad
theorem isb_val (x : D) (h : VH) : isbS [x] h = .bad ∨ ∃ b, isbS [x] h = .ok (.bl b) h := by
  unfold isbS
  dsimp only
  split
  · split
    · exact .inr ⟨_, rfl⟩
    · exact .inl rfl
  · split
    · exact .inr ⟨_, rfl⟩
    · exact .inl rfl
theorem cb_eq (xs : List D) (h : VH) : cbS xs h = .bad ∨ runF 1 1 (b_check_book isbS) xs h = cbS xs h := by
  unfold cbS
  split
  · rename_i x
    rcases isb_val x h with e | ⟨b, e⟩
    · rw [e]
      exact .inl rfl
    · right
      show endF (b_check_book isbS [some x] h) = _
      unfold b_check_book
      rw [e]
      cases b <;> (simp [e]; rfl)
  · exact .inl rfl
theorem cb_ok {B : Book} {h : VH} (hs : smallB B) (hb : isBookW B = true) : cbS [bookD B] h = .ok .non h := by
  show (isbS [bookD B] h).bind cbK = _
  rw [isb_ok hs, hb]
  rfl
theorem cb_no {B : Book} {h : VH} (hs : smallB B) (hb : isBookW B = false) : cbS [bookD B] h = .err 1 none h := by
  show (isbS [bookD B] h).bind cbK = _
  rw [isb_ok hs, hb]
  rfl
theorem cb_bad {x : D} {h : VH} (hx : isBadB x) : cbS [x] h = .err 1 none h := by
  show (isbS [x] h).bind cbK = _
  rw [isb_bad hx]
  rfl
end K22
set_option Elab.async false
set_option linter.all false
set_option maxRecDepth 100000
set_option maxHeartbeats 4000000
namespace K22
open PySem FL
structure AfS (B : Book) (n : Nat) (δ : DS) : Prop where
  len : δ.length = 13
  s1 : δ[1]? = some (some (.tup (B.things.map thD)))
  s2 : δ[2]? = some (some (.tup (B.deeds.map D.str)))
  s3 : δ[3]? = some (some (.tup (B.marks.map D.str)))
  s4 : δ[4]? = some (some (.ref n))
theorem AfS.set {B : Book} {n i : Nat} {δ : DS} {x : D} (a : AfS B n δ) (hi : 5 ≤ i) : AfS B n (δ.set i (some x)) :=
  ⟨by rw [List.length_set]; exact a.len, by rw [List.getElem?_set_ne (by omega)]; exact a.s1, by rw [List.getElem?_set_ne (by omega)]; exact a.s2, by rw [List.getElem?_set_ne (by omega)]; exact a.s3, by rw [List.getElem?_set_ne (by omega)]; exact a.s4⟩
theorem set_at {δ : DS} {i : Nat} {x : D} (h : i < δ.length) : (δ.set i (some x))[i]? = some (some x) := List.getElem?_set_self h
theorem set_no {δ : DS} {i j : Nat} {x : D} (h : i ≠ j) : (δ.set i (some x))[j]? = δ[j]? := List.getElem?_set_ne h
def cm : List (List Nat × Bool) := casesL.flatMap fun c => bothL.map fun m => (c, m)
theorem thingsL_cm (s : List Nat) (k : Int) : thingsL s k = cm.map fun p => thRow s k p.1 p.2 := rfl
theorem thWs_cm (s : List Nat) (k : Int) : thWs s k = cm.map fun p => Wh.thing s k p.1 p.2 := rfl
theorem mkWs_cm (s : List Nat) (k : Int) : mkWs s k = cm.map fun p => Wh.mark s k p.1 p.2 := rfl
def tpm : List (List Nat × Int × Bool) := timesL.flatMap fun t => perL.flatMap fun p => bothL.map fun m => (t, p, m)
theorem deedsL_tpm (s : List Nat) : deedsL s = tpm.map fun x => dRow s x.1 x.2.1 x.2.2 := rfl
theorem ddWs_tpm (s : List Nat) : ddWs s = tpm.map fun x => Wh.deed s x.1 x.2.1 x.2.2 := rfl
section
variable {B : Book} {h : VH} {l : List Wh}
theorem rows_loop {α : Type} {g : FG} {b : FSt} (en : α → D) (w : α → Wh) (R : DS → Prop) : ∀ (xs : List α) (l : List Wh) (δ : DS) (h1 : VH), AfS B h.length δ → R δ → TabI h l h1 → l.length + xs.length ≤ 100000 →
    (∀ x ∈ xs, ∀ l δ h1, AfS B h.length δ → R δ → TabI h l h1 → l.length < 100000 → ∃ δ1 δ2 h2, g (en x) δ h1 = some (δ1, h1) ∧ b δ1 h1 = .nx δ2 h2 ∧ AfS B h.length δ2 ∧ R δ2 ∧ TabI h (l ++ [w x]) h2) →
    ∃ δ2 h2, forT g b (xs.map en) δ h1 = .nx δ2 h2 ∧ AfS B h.length δ2 ∧ R δ2 ∧ TabI h (l ++ xs.map w) h2
  | [], l, δ, h1, a, r, I, _, _ => ⟨δ, h1, rfl, a, r, by simpa using I⟩
  | x :: xs, l, δ, h1, a, r, I, hl, turn => by
    rw [List.length_cons] at hl
    obtain ⟨δ1, δ2, h2, e1, e2, a2, r2, I2⟩ := turn x List.mem_cons_self l δ h1 a r I (by omega)
    obtain ⟨δ3, h3, e3, a3, r3, I3⟩ := rows_loop en w R xs (l ++ [w x]) δ2 h2 a2 r2 I2 (by simp; omega) fun y hy => turn y (List.mem_cons_of_mem _ hy)
    refine ⟨δ3, h3, ?_, a3, r3, by simpa using I3⟩
    rw [List.map_cons, forT_cons, e1, tgS_some, e2, loopS_nx, e3]
theorem rows_outer {α : Type} {g : FG} {b : FSt} (en : α → D) (w : α → List Wh) (R : DS → Prop) : ∀ (xs : List α) (l : List Wh) (δ : DS) (h1 : VH), AfS B h.length δ → R δ → TabI h l h1 → l.length + (xs.flatMap w).length ≤ 50000 →
    (∀ x ∈ xs, ∀ l δ h1, AfS B h.length δ → R δ → TabI h l h1 → l.length + (w x).length ≤ 50000 → ∃ δ1 δ2 h2, g (en x) δ h1 = some (δ1, h1) ∧ b δ1 h1 = .nx δ2 h2 ∧ AfS B h.length δ2 ∧ R δ2 ∧ TabI h (l ++ w x) h2) →
    ∃ δ2 h2, forT g b (xs.map en) δ h1 = .nx δ2 h2 ∧ AfS B h.length δ2 ∧ R δ2 ∧ TabI h (l ++ xs.flatMap w) h2
  | [], l, δ, h1, a, r, I, _, _ => ⟨δ, h1, rfl, a, r, by simpa using I⟩
  | x :: xs, l, δ, h1, a, r, I, hl, turn => by
    rw [List.flatMap_cons, List.length_append] at hl
    obtain ⟨δ1, δ2, h2, e1, e2, a2, r2, I2⟩ := turn x List.mem_cons_self l δ h1 a r I (by omega)
    obtain ⟨δ3, h3, e3, a3, r3, I3⟩ := rows_outer en w R xs (l ++ w x) δ2 h2 a2 r2 I2 (by rw [List.length_append]; omega) fun y hy => turn y (List.mem_cons_of_mem _ hy)
    refine ⟨δ3, h3, ?_, a3, r3, ?_⟩
    · rw [List.map_cons, forT_cons, e1, tgS_some, e2, loopS_nx, e3]
    · rw [List.flatMap_cons, ← List.append_assoc]; exact I3
structure OkB (B : Book) : Prop where
  sm : smallB B
  bk : isBookW B = true
theorem OkB.kind (o : OkB B) {t : List Nat × Int} (ht : t ∈ B.things) : t.2 = 0 ∨ t.2 = 1 := by
  have h := o.bk
  unfold isBookW at h
  rw [Bool.and_eq_true] at h
  have := List.all_eq_true.mp h.1 t ht
  simpa using this
theorem OkB.stem (o : OkB B) {s : List Nat} (hs : s ∈ stemsB B) : 1 ≤ s.length ∧ s.length ≤ 12 := by
  have h := o.bk
  unfold isBookW at h
  simp only [Bool.and_eq_true] at h
  have q := List.all_eq_true.mp h.2.1 s hs
  unfold isStem at q
  simp only [Bool.and_eq_true, decide_eq_true_eq] at q
  exact ⟨(isWord_len q.1).1, q.2.1⟩
theorem OkB.th (o : OkB B) {t : List Nat × Int} (ht : t ∈ B.things) : 1 ≤ t.1.length ∧ t.1.length ≤ 12 := o.stem (by unfold stemsB; exact List.mem_append_left _ (List.mem_append_left _ (List.mem_map.mpr ⟨t, ht, rfl⟩)))
theorem OkB.dd (o : OkB B) {s : List Nat} (ht : s ∈ B.deeds) : 1 ≤ s.length ∧ s.length ≤ 12 := o.stem (by unfold stemsB; exact List.mem_append_left _ (List.mem_append_right _ ht))
theorem OkB.mrk (o : OkB B) {s : List Nat} (ht : s ∈ B.marks) : 1 ≤ s.length ∧ s.length ≤ 12 := o.stem (by unfold stemsB; exact List.mem_append_right _ ht)
variable {F1 F2 F3 F4 F5 : List D → VH → Out D}
theorem af_things {s : List Nat} {k : Int} {δ : DS} {h1 : VH} (a : AfS B h.length δ) (I : TabI h l h1) (hl : l.length ≤ 90000) (l1 : 1 ≤ s.length) (l2 : s.length ≤ 1000) (hk : k = 0 ∨ k = 1) (h5 : δ[5]? = some (some (.str s))) (h6 : δ[6]? = some (some (.int k))) :
    ∃ δ2 h2, b_all_forms_2 F1 thingsS F3 F4 F5 δ h1 = .nx δ2 h2 ∧ AfS B h.length δ2 ∧ (δ2[5]? = some (some (.str s)) ∧ δ2[6]? = some (some (.int k))) ∧ TabI h (l ++ thWs s k) h2 := by
  have q : thingsS [.str s, .int k] h1 = .ok (.tup (thingsL s k)) h1 := if_pos ⟨l1, l2, hk⟩
  have e : b_all_forms_2 F1 thingsS F3 F4 F5 δ h1 = forT (gT 3 (gCons (gN 7) (gCons (gN 8) (gCons (gN 9) gNil)))) (b_all_forms_1 F1 thingsS F3 F4 F5) (thingsL s k) δ h1 := by
    unfold b_all_forms_2
    simp [h5, h6, q]
  rw [e, thingsL_cm, thWs_cm]
  refine rows_loop (fun p : List Nat × Bool => thRow s k p.1 p.2) (fun p => Wh.thing s k p.1 p.2) (fun δ => δ[5]? = some (some (.str s)) ∧ δ[6]? = some (some (.int k))) cm l δ h1 a ⟨h5, h6⟩ I (by have : cm.length = 8 := rfl; omega) fun p hp l δ h1 a r I hl => ?_
  have ln := a.len
  have a2 := ((a.set (i := 7) (x := .str (thingW s k p.1 p.2)) (by decide)).set (i := 8) (x := .str p.1) (by decide)).set (i := 9) (x := .bl p.2) (by decide)
  obtain ⟨h2, e2, I2⟩ := add_row (fe := eV 7) (we := eTup (aCons (eC (.str [116, 104, 105, 110, 103])) (aCons (eV 5) (aCons (eV 6) (aCons (eV 8) (aCons (eV 9) aNil)))))) (δ := ((δ.set 7 (some (.str (thingW s k p.1 p.2)))).set 8 (some (.str p.1))).set 9 (some (.bl p.2))) (r := Wh.thing s k p.1 p.2) I a2.s4 (by
    rw [ap_eV, set_no (by decide), set_no (by decide), set_at (by omega)]; rfl) (fun h2 => by
    have x5 : (((δ.set 7 (some (.str (thingW s k p.1 p.2)))).set 8 (some (.str p.1))).set 9 (some (.bl p.2)))[5]? = some (some (.str s)) := by rw [set_no (by decide), set_no (by decide), set_no (by decide)]; exact r.1
    have x6 : (((δ.set 7 (some (.str (thingW s k p.1 p.2)))).set 8 (some (.str p.1))).set 9 (some (.bl p.2)))[6]? = some (some (.int k)) := by rw [set_no (by decide), set_no (by decide), set_no (by decide)]; exact r.2
    have x8 : (((δ.set 7 (some (.str (thingW s k p.1 p.2)))).set 8 (some (.str p.1))).set 9 (some (.bl p.2)))[8]? = some (some (.str p.1)) := by rw [set_no (by decide), set_at (by rw [List.length_set]; omega)]
    have x9 : (((δ.set 7 (some (.str (thingW s k p.1 p.2)))).set 8 (some (.str p.1))).set 9 (some (.bl p.2)))[9]? = some (some (.bl p.2)) := by rw [set_at (by rw [List.length_set, List.length_set]; omega)]
    simp only [ap_eTup, ap_aCons, ap_eC, ap_eV, x5, x6, x8, x9, vK_some, bind_ok, ap_aNil]
    rfl) hl
  refine ⟨_, _, h2, rfl, e2, a2, ⟨?_, ?_⟩, I2⟩
  · rw [set_no (by decide), set_no (by decide), set_no (by decide)]; exact r.1
  · rw [set_no (by decide), set_no (by decide), set_no (by decide)]; exact r.2
theorem af_marks {s : List Nat} {k : Int} {δ : DS} {h1 : VH} (a : AfS B h.length δ) (I : TabI h l h1) (hl : l.length ≤ 90000) (l1 : 1 ≤ s.length) (l2 : s.length ≤ 1000) (hk : k = 0 ∨ k = 1) (h5 : δ[5]? = some (some (.str s))) (h6 : δ[6]? = some (some (.int k))) :
    ∃ δ2 h2, b_all_forms_4 F1 thingsS F3 F4 F5 δ h1 = .nx δ2 h2 ∧ AfS B h.length δ2 ∧ (δ2[5]? = some (some (.str s)) ∧ δ2[6]? = some (some (.int k))) ∧ TabI h (l ++ mkWs s k) h2 := by
  have q : thingsS [.str s, .int k] h1 = .ok (.tup (thingsL s k)) h1 := if_pos ⟨l1, l2, hk⟩
  have e : b_all_forms_4 F1 thingsS F3 F4 F5 δ h1 = forT (gT 3 (gCons (gN 7) (gCons (gN 8) (gCons (gN 9) gNil)))) (b_all_forms_3 F1 thingsS F3 F4 F5) (thingsL s k) δ h1 := by
    unfold b_all_forms_4
    simp [h5, h6, q]
  rw [e, thingsL_cm, mkWs_cm]
  refine rows_loop (fun p : List Nat × Bool => thRow s k p.1 p.2) (fun p => Wh.mark s k p.1 p.2) (fun δ => δ[5]? = some (some (.str s)) ∧ δ[6]? = some (some (.int k))) cm l δ h1 a ⟨h5, h6⟩ I (by have : cm.length = 8 := rfl; omega) fun p hp l δ h1 a r I hl => ?_
  have ln := a.len
  have a2 := ((a.set (i := 7) (x := .str (thingW s k p.1 p.2)) (by decide)).set (i := 8) (x := .str p.1) (by decide)).set (i := 9) (x := .bl p.2) (by decide)
  obtain ⟨h2, e2, I2⟩ := add_row (fe := eV 7) (we := eTup (aCons (eC (.str [109, 97, 114, 107])) (aCons (eV 5) (aCons (eV 6) (aCons (eV 8) (aCons (eV 9) aNil)))))) (δ := ((δ.set 7 (some (.str (thingW s k p.1 p.2)))).set 8 (some (.str p.1))).set 9 (some (.bl p.2))) (r := Wh.mark s k p.1 p.2) I a2.s4 (by
    rw [ap_eV, set_no (by decide), set_no (by decide), set_at (by omega)]; rfl) (fun h2 => by
    have x5 : (((δ.set 7 (some (.str (thingW s k p.1 p.2)))).set 8 (some (.str p.1))).set 9 (some (.bl p.2)))[5]? = some (some (.str s)) := by rw [set_no (by decide), set_no (by decide), set_no (by decide)]; exact r.1
    have x6 : (((δ.set 7 (some (.str (thingW s k p.1 p.2)))).set 8 (some (.str p.1))).set 9 (some (.bl p.2)))[6]? = some (some (.int k)) := by rw [set_no (by decide), set_no (by decide), set_no (by decide)]; exact r.2
    have x8 : (((δ.set 7 (some (.str (thingW s k p.1 p.2)))).set 8 (some (.str p.1))).set 9 (some (.bl p.2)))[8]? = some (some (.str p.1)) := by rw [set_no (by decide), set_at (by rw [List.length_set]; omega)]
    have x9 : (((δ.set 7 (some (.str (thingW s k p.1 p.2)))).set 8 (some (.str p.1))).set 9 (some (.bl p.2)))[9]? = some (some (.bl p.2)) := by rw [set_at (by rw [List.length_set, List.length_set]; omega)]
    simp only [ap_eTup, ap_aCons, ap_eC, ap_eV, x5, x6, x8, x9, vK_some, bind_ok, ap_aNil]
    rfl) hl
  refine ⟨_, _, h2, rfl, e2, a2, ⟨?_, ?_⟩, I2⟩
  · rw [set_no (by decide), set_no (by decide), set_no (by decide)]; exact r.1
  · rw [set_no (by decide), set_no (by decide), set_no (by decide)]; exact r.2
theorem af_deeds {s : List Nat} {δ : DS} {h1 : VH} (a : AfS B h.length δ) (I : TabI h l h1) (hl : l.length ≤ 90000) (l1 : 1 ≤ s.length) (l2 : s.length ≤ 1000) (h5 : δ[5]? = some (some (.str s))) :
    ∃ δ2 h2, b_all_forms_7 F1 F2 deedsS F4 F5 δ h1 = .nx δ2 h2 ∧ AfS B h.length δ2 ∧ δ2[5]? = some (some (.str s)) ∧ TabI h (l ++ ddWs s) h2 := by
  have q : deedsS [.str s] h1 = .ok (.tup (deedsL s)) h1 := if_pos ⟨l1, l2⟩
  have e : b_all_forms_7 F1 F2 deedsS F4 F5 δ h1 = forT (gT 4 (gCons (gN 7) (gCons (gN 10) (gCons (gN 11) (gCons (gN 9) gNil))))) (b_all_forms_6 F1 F2 deedsS F4 F5) (deedsL s) δ h1 := by
    unfold b_all_forms_7
    simp [h5, q]
  rw [e, deedsL_tpm, ddWs_tpm]
  refine rows_loop (fun x : List Nat × Int × Bool => dRow s x.1 x.2.1 x.2.2) (fun x => Wh.deed s x.1 x.2.1 x.2.2) (fun δ => δ[5]? = some (some (.str s))) tpm l δ h1 a h5 I (by have : tpm.length = 18 := rfl; omega) fun p hp l δ h1 a r I hl => ?_
  have ln := a.len
  have a2 := (((a.set (i := 7) (x := .str (deedW s p.1 p.2.1 p.2.2)) (by decide)).set (i := 10) (x := .str p.1) (by decide)).set (i := 11) (x := .int p.2.1) (by decide)).set (i := 9) (x := .bl p.2.2) (by decide)
  obtain ⟨h2, e2, I2⟩ := add_row (fe := eV 7) (we := eTup (aCons (eC (.str [100, 101, 101, 100])) (aCons (eV 5) (aCons (eV 10) (aCons (eV 11) (aCons (eV 9) aNil)))))) (δ := (((δ.set 7 (some (.str (deedW s p.1 p.2.1 p.2.2)))).set 10 (some (.str p.1))).set 11 (some (.int p.2.1))).set 9 (some (.bl p.2.2))) (r := Wh.deed s p.1 p.2.1 p.2.2) I a2.s4 (by
    rw [ap_eV, set_no (by decide), set_no (by decide), set_no (by decide), set_at (by omega)]; rfl) (fun h2 => by
    have x5 : ((((δ.set 7 (some (.str (deedW s p.1 p.2.1 p.2.2)))).set 10 (some (.str p.1))).set 11 (some (.int p.2.1))).set 9 (some (.bl p.2.2)))[5]? = some (some (.str s)) := by rw [set_no (by decide), set_no (by decide), set_no (by decide), set_no (by decide)]; exact r
    have x10 : ((((δ.set 7 (some (.str (deedW s p.1 p.2.1 p.2.2)))).set 10 (some (.str p.1))).set 11 (some (.int p.2.1))).set 9 (some (.bl p.2.2)))[10]? = some (some (.str p.1)) := by rw [set_no (by decide), set_no (by decide), set_at (by rw [List.length_set]; omega)]
    have x11 : ((((δ.set 7 (some (.str (deedW s p.1 p.2.1 p.2.2)))).set 10 (some (.str p.1))).set 11 (some (.int p.2.1))).set 9 (some (.bl p.2.2)))[11]? = some (some (.int p.2.1)) := by rw [set_no (by decide), set_at (by simp only [List.length_set]; omega)]
    have x9 : ((((δ.set 7 (some (.str (deedW s p.1 p.2.1 p.2.2)))).set 10 (some (.str p.1))).set 11 (some (.int p.2.1))).set 9 (some (.bl p.2.2)))[9]? = some (some (.bl p.2.2)) := by rw [set_at (by simp only [List.length_set]; omega)]
    simp only [ap_eTup, ap_aCons, ap_eC, ap_eV, x5, x10, x11, x9, vK_some, bind_ok, ap_aNil]
    rfl) hl
  refine ⟨_, _, h2, rfl, e2, a2, ?_, I2⟩
  rw [set_no (by decide), set_no (by decide), set_no (by decide), set_no (by decide)]; exact r
theorem af_who {δ : DS} {h1 : VH} {w c : List Nat} (a : AfS B h.length δ) (I : TabI h l h1) (hl : l.length ≤ 90000) (hw : w ∈ whoL) (hc : c ∈ casesL) (h12 : δ[12]? = some (some (.str w))) (h8 : δ[8]? = some (some (.str c))) :
    ∃ δ2 h2, b_all_forms_9 F1 F2 F3 whoS F5 δ h1 = .nx δ2 h2 ∧ AfS B h.length δ2 ∧ (δ2[12]? = some (some (.str w)) ∧ δ2[8]? = some (some (.str c))) ∧ TabI h (l ++ bothL.map (Wh.who w c)) h2 := by
  have e : b_all_forms_9 F1 F2 F3 whoS F5 δ h1 = forT (gN 9) (b_all_forms_8 F1 F2 F3 whoS F5) (bothL.map D.bl) δ h1 := rfl
  rw [e]
  refine rows_loop D.bl (Wh.who w c) (fun δ => δ[12]? = some (some (.str w)) ∧ δ[8]? = some (some (.str c))) bothL l δ h1 a ⟨h12, h8⟩ I (by have : bothL.length = 2 := rfl; omega) fun m _ l δ h1 a r I hl => ?_
  have ln := a.len
  have a2 := a.set (i := 9) (x := .bl m) (by decide)
  have x12 : (δ.set 9 (some (.bl m)))[12]? = some (some (.str w)) := by rw [set_no (by decide)]; exact r.1
  have x8 : (δ.set 9 (some (.bl m)))[8]? = some (some (.str c)) := by rw [set_no (by decide)]; exact r.2
  have x9 : (δ.set 9 (some (.bl m)))[9]? = some (some (.bl m)) := set_at (by omega)
  obtain ⟨h2, e2, I2⟩ := add_row (fe := eF whoS (aCons (eV 12) (aCons (eV 8) (aCons (eV 9) aNil)))) (we := eTup (aCons (eC (.str [119, 104, 111])) (aCons (eV 12) (aCons (eV 8) (aCons (eV 9) aNil))))) (δ := δ.set 9 (some (.bl m))) (r := Wh.who w c m) I a2.s4 (by
    have q : whoS [.str w, .str c, .bl m] h1 = .ok (.str (whoW w c m)) h1 := if_pos ⟨hw, hc⟩
    simp only [ap_eF, ap_aCons, ap_eV, x12, x8, x9, vK_some, bind_ok, ap_aNil, q]
    rfl) (fun h2 => by
    simp only [ap_eTup, ap_aCons, ap_eC, ap_eV, x12, x8, x9, vK_some, bind_ok, ap_aNil]
    rfl) hl
  exact ⟨_, _, h2, rfl, e2, a2, ⟨x12, x8⟩, I2⟩
theorem af_asked {δ : DS} {h1 : VH} (a : AfS B h.length δ) (I : TabI h l h1) (hl : l.length ≤ 90000) :
    ∃ δ2 h2, forT (gN 8) (b_all_forms_11 F1 F2 F3 F4 askS) (casesL.map D.str) δ h1 = .nx δ2 h2 ∧ AfS B h.length δ2 ∧ True ∧ TabI h (l ++ casesL.map Wh.asked) h2 := by
  refine rows_loop D.str Wh.asked (fun _ => True) casesL l δ h1 a trivial I (by have : casesL.length = 4 := rfl; omega) fun c hc l δ h1 a r I hl => ?_
  have ln := a.len
  have a2 := a.set (i := 8) (x := .str c) (by decide)
  have x8 : (δ.set 8 (some (.str c)))[8]? = some (some (.str c)) := set_at (by omega)
  obtain ⟨h2, e2, I2⟩ := add_row (fe := eF askS (aCons (eV 8) aNil)) (we := eTup (aCons (eC (.str [97, 115, 107, 101, 100])) (aCons (eV 8) aNil))) (δ := δ.set 8 (some (.str c))) (r := Wh.asked c) I a2.s4 (by
    have q : askS [.str c] h1 = .ok (.str (askW c)) h1 := if_pos hc
    simp only [ap_eF, ap_aCons, ap_eV, x8, vK_some, bind_ok, ap_aNil, q]
    rfl) (fun h2 => by
    simp only [ap_eTup, ap_aCons, ap_eC, ap_eV, x8, vK_some, bind_ok, ap_aNil]
    rfl) hl
  exact ⟨_, _, h2, rfl, e2, a2, trivial, I2⟩
theorem flatW_len {α β : Type} {f : α → List β} {n : Nat} (hf : ∀ x, (f x).length = n) : ∀ xs : List α, (xs.flatMap f).length = xs.length * n
  | [] => by simp
  | x :: xs => by
    rw [List.flatMap_cons, List.length_append, hf, flatW_len hf xs, List.length_cons, Nat.succ_mul]
    omega
theorem thWs_len (s : List Nat) (k : Int) : (thWs s k).length = 8 := rfl
theorem mkWs_len (s : List Nat) : (mkWs s 0 ++ mkWs s 1).length = 16 := rfl
theorem ddWs_len (s : List Nat) : (ddWs s).length = 18 := rfl
theorem whoWs_len (w : List Nat) : (whoWs w).length = 8 := rfl
theorem af_run {h1 : VH} (o : OkB B) : ∃ h2, endF (b_all_forms cbS thingsS deedsS whoS askS [some (bookD B), none, none, none, none, none, none, none, none, none, none, none, none] h) = .ok (.ref h.length) h2 ∧ TabI h (rowsB B) h2 := by
  have c0 := cb_ok (h := h) o.sm o.bk
  obtain ⟨z1, z2, z3, z4⟩ := o.sm
  have z5 := flatW_len (f := fun t : List Nat × Int => thWs t.1 t.2) (fun t => thWs_len _ _) B.things
  have z6 := flatW_len (f := fun s : List Nat => mkWs s 0 ++ mkWs s 1) mkWs_len B.marks
  have z7 := flatW_len (f := ddWs) ddWs_len B.deeds
  unfold b_all_forms
  rw [seq_nx (δ1 := [some (bookD B), none, none, none, none, none, none, none, none, none, none, none, none]) (h1 := h) (by simp [c0])]
  rw [seq_nx (δ1 := [some (bookD B), some (.tup (B.things.map thD)), some (.tup (B.deeds.map D.str)), some (.tup (B.marks.map D.str)), none, none, none, none, none, none, none, none, none]) (h1 := h) (s := sAs (eV 0) (gT 3 (gCons (gN 1) (gCons (gN 2) (gCons (gN 3) gNil))))) (δ := [some (bookD B), none, none, none, none, none, none, none, none, none, none, none, none]) (h := h) rfl]
  rw [seq_nx (δ1 := [some (bookD B), some (.tup (B.things.map thD)), some (.tup (B.deeds.map D.str)), some (.tup (B.marks.map D.str)), some (.ref h.length), none, none, none, none, none, none, none, none]) (h1 := h ++ [.dct []]) (s := sAs eDct (gN 4)) (δ := [some (bookD B), some (.tup (B.things.map thD)), some (.tup (B.deeds.map D.str)), some (.tup (B.marks.map D.str)), none, none, none, none, none, none, none, none, none]) (h := h) rfl]
  have a0 : AfS B h.length [some (bookD B), some (.tup (B.things.map thD)), some (.tup (B.deeds.map D.str)), some (.tup (B.marks.map D.str)), some (.ref h.length), none, none, none, none, none, none, none, none] := ⟨rfl, rfl, rfl, rfl, rfl⟩
  -- things
  obtain ⟨δ2, h2, e2, a2, _, I2⟩ := rows_outer (g := gT 2 (gCons (gN 5) (gCons (gN 6) gNil))) (b := b_all_forms_2 cbS thingsS deedsS whoS askS) thD (fun t => thWs t.1 t.2) (fun _ => True) B.things [] _ _ a0 trivial (TabI.zero h) (by rw [z5]; simp; omega) fun t ht l δ h1 a _ I hl => by
    obtain ⟨l1, l2⟩ := o.th ht
    have ln := a.len
    have hl2 : l.length ≤ 90000 := by omega
    obtain ⟨δ2, h2, e, a2, _, I2⟩ := af_things (F1 := cbS) (F3 := deedsS) (F4 := whoS) (F5 := askS) (δ := (δ.set 5 (some (.str t.1))).set 6 (some (.int t.2))) ((a.set (by decide)).set (by decide)) I hl2 l1 (by omega) (o.kind ht) (by rw [set_no (by decide), set_at (by omega)]) (by rw [set_at (by rw [List.length_set]; omega)])
    exact ⟨_, δ2, h2, rfl, e, a2, trivial, I2⟩
  rw [seq_nx (δ1 := δ2) (h1 := h2) (by rw [ap_sFor, ap_eV]; exact e2)]
  -- marks
  obtain ⟨δ3, h3, e3, a3, _, I3⟩ := rows_outer (g := gN 5) (b := b_all_forms_5 cbS thingsS deedsS whoS askS) D.str (fun s => mkWs s 0 ++ mkWs s 1) (fun _ => True) B.marks _ _ _ a2 trivial I2 (by rw [z6, List.nil_append, z5]; omega) fun s hs l δ h1 a _ I hl => by
    obtain ⟨l1, l2⟩ := o.mrk hs
    have ln := a.len
    have hl2 : l.length ≤ 80000 := by omega
    have e0 : b_all_forms_5 cbS thingsS deedsS whoS askS (δ.set 5 (some (.str s))) h1 = forT (gN 6) (b_all_forms_4 cbS thingsS deedsS whoS askS) [.int 0, .int 1] (δ.set 5 (some (.str s))) h1 := rfl
    have a1 := a.set (i := 5) (x := .str s) (by decide)
    have s5 : (δ.set 5 (some (.str s)))[5]? = some (some (.str s)) := set_at (by omega)
    obtain ⟨δ2, h2, e, a2, r2, I2⟩ := af_marks (k := 0) (F1 := cbS) (F3 := deedsS) (F4 := whoS) (F5 := askS) (δ := (δ.set 5 (some (.str s))).set 6 (some (.int 0))) (a1.set (by decide)) I (by omega) l1 (by omega) (.inl rfl) (by rw [set_no (by decide)]; exact s5) (by rw [set_at (by rw [List.length_set]; omega)])
    obtain ⟨δ3, h3, e', a3, r3, I3⟩ := af_marks (k := 1) (F1 := cbS) (F3 := deedsS) (F4 := whoS) (F5 := askS) (δ := δ2.set 6 (some (.int 1))) (a2.set (by decide)) I2 (by rw [List.length_append]; have : (mkWs s 0).length = 8 := rfl; omega) l1 (by omega) (.inr rfl) (by rw [set_no (by decide)]; exact r2.1) (by rw [set_at (by rw [a2.len]; omega)])
    refine ⟨_, δ3, h3, rfl, ?_, a3, trivial, by rw [← List.append_assoc]; exact I3⟩
    rw [e0, forT_cons, ap_gN, tgS_some, e, loopS_nx, forT_cons, ap_gN, tgS_some, e', loopS_nx, forT_nil]
  rw [seq_nx (δ1 := δ3) (h1 := h3) (by rw [ap_sFor, ap_eV, a2.s3]; exact e3)]
  -- deeds
  obtain ⟨δ4, h4, e4, a4, _, I4⟩ := rows_outer (g := gN 5) (b := b_all_forms_7 cbS thingsS deedsS whoS askS) D.str ddWs (fun _ => True) B.deeds _ _ _ a3 trivial I3 (by rw [z7, List.nil_append, List.length_append, z5, z6]; omega) fun s hs l δ h1 a _ I hl => by
    obtain ⟨l1, l2⟩ := o.dd hs
    have ln := a.len
    obtain ⟨δ2, h2, e, a2, _, I2⟩ := af_deeds (F1 := cbS) (F2 := thingsS) (F4 := whoS) (F5 := askS) (δ := δ.set 5 (some (.str s))) (a.set (by decide)) I (by omega) l1 (by omega) (by rw [set_at (by omega)])
    exact ⟨_, δ2, h2, rfl, e, a2, trivial, I2⟩
  rw [seq_nx (δ1 := δ4) (h1 := h4) (by rw [ap_sFor, ap_eV, a3.s2]; exact e4)]
  -- who
  have w1 : ∀ w, (casesL.flatMap fun c => bothL.map (Wh.who w c)).length = 8 := fun w => rfl
  obtain ⟨δ5, h5, e5, a5, _, I5⟩ := rows_outer (g := gN 12) (b := b_all_forms_10 cbS thingsS deedsS whoS askS) D.str whoWs (fun _ => True) whoL _ _ _ a4 trivial I4 (by
      have : (whoL.flatMap whoWs).length = 32 := rfl
      rw [this, List.nil_append, List.length_append, List.length_append, z5, z6, z7]; omega) fun w hw l δ h1 a _ I hl => by
    have ln := a.len
    have e0 : b_all_forms_10 cbS thingsS deedsS whoS askS (δ.set 12 (some (.str w))) h1 = forT (gN 8) (b_all_forms_9 cbS thingsS deedsS whoS askS) (casesL.map D.str) (δ.set 12 (some (.str w))) h1 := rfl
    obtain ⟨δ2, h2, e, a2, r2, I2⟩ := rows_outer (g := gN 8) (b := b_all_forms_9 cbS thingsS deedsS whoS askS) D.str (fun c => bothL.map (Wh.who w c)) (fun δ => δ[12]? = some (some (.str w))) casesL l (δ.set 12 (some (.str w))) h1 (a.set (by decide)) (by rw [set_at (by omega)]) I (by rw [w1]; rw [whoWs_len] at hl; exact hl) fun c hc l δ h1 a r I hl => by
      have ln := a.len
      obtain ⟨δ2, h2, e, a2, r2, I2⟩ := af_who (F1 := cbS) (F2 := thingsS) (F3 := deedsS) (F5 := askS) (δ := δ.set 8 (some (.str c))) (a.set (by decide)) I (by omega) hw hc (by rw [set_no (by decide)]; exact r) (by rw [set_at (by omega)])
      exact ⟨_, δ2, h2, rfl, e, a2, r2.1, I2⟩
    exact ⟨_, δ2, h2, rfl, by rw [e0]; exact e, a2, trivial, I2⟩
  rw [seq_nx (δ1 := δ5) (h1 := h5) (by
    rw [ap_sFor, ap_eC, thenS_ok, c_WHO_eq, forX_tup]; exact e5)]
  -- asked
  obtain ⟨δ6, h6, e6, a6, _, I6⟩ := af_asked (F1 := cbS) (F2 := thingsS) (F3 := deedsS) (F4 := whoS) a5 I5 (by
      have : (whoL.flatMap whoWs).length = 32 := rfl
      simp only [List.nil_append, List.length_append, z5, z6, z7, this]; omega)
  rw [seq_nx (δ1 := δ6) (h1 := h6) (by
    rw [ap_sFor, ap_eC, thenS_ok, c_CASES_eq, forX_tup]; exact e6)]
  refine ⟨h6, by simp [a6.s4], ?_⟩
  unfold rowsB
  simp only [List.nil_append, List.append_assoc] at I6
  exact I6
end
end K22
set_option Elab.async false
set_option linter.all false
set_option maxRecDepth 100000
set_option maxHeartbeats 4000000
namespace K22
open PySem FL
theorem fz_lst {n f : Nat} {h1 : VH} (l : List Wh) : allS ((l.map whD).map (fzD n h1 f)) = some (l.map whD) := by
  rw [allS_of (k := id) fun d hd => ?_, List.map_id]
  obtain ⟨r, _, rfl⟩ := List.mem_map.mp hd
  have b : bnd n (whD r) = true := by cases r <;> rfl
  cases f <;> (unfold fzD; rw [if_pos b]; rfl)
theorem tab_fz {h h2 : VH} {l : List Wh} (I : TabI h l h2) : Fz h (.ok (.ref h.length) h2) (.ok (tabD l) h) := by
  obtain ⟨J, g, e1, e2, e3, e4, e5⟩ := I.ex
  subst e1
  refine .ok (f := 2) (by rw [List.all_cons, e5]; rfl) ?_
  have q : allS ((J.map fun p => (D.str p.1, D.ref (h.length + (p.2 + 1)))).map fun p => fzD h.length (h ++ (O.dct (J.map fun p => (D.str p.1, D.ref (h.length + (p.2 + 1)))) :: g)) 1 p.2) = some (J.map fun p => D.fls ((atF l p.1).map whD)) := by
    rw [List.map_map]
    refine allS_of fun p hp => ?_
    show fzD h.length _ 1 (.ref (h.length + (p.2 + 1))) = _
    unfold fzD
    rw [if_neg (by unfold bnd; simp)]
    dsimp only
    rw [hp_at, List.getElem?_cons_succ, e4 p hp]
    dsimp only
    rw [fz_lst]
  unfold fzD
  rw [if_neg (by unfold bnd; simp)]
  dsimp only
  rw [hp_at0, List.getElem?_cons_zero]
  dsimp only
  rw [q]
  dsimp only
  unfold tabD
  rw [← e2, List.map_map, List.map_map, List.map_map]
  rfl
open Classical in
noncomputable def afS : List D → VH → Out D
  | [x], h => match inv bookD x with
    | some B => if smallB B then (if isBookW B = true then .ok (tabD (rowsB B)) h else .err 1 none h) else .bad
    | none => .bad
  | _, _ => .bad
theorem af_fz (xs : List D) (h : VH) : Fz h (runF 1 13 (b_all_forms cbS thingsS deedsS whoS askS) xs h) (afS xs h) := by
  unfold afS
  split
  · rename_i x
    cases h1 : inv bookD x with
    | none => exact .bad
    | some B =>
      dsimp only
      split
      · rename_i hs
        rw [inv_some h1]
        show Fz h (endF (b_all_forms cbS thingsS deedsS whoS askS [some (bookD B), none, none, none, none, none, none, none, none, none, none, none, none] h)) _
        split
        · rename_i hb
          obtain ⟨h2, e, I⟩ := af_run (h := h) (h1 := h) ⟨hs, hb⟩
          rw [e]
          exact tab_fz I
        · rename_i hb
          have c := cb_no (h := h) hs (by simpa using hb)
          have e : endF (b_all_forms cbS thingsS deedsS whoS askS [some (bookD B), none, none, none, none, none, none, none, none, none, none, none, none] h) = .err 1 none h := by
            unfold b_all_forms
            rw [seq_err (δ1 := [some (bookD B), none, none, none, none, none, none, none, none, none, none, none, none]) (h1 := h) (c := 1) (p := none) (by simp [c]), endF_err]
          rw [e]
          have q : Fz h (.err 1 none (h ++ [])) (.err 1 none h) := .err
          rw [List.append_nil] at q
          exact q
      · exact .bad
  · exact .bad
theorem af_ok {B : Book} {h : VH} (o : OkB B) : afS [bookD B] h = .ok (tabD (rowsB B)) h := by
  show (match inv bookD (bookD B) with
    | some B => open Classical in if smallB B then (if isBookW B = true then Out.ok (tabD (rowsB B)) h else .err 1 none h) else .bad
    | none => .bad) = _
  rw [inv_book]
  dsimp only
  rw [if_pos o.sm, if_pos o.bk]
end K22
set_option Elab.async false
set_option linter.all false
set_option maxRecDepth 100000
set_option maxHeartbeats 4000000
namespace K22
open PySem FL
def ntS : List D → VH → Out D
  | [.int n], h => if 999999 < n then .err 0 none h else .bad
  | _, _ => .bad
theorem nt_eq (xs : List D) (h : VH) : ntS xs h = .bad ∨ runF 1 5 (b_told fun _ _ => .bad) xs h = ntS xs h := by
  unfold ntS
  split
  · rename_i n
    split
    · rename_i hn
      right
      show endF (b_told (fun _ _ => .bad) [some (.int n), none, none, none, none] h) = _
      have c1 : decide (0 ≤ n) = true := decide_eq_true (by omega)
      have c2 : decide (n ≤ 999999) = false := decide_eq_false (by omega)
      have e : (sIf (tOr (tNot (tV (eB bIsi (aCons (eV 0) (aCons (eC (.ty "int")) aNil))))) (tOr (tV (eB bIsi (aCons (eV 0) (aCons (eC (.ty "bool")) aNil)))) (tNot (tV (eCh cLe cLe (eC (.int 0)) (eV 0) (eC c_MOST)))))) (sRaise 0) sNil) [some (.int n), none, none, none, none] h = .err 0 none [some (.int n), none, none, none, none] h := by
        simp [bIsi, cLe, c_MOST, c1, c2]
      unfold b_told
      rw [seq_err e]
      rfl
    · exact .inl rfl
  · exact .inl rfl
def shS : List D → VH → Out D
  | [.int a, .int b], h => if b < a then .err 3 none h else .bad
  | _, _ => .bad
theorem sh_eq (xs : List D) (h : VH) : shS xs h = .bad ∨ runF 2 3 (b_shortest ntS) xs h = shS xs h := by
  unfold shS
  split
  · rename_i a b
    split
    · rename_i hn
      right
      show endF (b_shortest ntS [some (.int a), some (.int b), none] h) = _
      have e : (sIf (tV (FL.e2 cGt (eV 0) (eV 1))) (sRaise 3) sNil) [some (.int a), some (.int b), none] h = .err 3 none [some (.int a), some (.int b), none] h := by
        simp [cGt, hn]
      unfold b_shortest
      rw [seq_err e]
      rfl
    · exact .inl rfl
  · exact .inl rfl
def putS : List D → VH → Out D
  | [.fls ws, f], h => if 7 < ws.length then .err 4 none h else .bad
  | _, _ => .bad
theorem put_eq (xs : List D) (h : VH) : putS xs h = .bad ∨ runF 2 3 (b_put fun _ _ => .bad) xs h = putS xs h := by
  unfold putS
  split
  · rename_i ws f
    split
    · rename_i hn
      right
      show endF (b_put (fun _ _ => .bad) [some (.fls ws), some f, none] h) = _
      have hn' : (7 : Int) < (ws.length : Int) := by omega
      have e : (sIf (tV (FL.e2 cGt (eB bLen (aCons (eV 0) aNil)) (eC (.int 7)))) (sRaise 4) sNil) [some (.fls ws), some f, none] h = .err 4 none [some (.fls ws), some f, none] h := by
        simp [bLen, cGt, hn']
      unfold b_put
      rw [seq_err e]
      rfl
    · exact .inl rfl
  · exact .inl rfl
def emptyB : Book := ⟨[], [], []⟩
theorem empty_ok : OkB emptyB := ⟨by unfold smallB emptyB stemsB; simp, by decide +kernel⟩
def figs (s : List Nat) : Bool := decide (s.length ≤ 20) && (s.all (fun c => decide (48 ≤ c ∧ c ≤ 57)) && !s.isEmpty)
theorem figs_no {s : List Nat} (h : figs s = true) : s ∉ keysOf (rowsB emptyB) ∧ s ≠ [110, 101] ∧ s ≠ [107, 117] ∧ 32 ∉ s ∧ s.length ≤ 20 := by
  unfold figs at h
  simp only [Bool.and_eq_true, decide_eq_true_eq] at h
  obtain ⟨h1, h2, h3⟩ := h
  have al := List.all_eq_true.mp h2
  have hd : ∀ c l, s = c :: l → 48 ≤ c ∧ c ≤ 57 := fun c l e => by
    have := al c (by rw [e]; exact List.mem_cons_self)
    simpa using this
  have ne : s ≠ [] := fun e => by rw [e] at h3; cases h3
  obtain ⟨c, l, e⟩ := List.exists_cons_of_ne_nil ne
  have hc := hd c l e
  refine ⟨fun m => ?_, fun z => ?_, fun z => ?_, fun m => ?_, h1⟩
  · obtain ⟨r, hr, hw⟩ := keysOf_mem.mp m
    have all : (rowsB emptyB).all (fun r => match whF r with
      | c :: _ => decide (57 < c)
      | [] => false) = true := by decide +kernel
    have q := List.all_eq_true.mp all r hr
    rw [hw, e] at q
    have q : decide (57 < c) = true := q
    have := of_decide_eq_true q
    omega
  · rw [e] at z; injection z with z _; omega
  · rw [e] at z; injection z with z _; omega
  · have := al 32 m
    simp at this
theorem split_one {c : Nat} : ∀ {s : List Nat}, c ∉ s → splitC c s = [s]
  | [], _ => rfl
  | x :: r, h => by
    have hx : ¬ x = c := fun e => h (e ▸ List.mem_cons_self)
    have i := split_one (c := c) (s := r) fun m => h (List.mem_cons_of_mem _ m)
    unfold splitC
    rw [if_neg hx, i]
theorem cNin_tab {l : List Wh} {f : List Nat} {h : VH} : cNin (.str f) (tabD l) h = some (.bl (!decide (f ∈ keysOf l)), h) := by
  have e : cNin (.str f) (tabD l) h = some (.bl (!((keysOf l).map D.str).any fun k => keyEq k (.str f)), h) := by
    unfold tabD
    rcases f with _ | ⟨a, _ | ⟨b, f⟩⟩ <;> rfl
  rw [e]
  have : (((keysOf l).map D.str).any fun k => keyEq k (.str f)) = decide (f ∈ keysOf l) := by
    rw [Bool.eq_iff_iff, List.any_eq_true, decide_eq_true_eq]
    constructor
    · rintro ⟨x, hx, q⟩
      obtain ⟨k, hk, rfl⟩ := List.mem_map.mp hx
      have q : decide (k = f) = true := q
      exact of_decide_eq_true q ▸ hk
    · intro m
      exact ⟨.str f, List.mem_map.mpr ⟨f, m, rfl⟩, decide_eq_true rfl⟩
  rw [this]
open Classical in
noncomputable def rbS : List D → VH → Out D
  | [t, .str s], h => if t = tabD (rowsB emptyB) ∧ figs s = true then .err 2 (some (.int 0)) h else .bad
  | _, _ => .bad
theorem rb_eq (xs : List D) (h : VH) : rbS xs h = .bad ∨ runF 2 10 (b_read_by (fun _ _ => .bad) (fun _ _ => .bad)) xs h = rbS xs h := by
  unfold rbS
  split
  · rename_i t s
    split
    · rename_i hc
      obtain ⟨rfl, hf⟩ := hc
      obtain ⟨f1, f2, f3, f4, f5⟩ := figs_no hf
      right
      generalize hT : tabD (rowsB emptyB) = T
      have nin : ∀ h, cNin (.str s) T h = some (.bl true, h) := fun h => by
        rw [← hT, cNin_tab, decide_eq_false f1]
        rfl
      have nin2 : cNin (.str s) (.tup [.str [110, 101], .str [107, 117]]) h = some (.bl true, h) := by
        have := cNin_sT (a := s) (l := [[110, 101], [107, 117]]) (h := h)
        rw [decide_eq_false (by simp [f2, f3])] at this
        exact this
      show endF (b_read_by (fun _ _ => .bad) (fun _ _ => .bad) [some T, some (.str s), none, none, none, none, none, none, none, none] h) = _
      have z1 : s.length ≤ 16777216 := by omega
      have z2 : ¬ (300 : Int) < (s.length : Int) := by omega
      have z3 : s.length ≤ 16777214 := by omega
      unfold b_read_by
      refine run_nx (δ1 := [some T, some (.str s), none, none, none, none, none, none, none, none]) (h1 := h) (by
        simp [bIsi, bLen, cGt, z1, z2]) ?_
      refine run_nx (δ1 := [some T, some (.str s), some (.fls [.str s]), none, none, none, none, none, none, none]) (h1 := h) (by
        simp [isS, mSplit, z3, split_one f4]) ?_
      rw [seq_err (c := 2) (p := some (.int 0)) (δ1 := [some T, some (.str s), some (.fls [.str s]), some (.int 0), some (.str s), none, none, none, none, none]) (h1 := h)]
      · rfl
      · unfold FL.sForE
        simp only [ap_aCons, ap_eV, List.getElem?_cons_succ, List.getElem?_cons_zero, vK_some, bind_ok, ap_aNil, thenS_ok]
        show forT (gT 2 (gCons (gN 3) (gCons (gN 4) gNil))) (b_read_by_1 (fun _ _ => .bad) fun _ _ => .bad) [.tup [.int 0, .str s]] [some T, some (.str s), some (.fls [.str s]), none, none, none, none, none, none, none] h = _
        rw [forT_cons]
        show tgS (some ([some T, some (.str s), some (.fls [.str s]), some (.int 0), some (.str s), none, none, none, none, none], h)) _ = _
        rw [tgS_some]
        unfold b_read_by_1
        rw [ap_sIf, ap_tAnd, ap_tV, ap_e2]
        simp only [ap_eV, List.getElem?_cons_succ, List.getElem?_cons_zero, vK_some, bind_ok, nin, of_some, bK_bl, if_true]
        rw [ap_tV, ap_e2]
        simp only [ap_eV, List.getElem?_cons_succ, List.getElem?_cons_zero, vK_some, bind_ok, ap_eC, ap_eTup, ap_aCons, ap_aNil, List.length_cons, List.length_nil, Nat.reduceAdd, Nat.reduceLeDiff, if_true, nin2, of_some, bK_bl, thenS_ok]
        rfl
    · exact .inl rfl
  · exact .inl rfl
end K22
set_option Elab.async false
set_option linter.all false
set_option maxRecDepth 100000
set_option maxHeartbeats 4000000
namespace K22
open PySem FL
theorem figs_all : (List.range 901).all (fun n => figs (sInt (n : Int)) && (okS (sInt (n : Int)) && decide (((n : Int)).natAbs.log2 < 1920))) = true := by decide +kernel
theorem str_ok {m : Int} (h0 : 0 ≤ m) (h1 : m ≤ 900) (h : VH) : bStr [.int m] h = some (.str (sInt m), h) ∧ figs (sInt m) = true := by
  obtain ⟨n, rfl⟩ := Int.eq_ofNat_of_zero_le h0
  have q := List.all_eq_true.mp figs_all n (List.mem_range.mpr (by omega))
  simp only [Bool.and_eq_true, decide_eq_true_eq] at q
  exact ⟨bStr_eq q.2.2 q.2.1, q.1⟩
noncomputable def readF : List D → VH → Out D := runF 2 2 (b_read rbS afS)
theorem read_no {s : List Nat} {h : VH} (hf : figs s = true) : readF [.tup [.tup [], .tup [], .tup []], .str s] h = .err 2 (some (.int 0)) h := by
  have e0 : (.tup [.tup [], .tup [], .tup []] : D) = bookD emptyB := rfl
  rw [e0]
  have run : readF [bookD emptyB, .str s] h = endF (b_read rbS afS [some (bookD emptyB), some (.str s)] h) := rfl
  have q := af_ok (h := h) empty_ok
  have q2 : rbS [tabD (rowsB emptyB), .str s] h = .err 2 (some (.int 0)) h := by
    unfold rbS
    exact if_pos ⟨rfl, hf⟩
  rw [run]
  unfold b_read
  rw [ap_sRet, ap_eF, ap_aCons, ap_eF]
  simp only [ap_aCons, ap_eV, List.getElem?_cons_succ, List.getElem?_cons_zero, vK_some, bind_ok, ap_aNil, q, q2]
  rfl
noncomputable def initF : List D → VH → Out D := runF 3 3 (b_Desk___init__ cbS)
noncomputable def wthF : List D → VH → Out D := runF 2 3 b_without
noncomputable def takeF : List D → VH → Out D := runF 2 7 (b_Desk_take wthF fun _ _ => .bad)
def eD : D := .tup [.tup [], .tup [], .tup []]
def deskF (l : Bool) (i j : Nat) : List (Str × D) := [("book", eD), ("lets", .bl l), ("deeds", .ref i), ("undone", .ref j)]
theorem new_ok {δ : DS} {xs : FA} {H : VH} (hx : xs δ H = .ok [eD, .bl true] H) : eNew 0 initF xs δ H = .ok (.ref H.length) (H ++ [O.ins 0 (deskF true (H.length + 1) (H.length + 2)), O.lst [], O.lst []]) := by
  have q : cbS [eD] (H ++ [O.ins 0 []]) = .ok .non (H ++ [O.ins 0 []]) := cb_ok empty_ok.sm empty_ok.bk
  have run : initF [.ref H.length, eD, .bl true] (H ++ [O.ins 0 []]) = endF (b_Desk___init__ cbS [some (.ref H.length), some eD, some (.bl true)] (H ++ [O.ins 0 []])) := rfl
  have g1 : ∀ (fs : List (Str × D)) (g : VH), (H ++ (O.ins 0 fs :: g))[H.length]? = some (O.ins 0 fs) := fun fs g => by rw [hp_at0]; rfl
  have st : ∀ (fs : List (Str × D)) (g : VH) (f : Str) (v : D), fs.length < 1000 → stFld 0 f (.ref H.length) v (H ++ (O.ins 0 fs :: g)) = some (H ++ (O.ins 0 (putFD f v fs) :: g)) := fun fs g f v hl => by
    rw [stFld_at (g1 fs g) hl, hp_set0]
    rfl
  rw [ap_eNew, hx]
  simp only [bind_ok]
  rw [run]
  unfold b_Desk___init__
  rw [run_nx (δ1 := [some (.ref H.length), some eD, some (.bl true)]) (h1 := H ++ [O.ins 0 []]) (o := .ok .non (H ++ [O.ins 0 (deskF true (H.length + 1) (H.length + 2)), O.lst [], O.lst []])) (by simp [q]) ?_]
  · rfl
  have s1 := st [] [] "book" eD (by decide)
  refine run_nx (δ1 := [some (.ref H.length), some eD, some (.bl true)]) (h1 := H ++ [O.ins 0 [("book", eD)]]) (by
    rw [ap_sFld]
    simp only [ap_eV, List.getElem?_cons_zero, List.getElem?_cons_succ, vK_some, thenS_ok, s1, fsK_some]
    rfl) ?_
  have s2 := st [("book", eD)] [] "lets" (.bl true) (by show 1 < 1000; decide)
  refine run_nx (δ1 := [some (.ref H.length), some eD, some (.bl true)]) (h1 := H ++ [O.ins 0 [("book", eD), ("lets", .bl true)]]) (by
    rw [ap_sFld]
    simp only [ap_eV, List.getElem?_cons_zero, List.getElem?_cons_succ, vK_some, thenS_ok, s2, fsK_some]
    rfl) ?_
  have s3 := st [("book", eD), ("lets", .bl true)] [O.lst []] "deeds" (.ref (H.length + 1)) (by show 2 < 1000; decide)
  have n1 : (H ++ [O.ins 0 [("book", eD), ("lets", .bl true)]]).length = H.length + 1 := by rw [List.length_append]; rfl
  refine run_nx (δ1 := [some (.ref H.length), some eD, some (.bl true)]) (h1 := H ++ [O.ins 0 [("book", eD), ("lets", .bl true), ("deeds", .ref (H.length + 1))], O.lst []]) (by
    rw [ap_sFld, ap_eLst, ap_aNil]
    simp only [bind_ok, List.length_nil, Nat.zero_le, if_true, thenS_ok, ap_eV, List.getElem?_cons_zero, vK_some, n1]
    rw [List.append_assoc]
    simp only [List.cons_append, List.nil_append]
    rw [s3]
    rfl) ?_
  have s4 := st [("book", eD), ("lets", .bl true), ("deeds", .ref (H.length + 1))] [O.lst [], O.lst []] "undone" (.ref (H.length + 2)) (by show 3 < 1000; decide)
  have n2 : (H ++ [O.ins 0 [("book", eD), ("lets", .bl true), ("deeds", .ref (H.length + 1))], O.lst []]).length = H.length + 2 := by rw [List.length_append]; rfl
  rw [ap_sFld, ap_eLst, ap_aNil]
  simp only [bind_ok, List.length_nil, Nat.zero_le, if_true, thenS_ok, ap_eV, List.getElem?_cons_zero, vK_some, n2]
  rw [List.append_assoc]
  simp only [List.cons_append, List.nil_append]
  rw [s4]
  rfl
theorem wth_nil {s : List Nat} {h : VH} : wthF [.tup [], .str s] h = .ok (.tup []) h := by
  have run : wthF [.tup [], .str s] h = endF (b_without [some (.tup []), some (.str s), none] h) := rfl
  rw [run]
  unfold b_without
  simp [lcX, lcT, lcEnd, bTup, seqOf]
theorem take_no {r : Nat} {h : VH} {l : Bool} {i j : Nat} {s : List Nat} (e : h[r]? = some (O.ins 0 (deskF l i j))) : takeF [.ref r, .str s] h = .err 5 none h := by
  have run : takeF [.ref r, .str s] h = endF (b_Desk_take wthF (fun _ _ => .bad) [some (.ref r), some (.str s), none, none, none, none, none] h) := rfl
  have f1 : oFld 0 "book" (.ref r) h = some (eD, h) := oFld_at e rfl
  rw [run]
  unfold b_Desk_take
  refine run_nx (δ1 := [some (.ref r), some (.str s), some (.tup []), some (.tup []), some (.tup []), none, none]) (h1 := h) (by
    rw [ap_sAs, ap_e1]
    simp only [ap_eV, List.getElem?_cons_zero, vK_some, bind_ok, f1, of_some, thenS_ok]
    rfl) ?_
  have w := wth_nil (s := s) (h := h)
  refine run_nx (δ1 := [some (.ref r), some (.str s), some (.tup []), some (.tup []), some (.tup []), some eD, none]) (h1 := h) (by
    rw [ap_sAs]
    simp [lcX, lcT, lcEnd, bTup, seqOf, w, eD]) ?_
  rw [seq_err (c := 5) (p := none) (δ1 := [some (.ref r), some (.str s), some (.tup []), some (.tup []), some (.tup []), some eD, none]) (h1 := h)]
  · rfl
  · rw [ap_sIf, ap_tV, ap_e2]
    simp only [ap_e1, ap_eV, List.getElem?_cons_zero, List.getElem?_cons_succ, vK_some, bind_ok, f1, of_some]
    have c : cEq eD eD h = some (.bl true, h) := rfl
    simp only [c, of_some, bind_ok, bK_bl, thenS_ok, if_true, ap_sRaise]
def outD (k : Nat) : D := .fls [.bl (decide (k = 0)), .bl (decide (k = 1)), .bl (decide (k = 2)), .bl (decide (k = 3)), .bl (decide (k = 4)), .bl (decide (k = 5)), .bl true]
theorem tell_err (c : Nat) (p : Option D) (h : VH) : tellR 3 tellHd tellFr (.err c p h) = .ok (outD c) h := anyA_eq fun f => by
  have e : tellHd c p (tell0 3 f) h = .ret (outD c) h := anyR_eq fun a => by
    show tellS c a [some (.adr f), some (.adr a), none] h = _
    have ei : ∀ (δ : DS) (b : Bool) (h : VH), δ[1]? = some (some (.adr a)) → eIsE 1 a b δ h = .ok (.bl b) h := fun δ b h e => by
      unfold eIsE
      rw [e]
      exact if_pos rfl
    unfold tellS
    refine (seq_nx (δ1 := [some (.adr f), some (.adr a), some (.fls [.bl (sub c 0), .bl (sub c 1), .bl (sub c 2), .bl (sub c 3)])]) (h1 := h) ?_).trans ?_
    · rw [ap_sAs, ap_eFl]
      simp only [ap_aCons, ap_aNil, ei [some (.adr f), some (.adr a), none] _ h rfl, bind_ok]
      rfl
    · rw [ap_sRet, ap_e2]
      simp only [ap_eFl, ap_aCons, ap_aNil, ap_eV, List.getElem?_cons_zero, List.getElem?_cons_succ, vK_some, ei [some (.adr f), some (.adr a), some (.fls [.bl (sub c 0), .bl (sub c 1), .bl (sub c 2), .bl (sub c 3)])] _ h rfl, bind_ok]
      rfl
  show endF (nextS (tellHd c p (tell0 3 f) h) tellFr) = _
  rw [e]
  rfl
end K22
set_option Elab.async false
set_option linter.all false
set_option maxRecDepth 100000
set_option maxHeartbeats 4000000
namespace K22
open PySem FL
abbrev Cl := List (Str × Addr)
noncomputable def fbs : List FE := [eF ntS (aCons (FL.e2 oAdd (eC (.int 999999)) (eV 4)) aNil), eF cbS (aCons (eV 4) aNil),
  eF readF (aCons (eTup (aCons (eTup aNil) (aCons (eTup aNil) (aCons (eTup aNil) aNil)))) (aCons (eB bStr (aCons (eV 4) aNil)) aNil)), eF shS (aCons (eV 4) (aCons (eC (.int 0)) aNil)),
  eF putS (aCons (FL.e2 oMul (eFl (aCons (eC (.str [117, 110])) aNil)) (FL.e2 oAdd (eC (.int 7)) (eV 4))) (aCons (eTup (aCons (eC (.int 1)) aNil)) aNil)), eMeth 0 "take" takeF (eV 5) (aCons (eB bStr (aCons (eV 4) aNil)) aNil)]
def lams (c : Cl) : List LamD := [lam_law_0 c, lam_law_1 c, lam_law_2 c, lam_law_3 c, lam_law_4 c, lam_law_5 c]
noncomputable def LsW (c : Cl) : List (LamD × FE) := (lams c).zip fbs
noncomputable def bl1 (c : Cl) : FSt := b_law_1 c rollS initF ntS cbS readF shS putS takeF roundsS
noncomputable def bl2 (c : Cl) : FSt := b_law_2 c rollS initF ntS cbS readF shS putS takeF roundsS
def lawD (c : Cl) (x0 : Option D) (j : Nat) (x3 : Option D) (m : Int) (r : Nat) (x6 : Option D) : DS := [x0, some (.ref j), some (.fls ((lams c).map fun L => .clo L [])), x3, some (.int m), some (.ref r), x6]
def askK : FE := FL.e2 oAdd (FL.eLcR (aCons (eC (.int 6)) aNil) (gN 6) tYes (FL.e2 cEq (eV 6) (eV 3)) [6]) (eFl (aCons (eC (.bl true)) aNil))
theorem ask_at {δ : DS} {h : VH} {k : Nat} (hk : k < 6) (hl : δ.length = 7) (h3 : δ[3]? = some (some (.int (k : Int)))) : askK δ h = .ok (outD k) h := by
  rcases δ with _ | ⟨x0, _ | ⟨x1, _ | ⟨x2, _ | ⟨x3, _ | ⟨x4, _ | ⟨x5, _ | ⟨x6, _ | ⟨x7, δ⟩⟩⟩⟩⟩⟩⟩⟩ <;> simp at hl
  simp at h3
  subst h3
  rcases (show k = 0 ∨ k = 1 ∨ k = 2 ∨ k = 3 ∨ k = 4 ∨ k = 5 by omega) with rfl | rfl | rfl | rfl | rfl | rfl <;> rfl
theorem turn_of {c : Cl} {x0 : Option D} {j : Nat} {m : Int} {r : Nat} {x6 : Option D} {h : VH} {k : Nat} (hk : k < 6) {L : LamD} {fb : FE} {cl : Cl} {p : Option D} (e1 : (LsW c)[k]? = some (L, fb)) (e2 : (lams c)[k]? = some L) (e3 : L.ix = k) (e4 : L.cl = some cl)
    (e5 : fb (lawD c x0 j (some (.int (k : Int))) m r x6) h = .err k p h) : bl1 c (lawD c x0 j (some (.int (k : Int))) m r x6) h = .nx (lawD c x0 j (some (.int (k : Int))) m r x6) h := by
  generalize hδ : lawD c x0 j (some (.int (k : Int))) m r x6 = δ at *
  have h2 : δ[2]? = some (some (.fls ((lams c).map fun L => .clo L []))) := by rw [← hδ]; rfl
  have h3 : δ[3]? = some (some (.int (k : Int))) := by rw [← hδ]; rfl
  have hl : δ.length = 7 := by rw [← hδ]; rfl
  show (sIf (tV (FL.e2 cNe (eTellG (tellR 3 tellHd tellFr) (LsW c) (FL.e2 oIx (eV 2) (eV 3))) askK)) (sRet (eC (.bl false))) sNil) δ h = _
  have a := ask_at (h := h) hk hl h3
  have i : oIx (.fls ((lams c).map fun L => .clo L [])) (.int (k : Int)) h = some (.clo L [], h) := by
    show (match atI ((lams c).map fun L => D.clo L []) (k : Int) with
      | some d => some (d, h)
      | none => none) = _
    rw [atI_nat, List.getElem?_map, e2]
    rfl
  have cb : callB (LsW c) L [] δ h = .err k p h := (callB_live (by rw [e3]; exact e1) e4).trans e5
  have cn : cNe (outD k) (outD k) h = some (.bl false, h) := by
    rcases (show k = 0 ∨ k = 1 ∨ k = 2 ∨ k = 3 ∨ k = 4 ∨ k = 5 by omega) with rfl | rfl | rfl | rfl | rfl | rfl <;> rfl
  rw [ap_sIf, ap_tV, ap_e2]
  simp only [ap_eTellG, ap_e2, ap_eV, h2, h3, vK_some, bind_ok, i, of_some, tgK_clo, cb, tell_err, a, cn, bK_bl, thenS_ok]
  rfl
theorem turns {c : Cl} {x0 : Option D} {j : Nat} {m : Int} {r : Nat} {x3 x6 : Option D} {h : VH} {l : Bool} {a b : Nat} (h0 : 1 ≤ m) (h1 : m ≤ 900) (hr : h[r]? = some (O.ins 0 (deskF l a b))) :
    forT (gN 3) (bl1 c) [.int (0 : Nat), .int (1 : Nat), .int (2 : Nat), .int (3 : Nat), .int (4 : Nat), .int (5 : Nat)] (lawD c x0 j x3 m r x6) h = .nx (lawD c x0 j (some (.int (5 : Nat))) m r x6) h := by
  obtain ⟨s1, s2⟩ := str_ok (m := m) (by omega) h1 h
  have t0 : bl1 c (lawD c x0 j (some (.int ((0 : Nat) : Int))) m r x6) h = .nx (lawD c x0 j (some (.int ((0 : Nat) : Int))) m r x6) h := turn_of (by decide) rfl rfl rfl rfl (p := none) (by
    have q : ntS [.int (999999 + m)] h = .err 0 none h := if_pos (by omega)
    show (eF ntS (aCons (FL.e2 oAdd (eC (.int 999999)) (eV 4)) aNil)) _ h = _
    rw [ap_eF]
    simp only [ap_aCons, ap_e2, ap_eC, ap_eV, lawD, List.getElem?_cons_succ, List.getElem?_cons_zero, vK_some, bind_ok, oAdd, of_some, ap_aNil, q])
  have t1 : bl1 c (lawD c x0 j (some (.int ((1 : Nat) : Int))) m r x6) h = .nx (lawD c x0 j (some (.int ((1 : Nat) : Int))) m r x6) h := turn_of (by decide) rfl rfl rfl rfl (p := none) (by
    have q : cbS [.int m] h = .err 1 none h := cb_bad (.inr ⟨m, rfl⟩)
    show (eF cbS (aCons (eV 4) aNil)) _ h = _
    rw [ap_eF]
    simp only [ap_aCons, ap_eV, lawD, List.getElem?_cons_succ, List.getElem?_cons_zero, vK_some, bind_ok, ap_aNil, q])
  have t2 : bl1 c (lawD c x0 j (some (.int ((2 : Nat) : Int))) m r x6) h = .nx (lawD c x0 j (some (.int ((2 : Nat) : Int))) m r x6) h := turn_of (by decide) rfl rfl rfl rfl (p := some (.int 0)) (by
    have q := read_no (h := h) s2
    show (eF readF (aCons (eTup (aCons (eTup aNil) (aCons (eTup aNil) (aCons (eTup aNil) aNil)))) (aCons (eB bStr (aCons (eV 4) aNil)) aNil))) _ h = _
    rw [ap_eF]
    simp only [ap_aCons, ap_eTup, ap_aNil, bind_ok, List.length_nil, List.length_cons, Nat.zero_le, Nat.reduceAdd, Nat.reduceLeDiff, if_true, ap_eB, ap_eV, lawD, List.getElem?_cons_succ, List.getElem?_cons_zero, vK_some, s1, of_some, q])
  have t3 : bl1 c (lawD c x0 j (some (.int ((3 : Nat) : Int))) m r x6) h = .nx (lawD c x0 j (some (.int ((3 : Nat) : Int))) m r x6) h := turn_of (by decide) rfl rfl rfl rfl (p := none) (by
    have q : shS [.int m, .int 0] h = .err 3 none h := if_pos (by omega)
    show (eF shS (aCons (eV 4) (aCons (eC (.int 0)) aNil))) _ h = _
    rw [ap_eF]
    simp only [ap_aCons, ap_eC, ap_eV, lawD, List.getElem?_cons_succ, List.getElem?_cons_zero, vK_some, bind_ok, ap_aNil, q])
  have t4 : bl1 c (lawD c x0 j (some (.int ((4 : Nat) : Int))) m r x6) h = .nx (lawD c x0 j (some (.int ((4 : Nat) : Int))) m r x6) h := turn_of (by decide) rfl rfl rfl rfl (p := none) (by
    have le : (List.replicate (7 + m).toNat [D.str [117, 110]]).flatten.length = (7 + m).toNat := by
      rw [List.length_flatten, List.map_replicate, List.sum_replicate_nat]
      simp
    have q : putS [.fls (List.replicate (7 + m).toNat [D.str [117, 110]]).flatten, .tup [.int 1]] h = .err 4 none h := if_pos (by rw [le]; omega)
    have q2 : oMul (.fls [D.str [117, 110]]) (.int (7 + m)) h = some (.fls (List.replicate (7 + m).toNat [D.str [117, 110]]).flatten, h) := by
      show (if -9223372036854775808 ≤ 7 + m ∧ 7 + m < 9223372036854775808 ∧ [D.str [117, 110]].length * (7 + m).toNat ≤ 16777216 then _ else none) = _
      rw [if_pos ⟨by omega, by omega, by simp; omega⟩]
    show (eF putS (aCons (FL.e2 oMul (eFl (aCons (eC (.str [117, 110])) aNil)) (FL.e2 oAdd (eC (.int 7)) (eV 4))) (aCons (eTup (aCons (eC (.int 1)) aNil)) aNil))) _ h = _
    rw [ap_eF]
    simp only [ap_aCons, ap_e2, ap_eFl, ap_eC, ap_aNil, bind_ok, List.length_nil, List.length_cons, Nat.reduceAdd, Nat.reduceLeDiff, if_true, ap_eV, lawD, List.getElem?_cons_succ, List.getElem?_cons_zero, vK_some, oAdd, of_some, q2, ap_eTup, q])
  have t5 : bl1 c (lawD c x0 j (some (.int ((5 : Nat) : Int))) m r x6) h = .nx (lawD c x0 j (some (.int ((5 : Nat) : Int))) m r x6) h := turn_of (by decide) rfl rfl rfl rfl (p := none) (by
    have q := take_no (s := sInt m) hr
    have hm : hasM 0 "take" (.ref r) h = true := hasM_at hr rfl
    show (eMeth 0 "take" takeF (eV 5) (aCons (eB bStr (aCons (eV 4) aNil)) aNil)) _ h = _
    rw [ap_eMeth]
    simp only [ap_aCons, ap_eB, ap_eV, lawD, List.getElem?_cons_succ, List.getElem?_cons_zero, vK_some, bind_ok, hm, if_true, s1, of_some, ap_aNil, q])
  have st : ∀ (x : D) (x3 : Option D) (l : List D), forT (gN 3) (bl1 c) (x :: l) (lawD c x0 j x3 m r x6) h = loopS (bl1 c (lawD c x0 j (some x) m r x6) h) (forT (gN 3) (bl1 c) l) := fun x x3 l => by
    rw [forT_cons]
    rfl
  rw [st, t0, loopS_nx, st, t1, loopS_nx, st, t2, loopS_nx, st, t3, loopS_nx, st, t4, loopS_nx, st, t5, loopS_nx]
  rfl
theorem body_ok (δ : Cl → DS) (h : VH) (j : Nat) (s : Dc) (a : ∀ c, (δ c).length = 7) (c1 : ∀ c, (δ c)[1]? = some (some (.ref j))) (hj : j < h.length) : ∃ (δ' : Cl → DS) (h' : VH), (∀ c, bl2 c (δ c) (h.set j (dO s)) = .nx (δ' c) h') ∧ (∀ c, (δ' c).length = 7) ∧ ∃ s' g, h' = h.set j (dO s') ++ g := by
  have r1 := rollS_set (j := j) (m := 900) (h := h) (s := s) hj (by decide) (by decide)
  have v0 : 0 ≤ dVal s 900 := dVal_lo (by decide)
  have v1 : dVal s 900 < 900 := dVal_hi (by decide)
  generalize hH : h.set j (dO (dNext s 900)) = H at *
  generalize dVal s 900 = v at *
  have e0 : eD = .tup [.tup [], .tup [], .tup []] := rfl
  refine ⟨fun c => lawD c ((δ c)[0]?.getD none) j (some (.int (5 : Nat))) (1 + v) H.length ((δ c)[6]?.getD none), H ++ [O.ins 0 (deskF true (H.length + 1) (H.length + 2)), O.lst [], O.lst []], fun c => ?_, fun c => rfl, dNext s 900, [O.ins 0 (deskF true (H.length + 1) (H.length + 2)), O.lst [], O.lst []], by rw [hH]⟩
  have hr : (H ++ [O.ins 0 (deskF true (H.length + 1) (H.length + 2)), O.lst [], O.lst []])[H.length]? = some (O.ins 0 (deskF true (H.length + 1) (H.length + 2))) := by
    rw [hp_at0]
    rfl
  have hl := a c
  have hc := c1 c
  show bl2 c (δ c) (h.set j (dO s)) = .nx (lawD c ((δ c)[0]?.getD none) j (some (.int (5 : Nat))) (1 + v) H.length ((δ c)[6]?.getD none)) (H ++ [O.ins 0 (deskF true (H.length + 1) (H.length + 2)), O.lst [], O.lst []])
  generalize δ c = δ0 at *
  rcases δ0 with _ | ⟨x0, _ | ⟨x1, _ | ⟨x2, _ | ⟨x3, _ | ⟨x4, _ | ⟨x5, _ | ⟨x6, _ | ⟨x7, δ0⟩⟩⟩⟩⟩⟩⟩⟩ <;> simp at hl
  obtain rfl : x1 = some (.ref j) := by simpa using hc
  show bl2 c [x0, some (.ref j), x2, x3, x4, x5, x6] (h.set j (dO s)) = .nx (lawD c x0 j (some (.int (5 : Nat))) (1 + v) H.length x6) _
  unfold bl2 b_law_2
  refine (seq_nx (δ1 := [x0, some (.ref j), x2, x3, some (.int (1 + v)), some (.ref H.length), x6]) (h1 := H ++ [O.ins 0 (deskF true (H.length + 1) (H.length + 2)), O.lst [], O.lst []]) ?_).trans ?_
  · have f1 : (FL.e2 oAdd (eC (.int 1)) (eF rollS (aCons (eV 1) (aCons (eC (.int 900)) aNil)))) [x0, some (.ref j), x2, x3, x4, x5, x6] (h.set j (dO s)) = .ok (.int (1 + v)) H := by
      rw [ap_e2]
      simp only [ap_eF, ap_eC, ap_aCons, ap_eV, List.getElem?_cons_succ, List.getElem?_cons_zero, vK_some, bind_ok, ap_aNil, r1, oAdd, of_some]
    rw [ap_sAs, ap_eTup, ap_aCons, f1]
    simp only [ap_aCons, bind_ok]
    have n := new_ok (δ := [x0, some (.ref j), x2, x3, x4, x5, x6]) (H := H) (xs := aCons (eTup (aCons (eTup aNil) (aCons (eTup aNil) (aCons (eTup aNil) aNil)))) (aCons (eC (.bl true)) aNil)) (by
      simp only [ap_aCons, ap_eTup, ap_aNil, bind_ok, List.length_nil, List.length_cons, Nat.zero_le, Nat.reduceAdd, Nat.reduceLeDiff, if_true, ap_eC, e0])
    rw [n]
    rfl
  refine (seq_nx (δ1 := lawD c x0 j x3 (1 + v) H.length x6) (h1 := H ++ [O.ins 0 (deskF true (H.length + 1) (H.length + 2)), O.lst [], O.lst []]) ?_).trans ?_
  · rw [ap_sAs, ap_eFl]
    simp only [ap_aCons, ap_eLam, bind_ok, ap_aNil]
    rfl
  · have rr : (aCons (eB bLen (aCons (eV 2) aNil)) aNil) (lawD c x0 j x3 (1 + v) H.length x6) (H ++ [O.ins 0 (deskF true (H.length + 1) (H.length + 2)), O.lst [], O.lst []]) = .ok [.int ((6 : Nat) : Int)] (H ++ [O.ins 0 (deskF true (H.length + 1) (H.length + 2)), O.lst [], O.lst []]) := by
      simp only [ap_aCons, ap_eB, ap_eV, lawD, List.getElem?_cons_succ, List.getElem?_cons_zero, vK_some, bind_ok, ap_aNil]
      rfl
    rw [forR_1 rr (by decide)]
    exact turns (c := c) (by omega) (by omega) hr
end K22
set_option Elab.async false
set_option linter.all false
set_option maxRecDepth 100000
set_option maxHeartbeats 4000000
noncomputable section
namespace K22
open PySem FL
open PySem.Spec PyProof.Rows L2
structure AllF (P : Program) (K : PySem.W.Frag) (w : World) (mg : Str → Option Value) (g : Gc) (cs : List (Addr × Addr)) : Prop where
  f_told : ∃ f fd, L2.Fun K "told" "told" s_told f fd ∧ mg "told" = some (.ref f) ∧ Binds K fd ["number"] []
  f_shortest : KeyD K mg g cs "shortest" s_shortest ["low", "high"] (PySem.Str.ofString "shortest.<locals>.<lambda>")
  f_is_word : KeyD K mg g cs "is_word" s_is_word ["thing"] (PySem.Str.ofString "is_word.<locals>.<genexpr>")
  f_is_book : KeyD K mg g cs "is_book" s_is_book ["thing"] (PySem.Str.ofString "is_book.<locals>.<genexpr>")
  f_is_stem : ∃ f fd, L2.Fun K "is_stem" "is_stem" s_is_stem f fd ∧ mg "is_stem" = some (.ref f) ∧ Binds K fd ["thing"] []
  f_rises : KeyD K mg g cs "rises" s_rises ["row"] (PySem.Str.ofString "rises.<locals>.<genexpr>")
  f_check_book : ∃ f fd, L2.Fun K "check_book" "check_book" s_check_book f fd ∧ mg "check_book" = some (.ref f) ∧ Binds K fd ["thing"] []
  f_joined : ∃ f fd, L2.Fun K "joined" "joined" s_joined f fd ∧ mg "joined" = some (.ref f) ∧ Binds K fd ["stem", "ending"] []
  f_thing_form : ∃ f fd, L2.Fun K "thing_form" "thing_form" s_thing_form f fd ∧ mg "thing_form" = some (.ref f) ∧ Binds K fd ["stem", "kind", "case", "many"] []
  f_deed_form : ∃ f fd, L2.Fun K "deed_form" "deed_form" s_deed_form f fd ∧ mg "deed_form" = some (.ref f) ∧ Binds K fd ["stem", "time", "person", "many"] []
  f_who_form : ∃ f fd, L2.Fun K "who_form" "who_form" s_who_form f fd ∧ mg "who_form" = some (.ref f) ∧ Binds K fd ["who", "case", "many"] []
  f_forms_of_thing : ∃ f fd, L2.Fun K "forms_of_thing" "forms_of_thing" s_forms_of_thing f fd ∧ mg "forms_of_thing" = some (.ref f) ∧ Binds K fd ["stem", "kind"] []
  f_forms_of_deed : ∃ f fd, L2.Fun K "forms_of_deed" "forms_of_deed" s_forms_of_deed f fd ∧ mg "forms_of_deed" = some (.ref f) ∧ Binds K fd ["stem"] []
  f_asked_form : ∃ f fd, L2.Fun K "asked_form" "asked_form" s_asked_form f fd ∧ mg "asked_form" = some (.ref f) ∧ Binds K fd ["case"] []
  f_all_forms : ∃ f fd, L2.Fun K "all_forms" "all_forms" s_all_forms f fd ∧ mg "all_forms" = some (.ref f) ∧ Binds K fd ["book"] []
  f_doubtful : ∃ f fd, L2.Fun K "doubtful" "doubtful" s_doubtful f fd ∧ mg "doubtful" = some (.ref f) ∧ Binds K fd ["book"] []
  f_without : ∃ f fd, L2.Fun K "without" "without" s_without f fd ∧ mg "without" = some (.ref f) ∧ Binds K fd ["row", "one"] []
  f_repr_of : ∃ f fd, L2.Fun K "repr_of" "repr_of" s_repr_of f fd ∧ mg "repr_of" = some (.ref f) ∧ Binds K fd ["thing"] []
  f_whole : ∃ f fd, L2.Fun K "whole" "whole" s_whole f fd ∧ mg "whole" = some (.ref f) ∧ Binds K fd ["table", "words", "k", "held"] []
  f_read_by : KeyD K mg g cs "read_by" s_read_by ["table", "text"] (PySem.Str.ofString "read_by.<locals>.<lambda>")
  f_read : ∃ f fd, L2.Fun K "read" "read" s_read f fd ∧ mg "read" = some (.ref f) ∧ Binds K fd ["book", "text"] []
  f_putting : ∃ f fd, L2.Fun K "putting" "putting" s_putting f fd ∧ mg "putting" = some (.ref f) ∧ Binds K fd ["left", "feet", "row"] []
  f_put : ∃ f fd, L2.Fun K "put" "put" s_put f fd ∧ mg "put" = some (.ref f) ∧ Binds K fd ["words", "feet"] []
  f_Desk___init__ : MethF K g 0 "__init__" "Desk.__init__" s_Desk___init__ ["self", "book", "lets"]
  f_Desk_note : MethF K g 0 "note" "Desk.note" s_Desk_note ["self", "book"]
  f_Desk_take : MethF K g 0 "take" "Desk.take" s_Desk_take ["self", "stem"]
  f_law_dice : ∃ f fd, L2.Fun K "_law_dice" "_law_dice" s_law_dice f fd ∧ mg "_law_dice" = some (.ref f) ∧ Binds K fd ["cell"] []
  f_law_roll : ∃ f fd, L2.Fun K "_law_roll" "_law_roll" s_law_roll f fd ∧ mg "_law_roll" = some (.ref f) ∧ Binds K fd ["dice", "many"] []
  f_law_rounds : ∃ f fd, L2.Fun K "_law_rounds" "_law_rounds" s_law_rounds f fd ∧ mg "_law_rounds" = some (.ref f) ∧ Binds K fd ["script", "most"] []
  T_law_told : ∀ (P : Program) (base : Heap) (k : Nat), TellG P w K mg base g k "_law_told" "what" s_law_told ["what", "e", "some"] tellHd tellFr
  N_Desk : NewF K mg g 0 "Desk"
  A_Desk_book : FldA K g 0 "book"
  A_Desk_deeds : FldA K g 0 "deeds"
  A_Desk_lets : FldA K g 0 "lets"
  A_Desk_undone : FldA K g 0 "undone"
  n_isinstance : mg "isinstance" = none
  n_int : mg "int" = none
  n_bool : mg "bool" = none
  n_len : mg "len" = none
  n_min : mg "min" = none
  n_range : mg "range" = none
  n_str : mg "str" = none
  n_all : mg "all" = none
  n_any : mg "any" = none
  n_tuple : mg "tuple" = none
  n_list : mg "list" = none
  n_enumerate : mg "enumerate" = none
  n_sorted : mg "sorted" = none
  n_abs : mg "abs" = none
  C_DIGITS : Cst K mg "DIGITS" c_DIGITS
  C_TENS : Cst K mg "TENS" c_TENS
  C_MOST : Cst K mg "MOST" c_MOST
  C_VOWELS : Cst K mg "VOWELS" c_VOWELS
  C_OTHERS : Cst K mg "OTHERS" c_OTHERS
  C_CASES : Cst K mg "CASES" c_CASES
  C_TIMES : Cst K mg "TIMES" c_TIMES
  C_PERSONS : Cst K mg "PERSONS" c_PERSONS
  C_WHO : Cst K mg "WHO" c_WHO
  C_SMALL : Cst K mg "SMALL" c_SMALL
  D_ENDINGS : WD K w mg "ENDINGS" c_ENDINGS
  D_AHEAD : WD K w mg "AHEAD" c_AHEAD
  e_BadWord : Er K mg g 0 "BadWord"
  e_BadBook : Er K mg g 1 "BadBook"
  q_BadSentence : ∀ base : Heap, ErP P w K mg base g 1 2 "BadSentence"
  e_NoWay : Er K mg g 3 "NoWay"
  e_TooLarge : Er K mg g 4 "TooLarge"
  e_BadDeed : Er K mg g 5 "BadDeed"
  hsub : Subs K g sub
  hw : g.hw = fun k => NestedKey.hash w k
noncomputable def F_law : List FL.D → VH → Out FL.D := runA 1 7 (fun cells => b_law cells rollS initF ntS cbS readF shS putS takeF roundsS)
theorem law_run0 {x : FL.D} {h : VH} {ns : List Int} (hx : lsOf x h = some (ns.map FL.D.int)) (hl : ns.length ≤ 63) : ∃ h', F_law [x] h = .ok (.bl true) h' := by
  obtain ⟨δ', h', e⟩ := rounds_forB (C := Cl) (N := 7) (d := 1) (m := 3) (body := bl2) (by decide) body_ok (x := x) (h := h) (δ := [some x, none, none, none, none, none, none]) hx hl rfl rfl
  refine ⟨h', anyC_eq fun cells => ?_⟩
  have run : runF 1 7 (b_law cells rollS initF ntS cbS readF shS putS takeF roundsS) [x] h = endF (b_law cells rollS initF ntS cbS readF shS putS takeF roundsS [some x, none, none, none, none, none, none] h) := rfl
  refine run.trans ?_
  unfold b_law
  refine run_nx (e cells) ?_
  simp
theorem law_true : ∀ ns : List Int, ns.length ≤ 63 → (∃ h', F_law [.fls (ns.map FL.D.int)] [] = .ok (.bl true) h') ∧ ∃ h', F_law [.ref 0] [.lst (ns.map FL.D.int)] = .ok (.bl true) h' :=
  fun ns hl => law_both (F := F_law) (fun x h ns hx hl => law_run0 hx hl) ns hl
def tnames : List Str := ["law", "shortest", "is_word", "is_book", "rises", "read_by"]
theorem all_mk {l : PySem.W.OpenLaw} {w : World} {K : PySem.W.Frag} {h : Heap} {mg : Str → Option Value} {fa : Addr} (X : K.In h) (G : h.Ns mainGlobals mg) (hfa : mg "law" = some (.ref fa)) (own : AllTab K mg tnames h)
    {f0 cc1 Pt1 f1 cc2 Pt2 f2 cc3 Pt3 f3 f4 cc5 Pt5 f5 f6 f7 f8 f9 f10 f11 f12 f13 f14 f15 f16 f17 f18 cc19 Pt19 f19 f20 f21 f22 f23 f24 f25 f26 f27 f28 f29 KC0 v_DIGITS v_TENS_0 v_TENS_1 v_TENS_2 v_TENS v_CASES v_TIMES v_PERSONS v_WHO v_SMALL v_ENDINGS_0 v_ENDINGS_1 v_ENDINGS v_AHEAD C0 C1 C2 e2N e2f e2cd e2cc C3 C4 C5 CTt fl cl Pt : Addr} {od0 an0 od1 an1 od2 an2 od3 an3 od4 an4 od5 an5 od6 an6 od7 an7 od8 an8 od9 an9 od10 an10 od11 an11 od12 an12 od13 an13 od14 an14 od15 an15 od16 an16 od17 an17 od18 an18 od19 an19 od20 an20 od21 an21 od22 an22 od23 an23 od24 an24 od25 an25 od26 an26 od27 an27 od28 an28 od29 an29 e2dd e2od e2an e2cdd e2cld odl anl : Option Addr} {sl0 sl1 sl2 sl3 sl4 sl5 sl6 sl7 sl8 sl9 sl10 sl11 sl12 sl13 sl14 sl15 sl16 sl17 sl18 sl19 sl20 sl21 sl22 sl23 sl24 sl25 sl26 sl27 sl28 sl29 s_DIGITS s_TENS_0 s_TENS_1 s_TENS_2 s_TENS s_CASES s_TIMES s_PERSONS s_WHO s_SMALL s_ENDINGS_0 s_ENDINGS_1 e2osl e2ccs e2csl sll : Array (Option Value)} {oc0 kV0 dc0 pm0 ct0 cd0 oc1 kV1 dc1 pm1 ct1 oc2 kV2 dc2 pm2 ct2 oc3 kV3 dc3 pm3 ct3 oc4 kV4 dc4 pm4 ct4 cd4 oc5 kV5 dc5 pm5 ct5 oc6 kV6 dc6 pm6 ct6 cd6 oc7 kV7 dc7 pm7 ct7 cd7 oc8 kV8 dc8 pm8 ct8 cd8 oc9 kV9 dc9 pm9 ct9 cd9 oc10 kV10 dc10 pm10 ct10 cd10 oc11 kV11 dc11 pm11 ct11 cd11 oc12 kV12 dc12 pm12 ct12 cd12 oc13 kV13 dc13 pm13 ct13 cd13 oc14 kV14 dc14 pm14 ct14 cd14 oc15 kV15 dc15 pm15 ct15 cd15 oc16 kV16 dc16 pm16 ct16 cd16 oc17 kV17 dc17 pm17 ct17 cd17 oc18 kV18 dc18 pm18 ct18 cd18 oc19 kV19 dc19 pm19 ct19 oc20 kV20 dc20 pm20 ct20 cd20 oc21 kV21 dc21 pm21 ct21 cd21 oc22 kV22 dc22 pm22 ct22 cd22 oc23 kV23 dc23 pm23 ct23 cd23 oc24 kV24 dc24 pm24 ct24 cd24 oc25 kV25 dc25 pm25 ct25 cd25 oc26 kV26 dc26 pm26 ct26 cd26 oc27 kV27 dc27 pm27 ct27 cd27 oc28 kV28 dc28 pm28 ct28 cd28 oc29 kV29 dc29 pm29 ct29 cd29 e2oc e2kV e2dc e2pm e2ct e2ccl e2cl ocl kVl dcl pml ctl : Value} {ob1 ob2 ob3 ob5 ob19 ocb : Obj} {vs1 vs2 vs3 vs5 vs19 i_DIGITS i_TENS_0 i_TENS_1 i_TENS_2 i_TENS i_CASES i_TIMES i_PERSONS i_WHO i_SMALL i_ENDINGS_0 i_ENDINGS_1 e2vs vsl : Array Value} {t_DIGITS_0 t_DIGITS_1 t_DIGITS_2 t_DIGITS_3 t_DIGITS_4 t_DIGITS_5 t_DIGITS_6 t_DIGITS_7 t_DIGITS_8 t_DIGITS_9 t_TENS_0_0 t_TENS_0_1 t_TENS_1_0 t_TENS_1_1 t_TENS_2_0 t_TENS_2_1 t_MOST t_VOWELS t_OTHERS t_CASES_0 t_CASES_1 t_CASES_2 t_CASES_3 t_TIMES_0 t_TIMES_1 t_TIMES_2 t_PERSONS_0 t_PERSONS_1 t_PERSONS_2 t_PERSONS_3 t_PERSONS_4 t_PERSONS_5 t_WHO_0 t_WHO_1 t_WHO_2 t_WHO_3 t_SMALL_0 t_SMALL_1 t_SMALL_2 t_ENDINGS_0_0 t_ENDINGS_0_1 t_ENDINGS_0_2 t_ENDINGS_0_3 k_ENDINGS_0 t_ENDINGS_1_0 t_ENDINGS_1_1 t_ENDINGS_1_2 t_ENDINGS_1_3 k_ENDINGS_1 t_AHEAD_0 k_AHEAD_0 t_AHEAD_1 k_AHEAD_1 t_AHEAD_2 k_AHEAD_2 e2tf : Tok} {n_DIGITS n_TENS_0 n_TENS_1 n_TENS_2 n_TENS n_CASES n_TIMES n_PERSONS n_WHO n_SMALL n_ENDINGS_0 n_ENDINGS_1 n_ENDINGS n_AHEAD : Nat} {i_ENDINGS i_AHEAD : Array DictEntry} {e2nm e2q e2fi : Str} {e2bs e2bm e2sb : List Value} {e2sn : List Str} {e2ab : Bool} {e2co : Option Bool} {e2m0 e2m1 e2m2 e2m3 e2m5 : Option Value}
    (kc0 : PySem.W.nsIn K mainGlobals "Desk" = some (some (.ref KC0)))
    (a0 : PySem.W.nsIn K mainGlobals "told" = some (some (.ref f0)))
    (l0 : K.lookup f0 = some ⟨oc0, od0, .func (PySem.W.fnOf "told" "told" (defArgs s_told) (defBody s_told) (defScope s_told) .none kV0 dc0 pm0 an0 cd0 ct0), sl0⟩)
    (c0 : PySem.W.codeIn K cd0 "told" = true)
    (k0 : PySem.W.keepIn K (.ref f0) = true)
    (a1 : PySem.W.nsIn K mainGlobals "shortest" = some (some (.ref f1)))
    (l1 : K.lookup f1 = some ⟨oc1, od1, .func (PySem.W.fnOf "shortest" "shortest" (defArgs s_shortest) (defBody s_shortest) (defScope s_shortest) .none kV1 dc1 pm1 an1 (.ref cc1) ct1), sl1⟩)
    (c1 : PySem.W.codeIn K (.ref cc1) "shortest" = true)
    (k1 : PySem.W.keepIn K (.ref f1) = true)
    (lc1 : K.lookup cc1 = some ob1)
    (do1 : ob1.data = .fields vs1)
    (v1 : vs1[11]? = some (.ref Pt1))
    (h1 : PySem.W.codeHdIn K cc1 Pt1 = true)
    (p1 : K.lookup Pt1 = none)
    (a2 : PySem.W.nsIn K mainGlobals "is_word" = some (some (.ref f2)))
    (l2 : K.lookup f2 = some ⟨oc2, od2, .func (PySem.W.fnOf "is_word" "is_word" (defArgs s_is_word) (defBody s_is_word) (defScope s_is_word) .none kV2 dc2 pm2 an2 (.ref cc2) ct2), sl2⟩)
    (c2 : PySem.W.codeIn K (.ref cc2) "is_word" = true)
    (k2 : PySem.W.keepIn K (.ref f2) = true)
    (lc2 : K.lookup cc2 = some ob2)
    (do2 : ob2.data = .fields vs2)
    (v2 : vs2[11]? = some (.ref Pt2))
    (h2 : PySem.W.codeHdIn K cc2 Pt2 = true)
    (p2 : K.lookup Pt2 = none)
    (a3 : PySem.W.nsIn K mainGlobals "is_book" = some (some (.ref f3)))
    (l3 : K.lookup f3 = some ⟨oc3, od3, .func (PySem.W.fnOf "is_book" "is_book" (defArgs s_is_book) (defBody s_is_book) (defScope s_is_book) .none kV3 dc3 pm3 an3 (.ref cc3) ct3), sl3⟩)
    (c3 : PySem.W.codeIn K (.ref cc3) "is_book" = true)
    (k3 : PySem.W.keepIn K (.ref f3) = true)
    (lc3 : K.lookup cc3 = some ob3)
    (do3 : ob3.data = .fields vs3)
    (v3 : vs3[11]? = some (.ref Pt3))
    (h3 : PySem.W.codeHdIn K cc3 Pt3 = true)
    (p3 : K.lookup Pt3 = none)
    (a4 : PySem.W.nsIn K mainGlobals "is_stem" = some (some (.ref f4)))
    (l4 : K.lookup f4 = some ⟨oc4, od4, .func (PySem.W.fnOf "is_stem" "is_stem" (defArgs s_is_stem) (defBody s_is_stem) (defScope s_is_stem) .none kV4 dc4 pm4 an4 cd4 ct4), sl4⟩)
    (c4 : PySem.W.codeIn K cd4 "is_stem" = true)
    (k4 : PySem.W.keepIn K (.ref f4) = true)
    (a5 : PySem.W.nsIn K mainGlobals "rises" = some (some (.ref f5)))
    (l5 : K.lookup f5 = some ⟨oc5, od5, .func (PySem.W.fnOf "rises" "rises" (defArgs s_rises) (defBody s_rises) (defScope s_rises) .none kV5 dc5 pm5 an5 (.ref cc5) ct5), sl5⟩)
    (c5 : PySem.W.codeIn K (.ref cc5) "rises" = true)
    (k5 : PySem.W.keepIn K (.ref f5) = true)
    (lc5 : K.lookup cc5 = some ob5)
    (do5 : ob5.data = .fields vs5)
    (v5 : vs5[11]? = some (.ref Pt5))
    (h5 : PySem.W.codeHdIn K cc5 Pt5 = true)
    (p5 : K.lookup Pt5 = none)
    (a6 : PySem.W.nsIn K mainGlobals "check_book" = some (some (.ref f6)))
    (l6 : K.lookup f6 = some ⟨oc6, od6, .func (PySem.W.fnOf "check_book" "check_book" (defArgs s_check_book) (defBody s_check_book) (defScope s_check_book) .none kV6 dc6 pm6 an6 cd6 ct6), sl6⟩)
    (c6 : PySem.W.codeIn K cd6 "check_book" = true)
    (k6 : PySem.W.keepIn K (.ref f6) = true)
    (a7 : PySem.W.nsIn K mainGlobals "joined" = some (some (.ref f7)))
    (l7 : K.lookup f7 = some ⟨oc7, od7, .func (PySem.W.fnOf "joined" "joined" (defArgs s_joined) (defBody s_joined) (defScope s_joined) .none kV7 dc7 pm7 an7 cd7 ct7), sl7⟩)
    (c7 : PySem.W.codeIn K cd7 "joined" = true)
    (k7 : PySem.W.keepIn K (.ref f7) = true)
    (a8 : PySem.W.nsIn K mainGlobals "thing_form" = some (some (.ref f8)))
    (l8 : K.lookup f8 = some ⟨oc8, od8, .func (PySem.W.fnOf "thing_form" "thing_form" (defArgs s_thing_form) (defBody s_thing_form) (defScope s_thing_form) .none kV8 dc8 pm8 an8 cd8 ct8), sl8⟩)
    (c8 : PySem.W.codeIn K cd8 "thing_form" = true)
    (k8 : PySem.W.keepIn K (.ref f8) = true)
    (a9 : PySem.W.nsIn K mainGlobals "deed_form" = some (some (.ref f9)))
    (l9 : K.lookup f9 = some ⟨oc9, od9, .func (PySem.W.fnOf "deed_form" "deed_form" (defArgs s_deed_form) (defBody s_deed_form) (defScope s_deed_form) .none kV9 dc9 pm9 an9 cd9 ct9), sl9⟩)
    (c9 : PySem.W.codeIn K cd9 "deed_form" = true)
    (k9 : PySem.W.keepIn K (.ref f9) = true)
    (a10 : PySem.W.nsIn K mainGlobals "who_form" = some (some (.ref f10)))
    (l10 : K.lookup f10 = some ⟨oc10, od10, .func (PySem.W.fnOf "who_form" "who_form" (defArgs s_who_form) (defBody s_who_form) (defScope s_who_form) .none kV10 dc10 pm10 an10 cd10 ct10), sl10⟩)
    (c10 : PySem.W.codeIn K cd10 "who_form" = true)
    (k10 : PySem.W.keepIn K (.ref f10) = true)
    (a11 : PySem.W.nsIn K mainGlobals "forms_of_thing" = some (some (.ref f11)))
    (l11 : K.lookup f11 = some ⟨oc11, od11, .func (PySem.W.fnOf "forms_of_thing" "forms_of_thing" (defArgs s_forms_of_thing) (defBody s_forms_of_thing) (defScope s_forms_of_thing) .none kV11 dc11 pm11 an11 cd11 ct11), sl11⟩)
    (c11 : PySem.W.codeIn K cd11 "forms_of_thing" = true)
    (k11 : PySem.W.keepIn K (.ref f11) = true)
    (a12 : PySem.W.nsIn K mainGlobals "forms_of_deed" = some (some (.ref f12)))
    (l12 : K.lookup f12 = some ⟨oc12, od12, .func (PySem.W.fnOf "forms_of_deed" "forms_of_deed" (defArgs s_forms_of_deed) (defBody s_forms_of_deed) (defScope s_forms_of_deed) .none kV12 dc12 pm12 an12 cd12 ct12), sl12⟩)
    (c12 : PySem.W.codeIn K cd12 "forms_of_deed" = true)
    (k12 : PySem.W.keepIn K (.ref f12) = true)
    (a13 : PySem.W.nsIn K mainGlobals "asked_form" = some (some (.ref f13)))
    (l13 : K.lookup f13 = some ⟨oc13, od13, .func (PySem.W.fnOf "asked_form" "asked_form" (defArgs s_asked_form) (defBody s_asked_form) (defScope s_asked_form) .none kV13 dc13 pm13 an13 cd13 ct13), sl13⟩)
    (c13 : PySem.W.codeIn K cd13 "asked_form" = true)
    (k13 : PySem.W.keepIn K (.ref f13) = true)
    (a14 : PySem.W.nsIn K mainGlobals "all_forms" = some (some (.ref f14)))
    (l14 : K.lookup f14 = some ⟨oc14, od14, .func (PySem.W.fnOf "all_forms" "all_forms" (defArgs s_all_forms) (defBody s_all_forms) (defScope s_all_forms) .none kV14 dc14 pm14 an14 cd14 ct14), sl14⟩)
    (c14 : PySem.W.codeIn K cd14 "all_forms" = true)
    (k14 : PySem.W.keepIn K (.ref f14) = true)
    (a15 : PySem.W.nsIn K mainGlobals "doubtful" = some (some (.ref f15)))
    (l15 : K.lookup f15 = some ⟨oc15, od15, .func (PySem.W.fnOf "doubtful" "doubtful" (defArgs s_doubtful) (defBody s_doubtful) (defScope s_doubtful) .none kV15 dc15 pm15 an15 cd15 ct15), sl15⟩)
    (c15 : PySem.W.codeIn K cd15 "doubtful" = true)
    (k15 : PySem.W.keepIn K (.ref f15) = true)
    (a16 : PySem.W.nsIn K mainGlobals "without" = some (some (.ref f16)))
    (l16 : K.lookup f16 = some ⟨oc16, od16, .func (PySem.W.fnOf "without" "without" (defArgs s_without) (defBody s_without) (defScope s_without) .none kV16 dc16 pm16 an16 cd16 ct16), sl16⟩)
    (c16 : PySem.W.codeIn K cd16 "without" = true)
    (k16 : PySem.W.keepIn K (.ref f16) = true)
    (a17 : PySem.W.nsIn K mainGlobals "repr_of" = some (some (.ref f17)))
    (l17 : K.lookup f17 = some ⟨oc17, od17, .func (PySem.W.fnOf "repr_of" "repr_of" (defArgs s_repr_of) (defBody s_repr_of) (defScope s_repr_of) .none kV17 dc17 pm17 an17 cd17 ct17), sl17⟩)
    (c17 : PySem.W.codeIn K cd17 "repr_of" = true)
    (k17 : PySem.W.keepIn K (.ref f17) = true)
    (a18 : PySem.W.nsIn K mainGlobals "whole" = some (some (.ref f18)))
    (l18 : K.lookup f18 = some ⟨oc18, od18, .func (PySem.W.fnOf "whole" "whole" (defArgs s_whole) (defBody s_whole) (defScope s_whole) .none kV18 dc18 pm18 an18 cd18 ct18), sl18⟩)
    (c18 : PySem.W.codeIn K cd18 "whole" = true)
    (k18 : PySem.W.keepIn K (.ref f18) = true)
    (a19 : PySem.W.nsIn K mainGlobals "read_by" = some (some (.ref f19)))
    (l19 : K.lookup f19 = some ⟨oc19, od19, .func (PySem.W.fnOf "read_by" "read_by" (defArgs s_read_by) (defBody s_read_by) (defScope s_read_by) .none kV19 dc19 pm19 an19 (.ref cc19) ct19), sl19⟩)
    (c19 : PySem.W.codeIn K (.ref cc19) "read_by" = true)
    (k19 : PySem.W.keepIn K (.ref f19) = true)
    (lc19 : K.lookup cc19 = some ob19)
    (do19 : ob19.data = .fields vs19)
    (v19 : vs19[11]? = some (.ref Pt19))
    (h19 : PySem.W.codeHdIn K cc19 Pt19 = true)
    (p19 : K.lookup Pt19 = none)
    (a20 : PySem.W.nsIn K mainGlobals "read" = some (some (.ref f20)))
    (l20 : K.lookup f20 = some ⟨oc20, od20, .func (PySem.W.fnOf "read" "read" (defArgs s_read) (defBody s_read) (defScope s_read) .none kV20 dc20 pm20 an20 cd20 ct20), sl20⟩)
    (c20 : PySem.W.codeIn K cd20 "read" = true)
    (k20 : PySem.W.keepIn K (.ref f20) = true)
    (a21 : PySem.W.nsIn K mainGlobals "putting" = some (some (.ref f21)))
    (l21 : K.lookup f21 = some ⟨oc21, od21, .func (PySem.W.fnOf "putting" "putting" (defArgs s_putting) (defBody s_putting) (defScope s_putting) .none kV21 dc21 pm21 an21 cd21 ct21), sl21⟩)
    (c21 : PySem.W.codeIn K cd21 "putting" = true)
    (k21 : PySem.W.keepIn K (.ref f21) = true)
    (a22 : PySem.W.nsIn K mainGlobals "put" = some (some (.ref f22)))
    (l22 : K.lookup f22 = some ⟨oc22, od22, .func (PySem.W.fnOf "put" "put" (defArgs s_put) (defBody s_put) (defScope s_put) .none kV22 dc22 pm22 an22 cd22 ct22), sl22⟩)
    (c22 : PySem.W.codeIn K cd22 "put" = true)
    (k22 : PySem.W.keepIn K (.ref f22) = true)
    (a23 : PySem.W.findIn K (.ref KC0) "__init__" = some (some (.ref f23)))
    (i23 : PySem.W.isFn K (.ref f23) = true)
    (l23 : K.lookup f23 = some ⟨oc23, od23, .func (PySem.W.fnOf "__init__" "Desk.__init__" (defArgs s_Desk___init__) (defBody s_Desk___init__) (defScope s_Desk___init__) .none kV23 dc23 pm23 an23 cd23 ct23), sl23⟩)
    (c23 : PySem.W.codeIn K cd23 "Desk.__init__" = true)
    (k23 : PySem.W.keepIn K (.ref f23) = true)
    (a24 : PySem.W.findIn K (.ref KC0) "note" = some (some (.ref f24)))
    (i24 : PySem.W.isFn K (.ref f24) = true)
    (l24 : K.lookup f24 = some ⟨oc24, od24, .func (PySem.W.fnOf "note" "Desk.note" (defArgs s_Desk_note) (defBody s_Desk_note) (defScope s_Desk_note) .none kV24 dc24 pm24 an24 cd24 ct24), sl24⟩)
    (c24 : PySem.W.codeIn K cd24 "Desk.note" = true)
    (k24 : PySem.W.keepIn K (.ref f24) = true)
    (a25 : PySem.W.findIn K (.ref KC0) "take" = some (some (.ref f25)))
    (i25 : PySem.W.isFn K (.ref f25) = true)
    (l25 : K.lookup f25 = some ⟨oc25, od25, .func (PySem.W.fnOf "take" "Desk.take" (defArgs s_Desk_take) (defBody s_Desk_take) (defScope s_Desk_take) .none kV25 dc25 pm25 an25 cd25 ct25), sl25⟩)
    (c25 : PySem.W.codeIn K cd25 "Desk.take" = true)
    (k25 : PySem.W.keepIn K (.ref f25) = true)
    (a26 : PySem.W.nsIn K mainGlobals "_law_dice" = some (some (.ref f26)))
    (l26 : K.lookup f26 = some ⟨oc26, od26, .func (PySem.W.fnOf "_law_dice" "_law_dice" (defArgs s_law_dice) (defBody s_law_dice) (defScope s_law_dice) .none kV26 dc26 pm26 an26 cd26 ct26), sl26⟩)
    (c26 : PySem.W.codeIn K cd26 "_law_dice" = true)
    (k26 : PySem.W.keepIn K (.ref f26) = true)
    (a27 : PySem.W.nsIn K mainGlobals "_law_roll" = some (some (.ref f27)))
    (l27 : K.lookup f27 = some ⟨oc27, od27, .func (PySem.W.fnOf "_law_roll" "_law_roll" (defArgs s_law_roll) (defBody s_law_roll) (defScope s_law_roll) .none kV27 dc27 pm27 an27 cd27 ct27), sl27⟩)
    (c27 : PySem.W.codeIn K cd27 "_law_roll" = true)
    (k27 : PySem.W.keepIn K (.ref f27) = true)
    (a28 : PySem.W.nsIn K mainGlobals "_law_rounds" = some (some (.ref f28)))
    (l28 : K.lookup f28 = some ⟨oc28, od28, .func (PySem.W.fnOf "_law_rounds" "_law_rounds" (defArgs s_law_rounds) (defBody s_law_rounds) (defScope s_law_rounds) .none kV28 dc28 pm28 an28 cd28 ct28), sl28⟩)
    (c28 : PySem.W.codeIn K cd28 "_law_rounds" = true)
    (k28 : PySem.W.keepIn K (.ref f28) = true)
    (a29 : PySem.W.nsIn K mainGlobals "_law_told" = some (some (.ref f29)))
    (l29 : K.lookup f29 = some ⟨oc29, od29, .func (PySem.W.fnOf "_law_told" "_law_told" (defArgs s_law_told) (defBody s_law_told) (defScope s_law_told) .none kV29 dc29 pm29 an29 cd29 ct29), sl29⟩)
    (c29 : PySem.W.codeIn K cd29 "_law_told" = true)
    (k29 : PySem.W.keepIn K (.ref f29) = true)
    (pg0 : PySem.W.plainGet K KC0 Str.empty = true)
    (hd0 : PySem.W.hasDictIn K KC0 = true)
    (po0 : PySem.W.plainOver K KC0 = true)
    (sa0 : PySem.W.findIn K (.ref KC0) "__setattr__" = some (some (.builtin "object.__setattr__")))
    (mk0 : PySem.W.makesIn K KC0 = true)
    (kp0 : PySem.W.keepIn K (.ref KC0) = true)
    (nf0_book : PySem.W.findIn K (.ref KC0) "book" = some none)
    (nf0_deeds : PySem.W.findIn K (.ref KC0) "deeds" = some none)
    (nf0_lets : PySem.W.findIn K (.ref KC0) "lets" = some none)
    (nf0_undone : PySem.W.findIn K (.ref KC0) "undone" = some none)
    (z_isinstance : PySem.W.nsIn K mainGlobals "isinstance" = some none)
    (z_int : PySem.W.nsIn K mainGlobals "int" = some none)
    (z_bool : PySem.W.nsIn K mainGlobals "bool" = some none)
    (z_len : PySem.W.nsIn K mainGlobals "len" = some none)
    (z_min : PySem.W.nsIn K mainGlobals "min" = some none)
    (z_range : PySem.W.nsIn K mainGlobals "range" = some none)
    (z_str : PySem.W.nsIn K mainGlobals "str" = some none)
    (z_all : PySem.W.nsIn K mainGlobals "all" = some none)
    (z_any : PySem.W.nsIn K mainGlobals "any" = some none)
    (z_tuple : PySem.W.nsIn K mainGlobals "tuple" = some none)
    (z_list : PySem.W.nsIn K mainGlobals "list" = some none)
    (z_enumerate : PySem.W.nsIn K mainGlobals "enumerate" = some none)
    (z_sorted : PySem.W.nsIn K mainGlobals "sorted" = some none)
    (z_abs : PySem.W.nsIn K mainGlobals "abs" = some none)
    (g_DIGITS : PySem.W.nsIn K mainGlobals "DIGITS" = some (some (.ref v_DIGITS)))
    (l_DIGITS : K.lookup v_DIGITS = some ⟨.type "tuple", none, .seq i_DIGITS n_DIGITS, s_DIGITS⟩)
    (j_DIGITS : i_DIGITS.toList = [.str "nul" t_DIGITS_0, .str "un" t_DIGITS_1, .str "du" t_DIGITS_2, .str "tri" t_DIGITS_3, .str "kar" t_DIGITS_4, .str "pen" t_DIGITS_5, .str "sek" t_DIGITS_6, .str "set" t_DIGITS_7, .str "ok" t_DIGITS_8, .str "nov" t_DIGITS_9])
    (g_TENS : PySem.W.nsIn K mainGlobals "TENS" = some (some (.ref v_TENS)))
    (l_TENS : K.lookup v_TENS = some ⟨.type "tuple", none, .seq i_TENS n_TENS, s_TENS⟩)
    (j_TENS : i_TENS.toList = [.ref v_TENS_0, .ref v_TENS_1, .ref v_TENS_2])
    (l_TENS_2 : K.lookup v_TENS_2 = some ⟨.type "tuple", none, .seq i_TENS_2 n_TENS_2, s_TENS_2⟩)
    (j_TENS_2 : i_TENS_2.toList = [.str "dek" t_TENS_2_0, .int 10 t_TENS_2_1])
    (l_TENS_1 : K.lookup v_TENS_1 = some ⟨.type "tuple", none, .seq i_TENS_1 n_TENS_1, s_TENS_1⟩)
    (j_TENS_1 : i_TENS_1.toList = [.str "sant" t_TENS_1_0, .int 100 t_TENS_1_1])
    (l_TENS_0 : K.lookup v_TENS_0 = some ⟨.type "tuple", none, .seq i_TENS_0 n_TENS_0, s_TENS_0⟩)
    (j_TENS_0 : i_TENS_0.toList = [.str "mil" t_TENS_0_0, .int 1000 t_TENS_0_1])
    (g_MOST : PySem.W.nsIn K mainGlobals "MOST" = some (some (.int 999999 t_MOST)))
    (g_VOWELS : PySem.W.nsIn K mainGlobals "VOWELS" = some (some (.str "aeiou" t_VOWELS)))
    (g_OTHERS : PySem.W.nsIn K mainGlobals "OTHERS" = some (some (.str "bdfgklmnprstvz" t_OTHERS)))
    (g_CASES : PySem.W.nsIn K mainGlobals "CASES" = some (some (.ref v_CASES)))
    (l_CASES : K.lookup v_CASES = some ⟨.type "tuple", none, .seq i_CASES n_CASES, s_CASES⟩)
    (j_CASES : i_CASES.toList = [.str "doer" t_CASES_0, .str "done" t_CASES_1, .str "owner" t_CASES_2, .str "place" t_CASES_3])
    (g_TIMES : PySem.W.nsIn K mainGlobals "TIMES" = some (some (.ref v_TIMES)))
    (l_TIMES : K.lookup v_TIMES = some ⟨.type "tuple", none, .seq i_TIMES n_TIMES, s_TIMES⟩)
    (j_TIMES : i_TIMES.toList = [.str "now" t_TIMES_0, .str "past" t_TIMES_1, .str "to come" t_TIMES_2])
    (g_PERSONS : PySem.W.nsIn K mainGlobals "PERSONS" = some (some (.ref v_PERSONS)))
    (l_PERSONS : K.lookup v_PERSONS = some ⟨.type "tuple", none, .seq i_PERSONS n_PERSONS, s_PERSONS⟩)
    (j_PERSONS : i_PERSONS.toList = [.str "u" t_PERSONS_0, .str "is" t_PERSONS_1, .str "e" t_PERSONS_2, .str "umo" t_PERSONS_3, .str "ite" t_PERSONS_4, .str "en" t_PERSONS_5])
    (g_WHO : PySem.W.nsIn K mainGlobals "WHO" = some (some (.ref v_WHO)))
    (l_WHO : K.lookup v_WHO = some ⟨.type "tuple", none, .seq i_WHO n_WHO, s_WHO⟩)
    (j_WHO : i_WHO.toList = [.str "mi" t_WHO_0, .str "ti" t_WHO_1, .str "lo" t_WHO_2, .str "la" t_WHO_3])
    (g_SMALL : PySem.W.nsIn K mainGlobals "SMALL" = some (some (.ref v_SMALL)))
    (l_SMALL : K.lookup v_SMALL = some ⟨.type "tuple", none, .seq i_SMALL n_SMALL, s_SMALL⟩)
    (j_SMALL : i_SMALL.toList = [.str "ne" t_SMALL_0, .str "ku" t_SMALL_1, .str "kel" t_SMALL_2])
    (g_ENDINGS : PySem.W.nsIn K mainGlobals "ENDINGS" = some (some (.ref v_ENDINGS)))
    (l_ENDINGS : K.lookup v_ENDINGS = some ⟨.type "dict", none, .dict i_ENDINGS n_ENDINGS, #[]⟩)
    (j_ENDINGS : i_ENDINGS.toList = [⟨hashInt 0, .int 0 k_ENDINGS_0, .ref v_ENDINGS_0⟩, ⟨hashInt 1, .int 1 k_ENDINGS_1, .ref v_ENDINGS_1⟩])
    (l_ENDINGS_1 : K.lookup v_ENDINGS_1 = some ⟨.type "tuple", none, .seq i_ENDINGS_1 n_ENDINGS_1, s_ENDINGS_1⟩)
    (j_ENDINGS_1 : i_ENDINGS_1.toList = [.str "a" t_ENDINGS_1_0, .str "am" t_ENDINGS_1_1, .str "is" t_ENDINGS_1_2, .str "ul" t_ENDINGS_1_3])
    (l_ENDINGS_0 : K.lookup v_ENDINGS_0 = some ⟨.type "tuple", none, .seq i_ENDINGS_0 n_ENDINGS_0, s_ENDINGS_0⟩)
    (j_ENDINGS_0 : i_ENDINGS_0.toList = [.str "o" t_ENDINGS_0_0, .str "om" t_ENDINGS_0_1, .str "es" t_ENDINGS_0_2, .str "ul" t_ENDINGS_0_3])
    (o_ENDINGS : (v_ENDINGS == sysModules) = false)
    (g_AHEAD : PySem.W.nsIn K mainGlobals "AHEAD" = some (some (.ref v_AHEAD)))
    (l_AHEAD : K.lookup v_AHEAD = some ⟨.type "dict", none, .dict i_AHEAD n_AHEAD, #[]⟩)
    (j_AHEAD : i_AHEAD.toList = [⟨PyData.keyHash w.params "now", .str "now" k_AHEAD_0, .str "" t_AHEAD_0⟩, ⟨PyData.keyHash w.params "past", .str "past" k_AHEAD_1, .str "ar" t_AHEAD_1⟩, ⟨PyData.keyHash w.params "to come", .str "to come" k_AHEAD_2, .str "ev" t_AHEAD_2⟩])
    (o_AHEAD : (v_AHEAD == sysModules) = false)
    (A0 : PySem.W.nsIn K mainGlobals "BadWord" = some (some (.ref C0)))
    (K0 : PySem.W.keepIn K (.ref C0) = true)
    (Q0 : PySem.W.excIn K C0 [.type "ValueError", .type "Exception", .type "BaseException", .type "object"] "ValueError.__new__" = true)
    (B0 : PySem.W.subIn K (.ref C0) (.type "BaseException") = some true)
    (Y0 : PySem.W.typeIn K (.ref C0) = some (.type "type"))
    (I0 : PySem.W.isClsIn K C0 = true)
    (A1 : PySem.W.nsIn K mainGlobals "BadBook" = some (some (.ref C1)))
    (K1 : PySem.W.keepIn K (.ref C1) = true)
    (Q1 : PySem.W.excIn K C1 [.type "ValueError", .type "Exception", .type "BaseException", .type "object"] "ValueError.__new__" = true)
    (B1 : PySem.W.subIn K (.ref C1) (.type "BaseException") = some true)
    (Y1 : PySem.W.typeIn K (.ref C1) = some (.type "type"))
    (I1 : PySem.W.isClsIn K C1 = true)
    (A2 : PySem.W.nsIn K mainGlobals "BadSentence" = some (some (.ref C2)))
    (K2 : PySem.W.keepIn K (.ref C2) = true)
    (B2 : PySem.W.subIn K (.ref C2) (.type "BaseException") = some true)
    (Y2 : PySem.W.typeIn K (.ref C2) = some (.type "type"))
    (I2 : PySem.W.isClsIn K C2 = true)
    (E2x : K.lookup C2 = some (excClassObj e2nm e2q C2 e2N e2bs e2bm true e2sn e2sb e2ab e2co e2dd e2m0 e2m1 e2m2 e2m3 e2m5 "ValueError.__new__"))
    (E2h : PySem.HandSPX.refsVE e2bm = true)
    (E2s : PySem.W.findIn K (.ref C2) "__setattr__" = some (some (.builtin "object.__setattr__")))
    (E2i : PySem.W.findIn K (.ref C2) "__init__" = some (some (.ref e2f)))
    (E2t : PySem.W.typeIn K (.ref e2f) = some (.type "function"))
    (E2l : K.lookup e2f = some ⟨e2oc, e2od, .func (PySem.W.ksFn "__init__" "BadSentence.__init__" (defArgs s_BadSentence___init__) (defBody s_BadSentence___init__) (defScope s_BadSentence___init__) .none e2kV e2dc e2pm e2an (.ref e2cd) e2ct e2cc), e2osl⟩)
    (E2c : PySem.W.codeIn K (.ref e2cd) "BadSentence.__init__" = true)
    (E2d : K.lookup e2cd = some ⟨e2ccl, e2cdd, .fields e2vs, e2ccs⟩)
    (E2f : e2vs[2]? = some (.str e2fi e2tf))
    (E2g : ((l.prog.main.file : Str) == e2fi) = true)
    (E2k : K.lookup e2cc = some ⟨e2cl, e2cld, .cell (some (.ref C2)), e2csl⟩)
    (E2a : PySem.W.alongIn K "__init__" e2bm = some (some (.builtin "ValueError.__init__")))
    (E2m : PySem.W.mroIn K C2 (.ref C2) = some true)
    (z_super : PySem.W.nsIn K mainGlobals "super" = some none)
    (E2o : (l.prog.main.scope.names.lookup ("super" : Str)).isSome = false)
    (E2q : PySem.W.nsIn K cStatics "thirdparty.any" = some none)
    (E2v : PySem.W.subIn K (.ref C2) (.type "ValueError") = some true)
    (E2n : PySem.W.findIn K (.ref C2) "place" = some none)
    (A3 : PySem.W.nsIn K mainGlobals "NoWay" = some (some (.ref C3)))
    (K3 : PySem.W.keepIn K (.ref C3) = true)
    (Q3 : PySem.W.excIn K C3 [.type "ValueError", .type "Exception", .type "BaseException", .type "object"] "ValueError.__new__" = true)
    (B3 : PySem.W.subIn K (.ref C3) (.type "BaseException") = some true)
    (Y3 : PySem.W.typeIn K (.ref C3) = some (.type "type"))
    (I3 : PySem.W.isClsIn K C3 = true)
    (A4 : PySem.W.nsIn K mainGlobals "TooLarge" = some (some (.ref C4)))
    (K4 : PySem.W.keepIn K (.ref C4) = true)
    (Q4 : PySem.W.excIn K C4 [.type "ValueError", .type "Exception", .type "BaseException", .type "object"] "ValueError.__new__" = true)
    (B4 : PySem.W.subIn K (.ref C4) (.type "BaseException") = some true)
    (Y4 : PySem.W.typeIn K (.ref C4) = some (.type "type"))
    (I4 : PySem.W.isClsIn K C4 = true)
    (A5 : PySem.W.nsIn K mainGlobals "BadDeed" = some (some (.ref C5)))
    (K5 : PySem.W.keepIn K (.ref C5) = true)
    (Q5 : PySem.W.excIn K C5 [.type "ValueError", .type "Exception", .type "BaseException", .type "object"] "ValueError.__new__" = true)
    (B5 : PySem.W.subIn K (.ref C5) (.type "BaseException") = some true)
    (Y5 : PySem.W.typeIn K (.ref C5) = some (.type "type"))
    (I5 : PySem.W.isClsIn K C5 = true)
    (Act : PySem.W.nsIn K mainGlobals "TongueFault" = some (some (.ref CTt)))
    (X0g : PySem.W.findIn K (.ref C0) "__getattribute__" = some (some (.builtin "BaseException.__getattribute__")))
    (X0k : PySem.W.findIn K (.ref C0) "__getattr__" = some none)
    (X0d : PySem.W.hasDictIn K C0 = true)
    (X0a : PySem.W.findIn K (.ref C0) "__class__" = some (some (.builtin "object.__class__")))
    (X0m : PySem.W.mroIn K C0 (.type "object") = some true)
    (X0v : PySem.W.kitOne K (.ref C0) (.type "ValueError") = some true)
    (X0t : PySem.W.exmOne K (.ref C0) (.ref CTt) = some true)
    (X0_0 : PySem.W.kitOne K (.ref C0) (.ref C0) = some true)
    (X0_1 : PySem.W.kitOne K (.ref C0) (.ref C1) = some false)
    (X0_2 : PySem.W.kitOne K (.ref C0) (.ref C2) = some false)
    (X0_3 : PySem.W.kitOne K (.ref C0) (.ref C3) = some false)
    (X0_4 : PySem.W.kitOne K (.ref C0) (.ref C4) = some false)
    (X0_5 : PySem.W.kitOne K (.ref C0) (.ref C5) = some false)
    (X1g : PySem.W.findIn K (.ref C1) "__getattribute__" = some (some (.builtin "BaseException.__getattribute__")))
    (X1k : PySem.W.findIn K (.ref C1) "__getattr__" = some none)
    (X1d : PySem.W.hasDictIn K C1 = true)
    (X1a : PySem.W.findIn K (.ref C1) "__class__" = some (some (.builtin "object.__class__")))
    (X1m : PySem.W.mroIn K C1 (.type "object") = some true)
    (X1v : PySem.W.kitOne K (.ref C1) (.type "ValueError") = some true)
    (X1t : PySem.W.exmOne K (.ref C1) (.ref CTt) = some true)
    (X1_0 : PySem.W.kitOne K (.ref C1) (.ref C0) = some false)
    (X1_1 : PySem.W.kitOne K (.ref C1) (.ref C1) = some true)
    (X1_2 : PySem.W.kitOne K (.ref C1) (.ref C2) = some false)
    (X1_3 : PySem.W.kitOne K (.ref C1) (.ref C3) = some false)
    (X1_4 : PySem.W.kitOne K (.ref C1) (.ref C4) = some false)
    (X1_5 : PySem.W.kitOne K (.ref C1) (.ref C5) = some false)
    (X2g : PySem.W.findIn K (.ref C2) "__getattribute__" = some (some (.builtin "BaseException.__getattribute__")))
    (X2k : PySem.W.findIn K (.ref C2) "__getattr__" = some none)
    (X2d : PySem.W.hasDictIn K C2 = true)
    (X2a : PySem.W.findIn K (.ref C2) "__class__" = some (some (.builtin "object.__class__")))
    (X2m : PySem.W.mroIn K C2 (.type "object") = some true)
    (X2v : PySem.W.kitOne K (.ref C2) (.type "ValueError") = some true)
    (X2t : PySem.W.exmOne K (.ref C2) (.ref CTt) = some true)
    (X2_0 : PySem.W.kitOne K (.ref C2) (.ref C0) = some false)
    (X2_1 : PySem.W.kitOne K (.ref C2) (.ref C1) = some false)
    (X2_2 : PySem.W.kitOne K (.ref C2) (.ref C2) = some true)
    (X2_3 : PySem.W.kitOne K (.ref C2) (.ref C3) = some false)
    (X2_4 : PySem.W.kitOne K (.ref C2) (.ref C4) = some false)
    (X2_5 : PySem.W.kitOne K (.ref C2) (.ref C5) = some false)
    (X3g : PySem.W.findIn K (.ref C3) "__getattribute__" = some (some (.builtin "BaseException.__getattribute__")))
    (X3k : PySem.W.findIn K (.ref C3) "__getattr__" = some none)
    (X3d : PySem.W.hasDictIn K C3 = true)
    (X3a : PySem.W.findIn K (.ref C3) "__class__" = some (some (.builtin "object.__class__")))
    (X3m : PySem.W.mroIn K C3 (.type "object") = some true)
    (X3v : PySem.W.kitOne K (.ref C3) (.type "ValueError") = some true)
    (X3t : PySem.W.exmOne K (.ref C3) (.ref CTt) = some true)
    (X3_0 : PySem.W.kitOne K (.ref C3) (.ref C0) = some false)
    (X3_1 : PySem.W.kitOne K (.ref C3) (.ref C1) = some false)
    (X3_2 : PySem.W.kitOne K (.ref C3) (.ref C2) = some false)
    (X3_3 : PySem.W.kitOne K (.ref C3) (.ref C3) = some true)
    (X3_4 : PySem.W.kitOne K (.ref C3) (.ref C4) = some false)
    (X3_5 : PySem.W.kitOne K (.ref C3) (.ref C5) = some false)
    (X4g : PySem.W.findIn K (.ref C4) "__getattribute__" = some (some (.builtin "BaseException.__getattribute__")))
    (X4k : PySem.W.findIn K (.ref C4) "__getattr__" = some none)
    (X4d : PySem.W.hasDictIn K C4 = true)
    (X4a : PySem.W.findIn K (.ref C4) "__class__" = some (some (.builtin "object.__class__")))
    (X4m : PySem.W.mroIn K C4 (.type "object") = some true)
    (X4v : PySem.W.kitOne K (.ref C4) (.type "ValueError") = some true)
    (X4t : PySem.W.exmOne K (.ref C4) (.ref CTt) = some true)
    (X4_0 : PySem.W.kitOne K (.ref C4) (.ref C0) = some false)
    (X4_1 : PySem.W.kitOne K (.ref C4) (.ref C1) = some false)
    (X4_2 : PySem.W.kitOne K (.ref C4) (.ref C2) = some false)
    (X4_3 : PySem.W.kitOne K (.ref C4) (.ref C3) = some false)
    (X4_4 : PySem.W.kitOne K (.ref C4) (.ref C4) = some true)
    (X4_5 : PySem.W.kitOne K (.ref C4) (.ref C5) = some false)
    (X5g : PySem.W.findIn K (.ref C5) "__getattribute__" = some (some (.builtin "BaseException.__getattribute__")))
    (X5k : PySem.W.findIn K (.ref C5) "__getattr__" = some none)
    (X5d : PySem.W.hasDictIn K C5 = true)
    (X5a : PySem.W.findIn K (.ref C5) "__class__" = some (some (.builtin "object.__class__")))
    (X5m : PySem.W.mroIn K C5 (.type "object") = some true)
    (X5v : PySem.W.kitOne K (.ref C5) (.type "ValueError") = some true)
    (X5t : PySem.W.exmOne K (.ref C5) (.ref CTt) = some true)
    (X5_0 : PySem.W.kitOne K (.ref C5) (.ref C0) = some false)
    (X5_1 : PySem.W.kitOne K (.ref C5) (.ref C1) = some false)
    (X5_2 : PySem.W.kitOne K (.ref C5) (.ref C2) = some false)
    (X5_3 : PySem.W.kitOne K (.ref C5) (.ref C3) = some false)
    (X5_4 : PySem.W.kitOne K (.ref C5) (.ref C4) = some false)
    (X5_5 : PySem.W.kitOne K (.ref C5) (.ref C5) = some true)
    (Xzn : PySem.W.specialIn K (.builtin "object.__class__") "__get__" = some (some (.builtin "getset_descriptor.__get__")))
    (Xzt : PySem.W.takesIn K (.builtin "object.__class__") = some true)
    (z_ValueError : PySem.W.nsIn K mainGlobals "ValueError" = some none)
    (S0_0 : PySem.W.subIn K (.ref C0) (.ref C0) = some true)
    (S0_1 : PySem.W.subIn K (.ref C0) (.ref C1) = some false)
    (S0_2 : PySem.W.subIn K (.ref C0) (.ref C2) = some false)
    (S0_3 : PySem.W.subIn K (.ref C0) (.ref C3) = some false)
    (S0_4 : PySem.W.subIn K (.ref C0) (.ref C4) = some false)
    (S0_5 : PySem.W.subIn K (.ref C0) (.ref C5) = some false)
    (S1_0 : PySem.W.subIn K (.ref C1) (.ref C0) = some false)
    (S1_1 : PySem.W.subIn K (.ref C1) (.ref C1) = some true)
    (S1_2 : PySem.W.subIn K (.ref C1) (.ref C2) = some false)
    (S1_3 : PySem.W.subIn K (.ref C1) (.ref C3) = some false)
    (S1_4 : PySem.W.subIn K (.ref C1) (.ref C4) = some false)
    (S1_5 : PySem.W.subIn K (.ref C1) (.ref C5) = some false)
    (S2_0 : PySem.W.subIn K (.ref C2) (.ref C0) = some false)
    (S2_1 : PySem.W.subIn K (.ref C2) (.ref C1) = some false)
    (S2_2 : PySem.W.subIn K (.ref C2) (.ref C2) = some true)
    (S2_3 : PySem.W.subIn K (.ref C2) (.ref C3) = some false)
    (S2_4 : PySem.W.subIn K (.ref C2) (.ref C4) = some false)
    (S2_5 : PySem.W.subIn K (.ref C2) (.ref C5) = some false)
    (S3_0 : PySem.W.subIn K (.ref C3) (.ref C0) = some false)
    (S3_1 : PySem.W.subIn K (.ref C3) (.ref C1) = some false)
    (S3_2 : PySem.W.subIn K (.ref C3) (.ref C2) = some false)
    (S3_3 : PySem.W.subIn K (.ref C3) (.ref C3) = some true)
    (S3_4 : PySem.W.subIn K (.ref C3) (.ref C4) = some false)
    (S3_5 : PySem.W.subIn K (.ref C3) (.ref C5) = some false)
    (S4_0 : PySem.W.subIn K (.ref C4) (.ref C0) = some false)
    (S4_1 : PySem.W.subIn K (.ref C4) (.ref C1) = some false)
    (S4_2 : PySem.W.subIn K (.ref C4) (.ref C2) = some false)
    (S4_3 : PySem.W.subIn K (.ref C4) (.ref C3) = some false)
    (S4_4 : PySem.W.subIn K (.ref C4) (.ref C4) = some true)
    (S4_5 : PySem.W.subIn K (.ref C4) (.ref C5) = some false)
    (S5_0 : PySem.W.subIn K (.ref C5) (.ref C0) = some false)
    (S5_1 : PySem.W.subIn K (.ref C5) (.ref C1) = some false)
    (S5_2 : PySem.W.subIn K (.ref C5) (.ref C2) = some false)
    (S5_3 : PySem.W.subIn K (.ref C5) (.ref C3) = some false)
    (S5_4 : PySem.W.subIn K (.ref C5) (.ref C4) = some false)
    (S5_5 : PySem.W.subIn K (.ref C5) (.ref C5) = some true)
    (al : PySem.W.nsIn K mainGlobals "law" = some (some (.ref fl)))
    (ll : K.lookup fl = some ⟨ocl, odl, .func (PySem.W.fnOf "law" "law" (defArgs s_law) (defBody s_law) (defScope s_law) .none kVl dcl pml anl (.ref cl) ctl), sll⟩)
    (lcd : PySem.W.codeIn K (.ref cl) "law" = true)
    (lc : K.lookup cl = some ocb)
    (dcb : ocb.data = .fields vsl)
    (vlaw : vsl[11]? = some (.ref Pt))
    (chd : PySem.W.codeHdIn K cl Pt = true)
    (nP : K.lookup Pt = none)
    (Nl_1 : Pt ≠ Pt1)
    (Nl_2 : Pt ≠ Pt2)
    (Nl_3 : Pt ≠ Pt3)
    (Nl_5 : Pt ≠ Pt5)
    (Nl_19 : Pt ≠ Pt19)
    (N1_l : Pt1 ≠ Pt)
    (N1_2 : Pt1 ≠ Pt2)
    (N1_3 : Pt1 ≠ Pt3)
    (N1_5 : Pt1 ≠ Pt5)
    (N1_19 : Pt1 ≠ Pt19)
    (N2_l : Pt2 ≠ Pt)
    (N2_1 : Pt2 ≠ Pt1)
    (N2_3 : Pt2 ≠ Pt3)
    (N2_5 : Pt2 ≠ Pt5)
    (N2_19 : Pt2 ≠ Pt19)
    (N3_l : Pt3 ≠ Pt)
    (N3_1 : Pt3 ≠ Pt1)
    (N3_2 : Pt3 ≠ Pt2)
    (N3_5 : Pt3 ≠ Pt5)
    (N3_19 : Pt3 ≠ Pt19)
    (N5_l : Pt5 ≠ Pt)
    (N5_1 : Pt5 ≠ Pt1)
    (N5_2 : Pt5 ≠ Pt2)
    (N5_3 : Pt5 ≠ Pt3)
    (N5_19 : Pt5 ≠ Pt19)
    (N19_l : Pt19 ≠ Pt)
    (N19_1 : Pt19 ≠ Pt1)
    (N19_2 : Pt19 ≠ Pt2)
    (N19_3 : Pt19 ≠ Pt3)
    (N19_5 : Pt19 ≠ Pt5)
    (law_fn : ∀ (g : Gc) (cs : List (Addr × Addr)), AllF l.prog K w mg g cs → (Pt, PySem.Str.ofString "law.<locals>.<lambda>") ∈ g.T → (∀ p ∈ g.T, p.1 = Pt → p.2 = PySem.Str.ofString "law.<locals>.<lambda>") → (cl, Pt) ∈ cs → K.lookup fl = some ⟨ocl, odl, .func (PySem.W.fnOf "law" "law" (defArgs s_law) (defBody s_law) (defScope s_law) .none kVl dcl pml anl (.ref cl) ctl), sll⟩ → PySem.W.codeIn K (.ref cl) "law" = true → ∀ base : Heap, K.In base → base.Ns mainGlobals mg → (∀ p ∈ cs, LamX.TabB base mg p.1 p.2) → FnOk l.prog w K mg base (L2.CX l.prog w) 60 fl (PySem.W.fnOf "law" "law" (defArgs s_law) (defBody s_law) (defScope s_law) .none kVl dcl pml anl (.ref cl) ctl) ["script"] (spF K g F_law)) :
    LamX.LawAtS l w K (L2.CX l.prog w) 60 63 "script" mg fa h := by
  have e := hfa.symm.trans (PySem.W.mg_of X G al)
  cases e
  let g0 : Gc := { T := [(Pt, PySem.Str.ofString "law.<locals>.<lambda>"), (Pt1, PySem.Str.ofString "shortest.<locals>.<lambda>"), (Pt2, PySem.Str.ofString "is_word.<locals>.<genexpr>"), (Pt3, PySem.Str.ofString "is_book.<locals>.<genexpr>"), (Pt5, PySem.Str.ofString "rises.<locals>.<genexpr>"), (Pt19, PySem.Str.ofString "read_by.<locals>.<lambda>")], cs := [C0, C1, C2, C3, C4, C5], ks := [KC0], hw := fun k => NestedKey.hash w k }
  let cs0 : List (Addr × Addr) := [(cl, Pt), (cc1, Pt1), (cc2, Pt2), (cc3, Pt3), (cc5, Pt5), (cc19, Pt19)]
  have e_BadWord : Er K mg g0 0 "BadWord" := er_mk (C := C0) rfl (PySem.W.mg_of X G A0) K0 Q0 B0 Y0
  have e_BadBook : Er K mg g0 1 "BadBook" := er_mk (C := C1) rfl (PySem.W.mg_of X G A1) K1 Q1 B1 Y1
  have e_NoWay : Er K mg g0 3 "NoWay" := er_mk (C := C3) rfl (PySem.W.mg_of X G A3) K3 Q3 B3 Y3
  have e_TooLarge : Er K mg g0 4 "TooLarge" := er_mk (C := C4) rfl (PySem.W.mg_of X G A4) K4 Q4 B4 Y4
  have e_BadDeed : Er K mg g0 5 "BadDeed" := er_mk (C := C5) rfl (PySem.W.mg_of X G A5) K5 Q5 B5 Y5
  have hsub : Subs K g0 sub := subs_mk (fun C hC => by
    simp only [g0, List.mem_cons, List.not_mem_nil, or_false] at hC
    rcases hC with rfl | rfl | rfl | rfl | rfl | rfl
    · exact ⟨B0, I0, Y0⟩
    · exact ⟨B1, I1, Y1⟩
    · exact ⟨B2, I2, Y2⟩
    · exact ⟨B3, I3, Y3⟩
    · exact ⟨B4, I4, Y4⟩
    · exact ⟨B5, I5, Y5⟩) (fun i j C D h1 h2 => by
    rcases i with _ | _ | _ | _ | _ | _ | i
    · rcases j with _ | _ | _ | _ | _ | _ | j
      · cases h1; cases h2; exact S0_0
      · cases h1; cases h2; exact S0_1
      · cases h1; cases h2; exact S0_2
      · cases h1; cases h2; exact S0_3
      · cases h1; cases h2; exact S0_4
      · cases h1; cases h2; exact S0_5
      · cases h2
    · rcases j with _ | _ | _ | _ | _ | _ | j
      · cases h1; cases h2; exact S1_0
      · cases h1; cases h2; exact S1_1
      · cases h1; cases h2; exact S1_2
      · cases h1; cases h2; exact S1_3
      · cases h1; cases h2; exact S1_4
      · cases h1; cases h2; exact S1_5
      · cases h2
    · rcases j with _ | _ | _ | _ | _ | _ | j
      · cases h1; cases h2; exact S2_0
      · cases h1; cases h2; exact S2_1
      · cases h1; cases h2; exact S2_2
      · cases h1; cases h2; exact S2_3
      · cases h1; cases h2; exact S2_4
      · cases h1; cases h2; exact S2_5
      · cases h2
    · rcases j with _ | _ | _ | _ | _ | _ | j
      · cases h1; cases h2; exact S3_0
      · cases h1; cases h2; exact S3_1
      · cases h1; cases h2; exact S3_2
      · cases h1; cases h2; exact S3_3
      · cases h1; cases h2; exact S3_4
      · cases h1; cases h2; exact S3_5
      · cases h2
    · rcases j with _ | _ | _ | _ | _ | _ | j
      · cases h1; cases h2; exact S4_0
      · cases h1; cases h2; exact S4_1
      · cases h1; cases h2; exact S4_2
      · cases h1; cases h2; exact S4_3
      · cases h1; cases h2; exact S4_4
      · cases h1; cases h2; exact S4_5
      · cases h2
    · rcases j with _ | _ | _ | _ | _ | _ | j
      · cases h1; cases h2; exact S5_0
      · cases h1; cases h2; exact S5_1
      · cases h1; cases h2; exact S5_2
      · cases h1; cases h2; exact S5_3
      · cases h1; cases h2; exact S5_4
      · cases h1; cases h2; exact S5_5
      · cases h2
    · cases h1)
  have EA : ExcAll K g0 := fun c C h => by
    rcases c with _ | _ | _ | _ | _ | _ | c
    · cases h; exact ⟨X0g, X0k, B0, X0d, X0a, Xzn, Xzt, X0m⟩
    · cases h; exact ⟨X1g, X1k, B1, X1d, X1a, Xzn, Xzt, X1m⟩
    · cases h; exact ⟨X2g, X2k, B2, X2d, X2a, Xzn, Xzt, X2m⟩
    · cases h; exact ⟨X3g, X3k, B3, X3d, X3a, Xzn, Xzt, X3m⟩
    · cases h; exact ⟨X4g, X4k, B4, X4d, X4a, Xzn, Xzt, X4m⟩
    · cases h; exact ⟨X5g, X5k, B5, X5d, X5a, Xzn, Xzt, X5m⟩
    · cases h
  have hmT := PySem.W.mg_of X G Act
  have hsT : ∀ (c : Nat) (C : Addr), g0.cs[c]? = some C → PySem.W.exmOne K (.ref C) (.ref CTt) = some true := fun c C h => by
    rcases c with _ | _ | _ | _ | _ | _ | c
    · cases h; exact X0t
    · cases h; exact X1t
    · cases h; exact X2t
    · cases h; exact X3t
    · cases h; exact X4t
    · cases h; exact X5t
    · cases h
  have n_isinstance := PySem.W.mg_none_of X G z_isinstance
  have J_BadWord : ∀ (c : Nat) (C : Addr), g0.cs[c]? = some C → PySem.W.kitOne K (.ref C) (.ref C0) = some (sub c 0) := fun c C h => by
    rcases c with _ | _ | _ | _ | _ | _ | c
    · cases h; exact X0_0
    · cases h; exact X1_0
    · cases h; exact X2_0
    · cases h; exact X3_0
    · cases h; exact X4_0
    · cases h; exact X5_0
    · cases h
  have I_BadWord : IsX K mg g0 sub 0 "BadWord" := isx_mk (PySem.W.mg_of X G A0) J_BadWord
  have J_BadBook : ∀ (c : Nat) (C : Addr), g0.cs[c]? = some C → PySem.W.kitOne K (.ref C) (.ref C1) = some (sub c 1) := fun c C h => by
    rcases c with _ | _ | _ | _ | _ | _ | c
    · cases h; exact X0_1
    · cases h; exact X1_1
    · cases h; exact X2_1
    · cases h; exact X3_1
    · cases h; exact X4_1
    · cases h; exact X5_1
    · cases h
  have I_BadBook : IsX K mg g0 sub 1 "BadBook" := isx_mk (PySem.W.mg_of X G A1) J_BadBook
  have J_BadSentence : ∀ (c : Nat) (C : Addr), g0.cs[c]? = some C → PySem.W.kitOne K (.ref C) (.ref C2) = some (sub c 2) := fun c C h => by
    rcases c with _ | _ | _ | _ | _ | _ | c
    · cases h; exact X0_2
    · cases h; exact X1_2
    · cases h; exact X2_2
    · cases h; exact X3_2
    · cases h; exact X4_2
    · cases h; exact X5_2
    · cases h
  have I_BadSentence : IsX K mg g0 sub 2 "BadSentence" := isx_mk (PySem.W.mg_of X G A2) J_BadSentence
  have J_NoWay : ∀ (c : Nat) (C : Addr), g0.cs[c]? = some C → PySem.W.kitOne K (.ref C) (.ref C3) = some (sub c 3) := fun c C h => by
    rcases c with _ | _ | _ | _ | _ | _ | c
    · cases h; exact X0_3
    · cases h; exact X1_3
    · cases h; exact X2_3
    · cases h; exact X3_3
    · cases h; exact X4_3
    · cases h; exact X5_3
    · cases h
  have I_NoWay : IsX K mg g0 sub 3 "NoWay" := isx_mk (PySem.W.mg_of X G A3) J_NoWay
  have J_TooLarge : ∀ (c : Nat) (C : Addr), g0.cs[c]? = some C → PySem.W.kitOne K (.ref C) (.ref C4) = some (sub c 4) := fun c C h => by
    rcases c with _ | _ | _ | _ | _ | _ | c
    · cases h; exact X0_4
    · cases h; exact X1_4
    · cases h; exact X2_4
    · cases h; exact X3_4
    · cases h; exact X4_4
    · cases h; exact X5_4
    · cases h
  have I_TooLarge : IsX K mg g0 sub 4 "TooLarge" := isx_mk (PySem.W.mg_of X G A4) J_TooLarge
  have J_BadDeed : ∀ (c : Nat) (C : Addr), g0.cs[c]? = some C → PySem.W.kitOne K (.ref C) (.ref C5) = some (sub c 5) := fun c C h => by
    rcases c with _ | _ | _ | _ | _ | _ | c
    · cases h; exact X0_5
    · cases h; exact X1_5
    · cases h; exact X2_5
    · cases h; exact X3_5
    · cases h; exact X4_5
    · cases h; exact X5_5
    · cases h
  have I_BadDeed : IsX K mg g0 sub 5 "BadDeed" := isx_mk (PySem.W.mg_of X G A5) J_BadDeed
  have J_ValueError : ∀ (c : Nat) (C : Addr), g0.cs[c]? = some C → PySem.W.kitOne K (.ref C) (.type "ValueError") = some true := fun c C h => by
    rcases c with _ | _ | _ | _ | _ | _ | c
    · cases h; exact X0v
    · cases h; exact X1v
    · cases h; exact X2v
    · cases h; exact X3v
    · cases h; exact X4v
    · cases h; exact X5v
    · cases h
  have I_ValueError : IsT K mg g0 "ValueError" "ValueError" := ⟨PySem.W.mg_none_of X G z_ValueError, by decide +kernel, J_ValueError⟩
  have F : AllF l.prog K w mg g0 cs0 := {
    f_told := (f_mk (PySem.W.mg_of X G a0) l0 c0 k0 fun _ _ _ _ _ _ us hl => match us, hl with | [_], _ => rfl),
    f_shortest := kd_mk (PySem.W.mg_of X G a1) l1 c1 k1 (fun _ _ _ _ _ _ us hl => match us, hl with | [_, _], _ => rfl) (List.mem_cons_of_mem _ List.mem_cons_self) (List.mem_cons_of_mem _ List.mem_cons_self) (by
      intro p hp e
      simp only [g0, List.mem_cons, List.not_mem_nil, or_false] at hp
      rcases hp with rfl | rfl | rfl | rfl | rfl | rfl
      · exact absurd e Nl_1
      · rfl
      · exact absurd e N2_1
      · exact absurd e N3_1
      · exact absurd e N5_1
      · exact absurd e N19_1),
    f_is_word := kd_mk (PySem.W.mg_of X G a2) l2 c2 k2 (fun _ _ _ _ _ _ us hl => match us, hl with | [_], _ => rfl) (List.mem_cons_of_mem _ (List.mem_cons_of_mem _ List.mem_cons_self)) (List.mem_cons_of_mem _ (List.mem_cons_of_mem _ List.mem_cons_self)) (by
      intro p hp e
      simp only [g0, List.mem_cons, List.not_mem_nil, or_false] at hp
      rcases hp with rfl | rfl | rfl | rfl | rfl | rfl
      · exact absurd e Nl_2
      · exact absurd e N1_2
      · rfl
      · exact absurd e N3_2
      · exact absurd e N5_2
      · exact absurd e N19_2),
    f_is_book := kd_mk (PySem.W.mg_of X G a3) l3 c3 k3 (fun _ _ _ _ _ _ us hl => match us, hl with | [_], _ => rfl) (List.mem_cons_of_mem _ (List.mem_cons_of_mem _ (List.mem_cons_of_mem _ List.mem_cons_self))) (List.mem_cons_of_mem _ (List.mem_cons_of_mem _ (List.mem_cons_of_mem _ List.mem_cons_self))) (by
      intro p hp e
      simp only [g0, List.mem_cons, List.not_mem_nil, or_false] at hp
      rcases hp with rfl | rfl | rfl | rfl | rfl | rfl
      · exact absurd e Nl_3
      · exact absurd e N1_3
      · exact absurd e N2_3
      · rfl
      · exact absurd e N5_3
      · exact absurd e N19_3),
    f_is_stem := (f_mk (PySem.W.mg_of X G a4) l4 c4 k4 fun _ _ _ _ _ _ us hl => match us, hl with | [_], _ => rfl),
    f_rises := kd_mk (PySem.W.mg_of X G a5) l5 c5 k5 (fun _ _ _ _ _ _ us hl => match us, hl with | [_], _ => rfl) (List.mem_cons_of_mem _ (List.mem_cons_of_mem _ (List.mem_cons_of_mem _ (List.mem_cons_of_mem _ List.mem_cons_self)))) (List.mem_cons_of_mem _ (List.mem_cons_of_mem _ (List.mem_cons_of_mem _ (List.mem_cons_of_mem _ List.mem_cons_self)))) (by
      intro p hp e
      simp only [g0, List.mem_cons, List.not_mem_nil, or_false] at hp
      rcases hp with rfl | rfl | rfl | rfl | rfl | rfl
      · exact absurd e Nl_5
      · exact absurd e N1_5
      · exact absurd e N2_5
      · exact absurd e N3_5
      · rfl
      · exact absurd e N19_5),
    f_check_book := (f_mk (PySem.W.mg_of X G a6) l6 c6 k6 fun _ _ _ _ _ _ us hl => match us, hl with | [_], _ => rfl),
    f_joined := (f_mk (PySem.W.mg_of X G a7) l7 c7 k7 fun _ _ _ _ _ _ us hl => match us, hl with | [_, _], _ => rfl),
    f_thing_form := (f_mk (PySem.W.mg_of X G a8) l8 c8 k8 fun _ _ _ _ _ _ us hl => match us, hl with | [_, _, _, _], _ => rfl),
    f_deed_form := (f_mk (PySem.W.mg_of X G a9) l9 c9 k9 fun _ _ _ _ _ _ us hl => match us, hl with | [_, _, _, _], _ => rfl),
    f_who_form := (f_mk (PySem.W.mg_of X G a10) l10 c10 k10 fun _ _ _ _ _ _ us hl => match us, hl with | [_, _, _], _ => rfl),
    f_forms_of_thing := (f_mk (PySem.W.mg_of X G a11) l11 c11 k11 fun _ _ _ _ _ _ us hl => match us, hl with | [_, _], _ => rfl),
    f_forms_of_deed := (f_mk (PySem.W.mg_of X G a12) l12 c12 k12 fun _ _ _ _ _ _ us hl => match us, hl with | [_], _ => rfl),
    f_asked_form := (f_mk (PySem.W.mg_of X G a13) l13 c13 k13 fun _ _ _ _ _ _ us hl => match us, hl with | [_], _ => rfl),
    f_all_forms := (f_mk (PySem.W.mg_of X G a14) l14 c14 k14 fun _ _ _ _ _ _ us hl => match us, hl with | [_], _ => rfl),
    f_doubtful := (f_mk (PySem.W.mg_of X G a15) l15 c15 k15 fun _ _ _ _ _ _ us hl => match us, hl with | [_], _ => rfl),
    f_without := (f_mk (PySem.W.mg_of X G a16) l16 c16 k16 fun _ _ _ _ _ _ us hl => match us, hl with | [_, _], _ => rfl),
    f_repr_of := (f_mk (PySem.W.mg_of X G a17) l17 c17 k17 fun _ _ _ _ _ _ us hl => match us, hl with | [_], _ => rfl),
    f_whole := (f_mk (PySem.W.mg_of X G a18) l18 c18 k18 fun _ _ _ _ _ _ us hl => match us, hl with | [_, _, _, _], _ => rfl),
    f_read_by := kd_mk (PySem.W.mg_of X G a19) l19 c19 k19 (fun _ _ _ _ _ _ us hl => match us, hl with | [_, _], _ => rfl) (List.mem_cons_of_mem _ (List.mem_cons_of_mem _ (List.mem_cons_of_mem _ (List.mem_cons_of_mem _ (List.mem_cons_of_mem _ List.mem_cons_self))))) (List.mem_cons_of_mem _ (List.mem_cons_of_mem _ (List.mem_cons_of_mem _ (List.mem_cons_of_mem _ (List.mem_cons_of_mem _ List.mem_cons_self))))) (by
      intro p hp e
      simp only [g0, List.mem_cons, List.not_mem_nil, or_false] at hp
      rcases hp with rfl | rfl | rfl | rfl | rfl | rfl
      · exact absurd e Nl_19
      · exact absurd e N1_19
      · exact absurd e N2_19
      · exact absurd e N3_19
      · exact absurd e N5_19
      · rfl),
    f_read := (f_mk (PySem.W.mg_of X G a20) l20 c20 k20 fun _ _ _ _ _ _ us hl => match us, hl with | [_, _], _ => rfl),
    f_putting := (f_mk (PySem.W.mg_of X G a21) l21 c21 k21 fun _ _ _ _ _ _ us hl => match us, hl with | [_, _, _], _ => rfl),
    f_put := (f_mk (PySem.W.mg_of X G a22) l22 c22 k22 fun _ _ _ _ _ _ us hl => match us, hl with | [_, _], _ => rfl),
    f_Desk___init__ := ⟨_, f23, _, rfl, ⟨pg0, hd0, po0, sa0⟩, ⟨a23, i23, k23⟩, fun_mk l23 c23 k23, (fun_mk (st := s_Desk___init__) l23 c23 k23).binds fun _ _ _ _ _ _ us hl => match us, hl with | [_, _, _], _ => rfl⟩,
    f_Desk_note := ⟨_, f24, _, rfl, ⟨pg0, hd0, po0, sa0⟩, ⟨a24, i24, k24⟩, fun_mk l24 c24 k24, (fun_mk (st := s_Desk_note) l24 c24 k24).binds fun _ _ _ _ _ _ us hl => match us, hl with | [_, _], _ => rfl⟩,
    f_Desk_take := ⟨_, f25, _, rfl, ⟨pg0, hd0, po0, sa0⟩, ⟨a25, i25, k25⟩, fun_mk l25 c25 k25, (fun_mk (st := s_Desk_take) l25 c25 k25).binds fun _ _ _ _ _ _ us hl => match us, hl with | [_, _], _ => rfl⟩,
    f_law_dice := (f_mk (PySem.W.mg_of X G a26) l26 c26 k26 fun _ _ _ _ _ _ us hl => match us, hl with | [_], _ => rfl),
    f_law_roll := (f_mk (PySem.W.mg_of X G a27) l27 c27 k27 fun _ _ _ _ _ _ us hl => match us, hl with | [_, _], _ => rfl),
    f_law_rounds := (f_mk (PySem.W.mg_of X G a28) l28 c28 k28 fun _ _ _ _ _ _ us hl => match us, hl with | [_, _], _ => rfl),
    T_law_told := fun P base k => tell_mk n_isinstance I_BadWord I_BadBook I_BadSentence I_NoWay I_TooLarge I_BadDeed I_ValueError EA hmT hsT hsub (f_mk (PySem.W.mg_of X G a29) l29 c29 k29 fun _ _ _ _ _ _ us hl => match us, hl with | [_], _ => rfl),
    N_Desk := ⟨KC0, rfl, PySem.W.mg_of X G kc0, mk0, kp0⟩,
    A_Desk_book := ⟨KC0, rfl, ⟨pg0, hd0, po0, sa0⟩, nf0_book⟩,
    A_Desk_deeds := ⟨KC0, rfl, ⟨pg0, hd0, po0, sa0⟩, nf0_deeds⟩,
    A_Desk_lets := ⟨KC0, rfl, ⟨pg0, hd0, po0, sa0⟩, nf0_lets⟩,
    A_Desk_undone := ⟨KC0, rfl, ⟨pg0, hd0, po0, sa0⟩, nf0_undone⟩,
    n_isinstance := PySem.W.mg_none_of X G z_isinstance,
    n_int := PySem.W.mg_none_of X G z_int,
    n_bool := PySem.W.mg_none_of X G z_bool,
    n_len := PySem.W.mg_none_of X G z_len,
    n_min := PySem.W.mg_none_of X G z_min,
    n_range := PySem.W.mg_none_of X G z_range,
    n_str := PySem.W.mg_none_of X G z_str,
    n_all := PySem.W.mg_none_of X G z_all,
    n_any := PySem.W.mg_none_of X G z_any,
    n_tuple := PySem.W.mg_none_of X G z_tuple,
    n_list := PySem.W.mg_none_of X G z_list,
    n_enumerate := PySem.W.mg_none_of X G z_enumerate,
    n_sorted := PySem.W.mg_none_of X G z_sorted,
    n_abs := PySem.W.mg_none_of X G z_abs,
    C_DIGITS := cst_of (PySem.W.mg_of X G g_DIGITS) (kv_tup l_DIGITS (by rw [j_DIGITS]; exact (.cons (KV0.str (by decide +kernel) (by decide +kernel)).ex (.cons (KV0.str (by decide +kernel) (by decide +kernel)).ex (.cons (KV0.str (by decide +kernel) (by decide +kernel)).ex (.cons (KV0.str (by decide +kernel) (by decide +kernel)).ex (.cons (KV0.str (by decide +kernel) (by decide +kernel)).ex (.cons (KV0.str (by decide +kernel) (by decide +kernel)).ex (.cons (KV0.str (by decide +kernel) (by decide +kernel)).ex (.cons (KV0.str (by decide +kernel) (by decide +kernel)).ex (.cons (KV0.str (by decide +kernel) (by decide +kernel)).ex (.cons (KV0.str (by decide +kernel) (by decide +kernel)).ex KVs.nil))))))))))) (by rw [← Array.length_toList, j_DIGITS]; exact Nat.le_of_ble_eq_true rfl)),
    C_TENS := cst_of (PySem.W.mg_of X G g_TENS) (kv_tup l_TENS (by rw [j_TENS]; exact (.cons (kv_tup l_TENS_0 (by rw [j_TENS_0]; exact (.cons (KV0.str (by decide +kernel) (by decide +kernel)).ex (.cons (KV0.int 1000 t_TENS_0_1).ex KVs.nil))) (by rw [← Array.length_toList, j_TENS_0]; exact Nat.le_of_ble_eq_true rfl)) (.cons (kv_tup l_TENS_1 (by rw [j_TENS_1]; exact (.cons (KV0.str (by decide +kernel) (by decide +kernel)).ex (.cons (KV0.int 100 t_TENS_1_1).ex KVs.nil))) (by rw [← Array.length_toList, j_TENS_1]; exact Nat.le_of_ble_eq_true rfl)) (.cons (kv_tup l_TENS_2 (by rw [j_TENS_2]; exact (.cons (KV0.str (by decide +kernel) (by decide +kernel)).ex (.cons (KV0.int 10 t_TENS_2_1).ex KVs.nil))) (by rw [← Array.length_toList, j_TENS_2]; exact Nat.le_of_ble_eq_true rfl)) KVs.nil)))) (by rw [← Array.length_toList, j_TENS]; exact Nat.le_of_ble_eq_true rfl)),
    C_MOST := cst_of (PySem.W.mg_of X G g_MOST) (KV0.int 999999 t_MOST).ex,
    C_VOWELS := cst_of (PySem.W.mg_of X G g_VOWELS) (KV0.str (by decide +kernel) (by decide +kernel)).ex,
    C_OTHERS := cst_of (PySem.W.mg_of X G g_OTHERS) (KV0.str (by decide +kernel) (by decide +kernel)).ex,
    C_CASES := cst_of (PySem.W.mg_of X G g_CASES) (kv_tup l_CASES (by rw [j_CASES]; exact (.cons (KV0.str (by decide +kernel) (by decide +kernel)).ex (.cons (KV0.str (by decide +kernel) (by decide +kernel)).ex (.cons (KV0.str (by decide +kernel) (by decide +kernel)).ex (.cons (KV0.str (by decide +kernel) (by decide +kernel)).ex KVs.nil))))) (by rw [← Array.length_toList, j_CASES]; exact Nat.le_of_ble_eq_true rfl)),
    C_TIMES := cst_of (PySem.W.mg_of X G g_TIMES) (kv_tup l_TIMES (by rw [j_TIMES]; exact (.cons (KV0.str (by decide +kernel) (by decide +kernel)).ex (.cons (KV0.str (by decide +kernel) (by decide +kernel)).ex (.cons (KV0.str (by decide +kernel) (by decide +kernel)).ex KVs.nil)))) (by rw [← Array.length_toList, j_TIMES]; exact Nat.le_of_ble_eq_true rfl)),
    C_PERSONS := cst_of (PySem.W.mg_of X G g_PERSONS) (kv_tup l_PERSONS (by rw [j_PERSONS]; exact (.cons (KV0.str (by decide +kernel) (by decide +kernel)).ex (.cons (KV0.str (by decide +kernel) (by decide +kernel)).ex (.cons (KV0.str (by decide +kernel) (by decide +kernel)).ex (.cons (KV0.str (by decide +kernel) (by decide +kernel)).ex (.cons (KV0.str (by decide +kernel) (by decide +kernel)).ex (.cons (KV0.str (by decide +kernel) (by decide +kernel)).ex KVs.nil))))))) (by rw [← Array.length_toList, j_PERSONS]; exact Nat.le_of_ble_eq_true rfl)),
    C_WHO := cst_of (PySem.W.mg_of X G g_WHO) (kv_tup l_WHO (by rw [j_WHO]; exact (.cons (KV0.str (by decide +kernel) (by decide +kernel)).ex (.cons (KV0.str (by decide +kernel) (by decide +kernel)).ex (.cons (KV0.str (by decide +kernel) (by decide +kernel)).ex (.cons (KV0.str (by decide +kernel) (by decide +kernel)).ex KVs.nil))))) (by rw [← Array.length_toList, j_WHO]; exact Nat.le_of_ble_eq_true rfl)),
    C_SMALL := cst_of (PySem.W.mg_of X G g_SMALL) (kv_tup l_SMALL (by rw [j_SMALL]; exact (.cons (KV0.str (by decide +kernel) (by decide +kernel)).ex (.cons (KV0.str (by decide +kernel) (by decide +kernel)).ex (.cons (KV0.str (by decide +kernel) (by decide +kernel)).ex KVs.nil)))) (by rw [← Array.length_toList, j_SMALL]; exact Nat.le_of_ble_eq_true rfl)),
    D_ENDINGS := wd_of (PySem.W.mg_of X G g_ENDINGS) l_ENDINGS o_ENDINGS (by rw [j_ENDINGS]; exact (we_int (kv_tup l_ENDINGS_0 (by rw [j_ENDINGS_0]; exact (.cons (KV0.str (by decide +kernel) (by decide +kernel)).ex (.cons (KV0.str (by decide +kernel) (by decide +kernel)).ex (.cons (KV0.str (by decide +kernel) (by decide +kernel)).ex (.cons (KV0.str (by decide +kernel) (by decide +kernel)).ex KVs.nil))))) (by rw [← Array.length_toList, j_ENDINGS_0]; exact Nat.le_of_ble_eq_true rfl)) (we_int (kv_tup l_ENDINGS_1 (by rw [j_ENDINGS_1]; exact (.cons (KV0.str (by decide +kernel) (by decide +kernel)).ex (.cons (KV0.str (by decide +kernel) (by decide +kernel)).ex (.cons (KV0.str (by decide +kernel) (by decide +kernel)).ex (.cons (KV0.str (by decide +kernel) (by decide +kernel)).ex KVs.nil))))) (by rw [← Array.length_toList, j_ENDINGS_1]; exact Nat.le_of_ble_eq_true rfl)) WEs.nil))),
    D_AHEAD := wd_of (PySem.W.mg_of X G g_AHEAD) l_AHEAD o_AHEAD (by rw [j_AHEAD]; exact (we_str (by decide +kernel) (KV0.str (by decide +kernel) (by decide +kernel)).ex (we_str (by decide +kernel) (KV0.str (by decide +kernel) (by decide +kernel)).ex (we_str (by decide +kernel) (KV0.str (by decide +kernel) (by decide +kernel)).ex WEs.nil)))),
    e_BadWord := e_BadWord,
    e_BadBook := e_BadBook,
    q_BadSentence := fun base => errp_mk (k := 0) rfl (PySem.W.mg_of X G A2) E2x E2h E2s B2 Y2 K2 E2i E2t E2l ix_BadSentence E2c E2d E2f E2g E2k E2a E2m (PySem.W.mg_none_of X G z_super) E2o E2q E2v E2n,
    e_NoWay := e_NoWay,
    e_TooLarge := e_TooLarge,
    e_BadDeed := e_BadDeed,
    hsub := hsub, hw := rfl }
  obtain ⟨ecll, dxll, dtll, slcl⟩ := ocb
  simp only at dcb
  subst dcb
  obtain ⟨ecl1, dxl1, dtl1, slc1⟩ := ob1
  simp only at do1
  subst do1
  obtain ⟨ecl2, dxl2, dtl2, slc2⟩ := ob2
  simp only at do2
  subst do2
  obtain ⟨ecl3, dxl3, dtl3, slc3⟩ := ob3
  simp only at do3
  subst do3
  obtain ⟨ecl5, dxl5, dtl5, slc5⟩ := ob5
  simp only at do5
  subst do5
  obtain ⟨ecl19, dxl19, dtl19, slc19⟩ := ob19
  simp only at do19
  subst do19
  have hcs : ∀ p ∈ cs0, Tab0 K h p.1 p.2 := by
    intro p hp
    simp only [cs0, List.mem_cons, List.not_mem_nil, or_false] at hp
    rcases hp with rfl | rfl | rfl | rfl | rfl | rfl
    · exact CodeT.tab0 (x := "law") ⟨_, _, _, _, _, _, _, List.mem_cons_self, PySem.W.mg_of X G al, ll, rfl, rfl, lc, vlaw, chd, nP⟩ own
    · exact CodeT.tab0 (x := "shortest") ⟨_, _, _, _, _, _, _, (List.mem_cons_of_mem _ List.mem_cons_self), PySem.W.mg_of X G a1, l1, rfl, rfl, lc1, v1, h1, p1⟩ own
    · exact CodeT.tab0 (x := "is_word") ⟨_, _, _, _, _, _, _, (List.mem_cons_of_mem _ (List.mem_cons_of_mem _ List.mem_cons_self)), PySem.W.mg_of X G a2, l2, rfl, rfl, lc2, v2, h2, p2⟩ own
    · exact CodeT.tab0 (x := "is_book") ⟨_, _, _, _, _, _, _, (List.mem_cons_of_mem _ (List.mem_cons_of_mem _ (List.mem_cons_of_mem _ List.mem_cons_self))), PySem.W.mg_of X G a3, l3, rfl, rfl, lc3, v3, h3, p3⟩ own
    · exact CodeT.tab0 (x := "rises") ⟨_, _, _, _, _, _, _, (List.mem_cons_of_mem _ (List.mem_cons_of_mem _ (List.mem_cons_of_mem _ (List.mem_cons_of_mem _ List.mem_cons_self)))), PySem.W.mg_of X G a5, l5, rfl, rfl, lc5, v5, h5, p5⟩ own
    · exact CodeT.tab0 (x := "read_by") ⟨_, _, _, _, _, _, _, (List.mem_cons_of_mem _ (List.mem_cons_of_mem _ (List.mem_cons_of_mem _ (List.mem_cons_of_mem _ (List.mem_cons_of_mem _ List.mem_cons_self))))), PySem.W.mg_of X G a19, l19, rfl, rfl, lc19, v19, h19, p19⟩ own
  exact lawAt_tabs (g := g0) (cs := cs0) (F := F_law) X hcs (fun p hp => by
    simp only [g0, List.mem_cons, List.not_mem_nil, or_false] at hp
    rcases hp with rfl | rfl | rfl | rfl | rfl | rfl
    · exact List.mem_map.mpr ⟨(cl, Pt), List.mem_cons_self, rfl⟩
    · exact List.mem_map.mpr ⟨(cc1, Pt1), (List.mem_cons_of_mem _ List.mem_cons_self), rfl⟩
    · exact List.mem_map.mpr ⟨(cc2, Pt2), (List.mem_cons_of_mem _ (List.mem_cons_of_mem _ List.mem_cons_self)), rfl⟩
    · exact List.mem_map.mpr ⟨(cc3, Pt3), (List.mem_cons_of_mem _ (List.mem_cons_of_mem _ (List.mem_cons_of_mem _ List.mem_cons_self))), rfl⟩
    · exact List.mem_map.mpr ⟨(cc5, Pt5), (List.mem_cons_of_mem _ (List.mem_cons_of_mem _ (List.mem_cons_of_mem _ (List.mem_cons_of_mem _ List.mem_cons_self)))), rfl⟩
    · exact List.mem_map.mpr ⟨(cc19, Pt19), (List.mem_cons_of_mem _ (List.mem_cons_of_mem _ (List.mem_cons_of_mem _ (List.mem_cons_of_mem _ (List.mem_cons_of_mem _ List.mem_cons_self))))), rfl⟩) (fun s u => .of_eq rfl) (law_fn g0 cs0 F List.mem_cons_self (by
      intro p hp e
      simp only [g0, List.mem_cons, List.not_mem_nil, or_false] at hp
      rcases hp with rfl | rfl | rfl | rfl | rfl | rfl
      · rfl
      · exact absurd e N1_l
      · exact absurd e N2_l
      · exact absurd e N3_l
      · exact absurd e N5_l
      · exact absurd e N19_l) List.mem_cons_self ll lcd) law_true
theorem law_fn {P : Program} {w : World} {K : PySem.W.Frag} {mg : Str → Option Value} {fl cl Pt : Addr} {ocl kVl dcl pml ctl : Value} {odl anl : Option Addr} {sll : Array (Option Value)} (g : Gc) (cs : List (Addr × Addr)) (A : AllF P K w mg g cs) (gT : (Pt, PySem.Str.ofString "law.<locals>.<lambda>") ∈ g.T) (gu : ∀ p ∈ g.T, p.1 = Pt → p.2 = PySem.Str.ofString "law.<locals>.<lambda>") (hcl : (cl, Pt) ∈ cs) (lk : K.lookup fl = some ⟨ocl, odl, .func (PySem.W.fnOf "law" "law" (defArgs s_law) (defBody s_law) (defScope s_law) .none kVl dcl pml anl (.ref cl) ctl), sll⟩) (hcd : PySem.W.codeIn K (.ref cl) "law" = true) (base : Heap) (hK : K.In base) (hN : base.Ns mainGlobals mg) (hTB : ∀ p ∈ cs, LamX.TabB base mg p.1 p.2) :
    FnOk P w K mg base (L2.CX P w) 60 fl (PySem.W.fnOf "law" "law" (defArgs s_law) (defBody s_law) (defScope s_law) .none kVl dcl pml anl (.ref cl) ctl) ["script"] (spF K g F_law) := by
  obtain ⟨f_told, fd_told, Fn_told, hm_told, hb_told⟩ := A.f_told
  have d_told : Df P w K mg base g 0 "told" (fun _ _ => .bad) := Df.bot Fn_told hm_told hb_told
  have d_told : Df P w K mg base g 1 "told" (ntS) := (x_told A.n_isinstance A.n_int A.n_bool A.C_MOST A.e_BadWord A.C_DIGITS A.C_TENS (d_told.mono (j := 0) (by decide)) Fn_told hm_told hb_told).eqv (nt_eq)
  have d_shortest : Df P w K mg base g 5 "shortest" (shS) := (x_shortest A.e_NoWay A.n_len A.n_min A.n_range (d_told.mono (j := 1) (by decide)) A.f_shortest hTB).eqv (sh_eq)
  have d_is_word : Df P w K mg base g 9 "is_word" (wordS) := (x_is_word A.n_isinstance A.n_str A.n_len A.C_VOWELS A.C_OTHERS A.n_all A.n_any A.f_is_word hTB).eqv (word_eq)
  obtain ⟨f_is_stem, fd_is_stem, Fn_is_stem, hm_is_stem, hb_is_stem⟩ := A.f_is_stem
  have d_is_stem : Df P w K mg base g 10 "is_stem" (stemS) := (x_is_stem A.n_len A.C_SMALL A.C_WHO (d_is_word.mono (j := 9) (by decide)) Fn_is_stem hm_is_stem hb_is_stem).eqv (stem_eq)
  have d_rises : Df P w K mg base g 14 "rises" (risesS) := (x_rises A.n_all A.n_range A.n_len A.f_rises hTB).eqv (rises_eq)
  have d_is_book : Df P w K mg base g 18 "is_book" (isbS) := (x_is_book A.n_isinstance A.n_tuple A.n_len A.n_all A.n_list (d_is_stem.mono (j := 14) (by decide)) (d_rises.mono (j := 14) (by decide)) A.f_is_book hTB).eqv (isb_eq)
  obtain ⟨f_check_book, fd_check_book, Fn_check_book, hm_check_book, hb_check_book⟩ := A.f_check_book
  have d_check_book : Df P w K mg base g 19 "check_book" (cbS) := (x_check_book A.e_BadBook (d_is_book.mono (j := 18) (by decide)) Fn_check_book hm_check_book hb_check_book).eqv (cb_eq)
  obtain ⟨f_joined, fd_joined, Fn_joined, hm_joined, hb_joined⟩ := A.f_joined
  have d_joined : Df P w K mg base g 20 "joined" (joinS) := (x_joined A.C_VOWELS Fn_joined hm_joined hb_joined).eqv (join_eq)
  obtain ⟨f_thing_form, fd_thing_form, Fn_thing_form, hm_thing_form, hb_thing_form⟩ := A.f_thing_form
  have d_thing_form : Df P w K mg base g 21 "thing_form" (thingS) := (x_thing_form A.D_ENDINGS A.C_CASES A.e_BadWord (d_joined.mono (j := 20) (by decide)) Fn_thing_form hm_thing_form hb_thing_form).eqv (thing_eq)
  obtain ⟨f_deed_form, fd_deed_form, Fn_deed_form, hm_deed_form, hb_deed_form⟩ := A.f_deed_form
  have d_deed_form : Df P w K mg base g 22 "deed_form" (deedS) := (x_deed_form A.C_TIMES A.e_BadWord A.D_AHEAD A.C_PERSONS (d_joined.mono (j := 21) (by decide)) Fn_deed_form hm_deed_form hb_deed_form).eqv (deed_eq)
  obtain ⟨f_who_form, fd_who_form, Fn_who_form, hm_who_form, hb_who_form⟩ := A.f_who_form
  have d_who_form : Df P w K mg base g 23 "who_form" (whoS) := (x_who_form A.C_WHO A.C_CASES A.e_BadWord Fn_who_form hm_who_form hb_who_form).eqv (who_eq)
  obtain ⟨f_forms_of_thing, fd_forms_of_thing, Fn_forms_of_thing, hm_forms_of_thing, hb_forms_of_thing⟩ := A.f_forms_of_thing
  have d_forms_of_thing : Df P w K mg base g 24 "forms_of_thing" (thingsS) := (x_forms_of_thing A.n_tuple A.C_CASES (d_thing_form.mono (j := 23) (by decide)) Fn_forms_of_thing hm_forms_of_thing hb_forms_of_thing).eqv (things_eq)
  obtain ⟨f_forms_of_deed, fd_forms_of_deed, Fn_forms_of_deed, hm_forms_of_deed, hb_forms_of_deed⟩ := A.f_forms_of_deed
  have d_forms_of_deed : Df P w K mg base g 25 "forms_of_deed" (deedsS) := (x_forms_of_deed A.C_TIMES A.n_tuple (d_deed_form.mono (j := 24) (by decide)) Fn_forms_of_deed hm_forms_of_deed hb_forms_of_deed).cln ((fun xs h w _ => deeds_cl xs h w))
  obtain ⟨f_asked_form, fd_asked_form, Fn_asked_form, hm_asked_form, hb_asked_form⟩ := A.f_asked_form
  have d_asked_form : Df P w K mg base g 26 "asked_form" (askS) := (x_asked_form A.C_CASES A.e_BadWord Fn_asked_form hm_asked_form hb_asked_form).eqv (ask_eq)
  obtain ⟨f_all_forms, fd_all_forms, Fn_all_forms, hm_all_forms, hb_all_forms⟩ := A.f_all_forms
  have d_all_forms : Df P w K mg base g 27 "all_forms" (afS) := (x_all_forms A.C_CASES A.C_WHO (d_check_book.mono (j := 26) (by decide)) (d_forms_of_thing.mono (j := 26) (by decide)) (d_forms_of_deed.mono (j := 26) (by decide)) (d_who_form.mono (j := 26) (by decide)) (d_asked_form.mono (j := 26) (by decide)) Fn_all_forms hm_all_forms hb_all_forms).frz ((fun xs h _ _ => af_fz xs h))
  obtain ⟨f_without, fd_without, Fn_without, hm_without, hb_without⟩ := A.f_without
  have d_without : Df P w K mg base g 28 "without" (wthF) := x_without A.n_tuple Fn_without hm_without hb_without
  obtain ⟨f_whole, fd_whole, Fn_whole, hm_whole, hb_whole⟩ := A.f_whole
  have d_whole : Df P w K mg base g 28 "whole" (fun _ _ => .bad) := Df.bot Fn_whole hm_whole hb_whole
  obtain ⟨f_repr_of, fd_repr_of, Fn_repr_of, hm_repr_of, hb_repr_of⟩ := A.f_repr_of
  have d_repr_of : Df P w K mg base g 28 "repr_of" (fun _ _ => .bad) := Df.bot Fn_repr_of hm_repr_of hb_repr_of
  have d_read_by : Df P w K mg base g 32 "read_by" (rbS) := (x_read_by A.n_isinstance A.n_str A.n_len (A.q_BadSentence base) (by decide) A.n_enumerate A.e_TooLarge A.hw A.n_tuple A.n_sorted (d_whole.mono (j := 28) (by decide)) (d_repr_of.mono (j := 28) (by decide)) A.f_read_by hTB).eqv (rb_eq)
  obtain ⟨f_read, fd_read, Fn_read, hm_read, hb_read⟩ := A.f_read
  have d_read : Df P w K mg base g 33 "read" (readF) := x_read (d_read_by.mono (j := 32) (by decide)) (d_all_forms.mono (j := 32) (by decide)) Fn_read hm_read hb_read
  obtain ⟨f_putting, fd_putting, Fn_putting, hm_putting, hb_putting⟩ := A.f_putting
  have d_putting : Df P w K mg base g 33 "putting" (fun _ _ => .bad) := Df.bot Fn_putting hm_putting hb_putting
  obtain ⟨f_put, fd_put, Fn_put, hm_put, hb_put⟩ := A.f_put
  have d_put : Df P w K mg base g 34 "put" (putS) := (x_put A.n_len A.e_TooLarge A.n_list A.e_NoWay (d_putting.mono (j := 33) (by decide)) Fn_put hm_put hb_put).eqv (put_eq)
  have d_Desk___init__ : Mf P w K mg base g 35 0 "__init__" (initF) := x_Desk___init__ A.A_Desk_book A.A_Desk_lets A.A_Desk_deeds A.A_Desk_undone (d_check_book.mono (j := 34) (by decide)) A.f_Desk___init__
  have d_Desk := Nf.of A.N_Desk d_Desk___init__
  have d_Desk_note : Mf P w K mg base g 35 0 "note" (fun _ _ => .bad) := Mf.bot A.f_Desk_note
  have d_Desk_take : Mf P w K mg base g 36 0 "take" (takeF) := x_Desk_take A.A_Desk_book A.n_tuple A.e_BadDeed (d_without.mono (j := 35) (by decide)) (d_Desk_note.mono (j := 35) (by decide)) A.f_Desk_take
  obtain ⟨f_law_dice, fd_law_dice, Fn_law_dice, hm_law_dice, hb_law_dice⟩ := A.f_law_dice
  have d_law_dice : Df P w K mg base g 37 "_law_dice" (diceS) := (x_law_dice A.n_abs A.n_int Fn_law_dice hm_law_dice hb_law_dice).eqv (dice_eq)
  obtain ⟨f_law_roll, fd_law_roll, Fn_law_roll, hm_law_roll, hb_law_roll⟩ := A.f_law_roll
  have d_law_roll : Df P w K mg base g 38 "_law_roll" (rollS) := (x_law_roll A.n_int Fn_law_roll hm_law_roll hb_law_roll).eqv (roll_eq)
  obtain ⟨f_law_rounds, fd_law_rounds, Fn_law_rounds, hm_law_rounds, hb_law_rounds⟩ := A.f_law_rounds
  have d_law_rounds : Df P w K mg base g 39 "_law_rounds" (roundsS) := (x_law_rounds (d_law_dice.mono (j := 38) (by decide)) Fn_law_rounds hm_law_rounds hb_law_rounds).eqv (rounds_eq)
  exact x_law A.n_str (A.T_law_told _ _) A.n_range A.n_len A.hsub (d_law_roll.mono (j := 57) (by decide)) (d_Desk.mono (j := 57) (by decide)) (d_told.mono (j := 57) (by decide)) (d_check_book.mono (j := 57) (by decide)) (d_read.mono (j := 57) (by decide)) (d_shortest.mono (j := 57) (by decide)) (d_put.mono (j := 57) (by decide)) (d_Desk_take.mono (j := 57) (by decide)) (d_law_rounds.mono (j := 57) (by decide)) lk hcd (hTB _ hcl) gT gu
end K22
end
open PySem PySem.W PyProof.Rows
set_option maxRecDepth 100000 in
set_option maxHeartbeats 0 in
theorem PySem.Challenge.cw_tonguehall_k22_refusals_apart_holds : PySem.Challenge.rw_tonguehall_k22_refusals_apart.Holds := by
  w_on; o_law; k_head; (case hw => w_witness2)
  k_fill
  refine FL.walk_all (names := K22.tnames) (l := PySem.Challenge.rw_tonguehall_k22_refusals_apart) (n := 63) (k := 60) (x := "script") (CX := fun w => L2.CX PySem.Challenge.rw_tonguehall_k22_refusals_apart.prog w) rfl (by decide) rfl ⟨rfl, by decide, by decide⟩ (by decide +kernel) (fun w h Y => by first | exact PySem.W.kIn_of Y | exact PySem.W.km_in_of Y) ?F (fun w H s e s' h => FL.cx_end w H s e s' h)
  case F =>
    intro w mg fa h Y KX G hmg own
    refine' K22.all_mk KX G hmg own ?kc0 ?a0 ?l0 ?c0 ?k0 ?a1 ?l1 ?c1 ?k1 ?lc1 ?do1 ?v1 ?h1 ?p1 ?a2 ?l2 ?c2 ?k2 ?lc2 ?do2 ?v2 ?h2 ?p2 ?a3 ?l3 ?c3 ?k3 ?lc3 ?do3 ?v3 ?h3 ?p3 ?a4 ?l4 ?c4 ?k4 ?a5 ?l5 ?c5 ?k5 ?lc5 ?do5 ?v5 ?h5 ?p5 ?a6 ?l6 ?c6 ?k6 ?a7 ?l7 ?c7 ?k7 ?a8 ?l8 ?c8 ?k8 ?a9 ?l9 ?c9 ?k9 ?a10 ?l10 ?c10 ?k10 ?a11 ?l11 ?c11 ?k11 ?a12 ?l12 ?c12 ?k12 ?a13 ?l13 ?c13 ?k13 ?a14 ?l14 ?c14 ?k14 ?a15 ?l15 ?c15 ?k15 ?a16 ?l16 ?c16 ?k16 ?a17 ?l17 ?c17 ?k17 ?a18 ?l18 ?c18 ?k18 ?a19 ?l19 ?c19 ?k19 ?lc19 ?do19 ?v19 ?h19 ?p19 ?a20 ?l20 ?c20 ?k20 ?a21 ?l21 ?c21 ?k21 ?a22 ?l22 ?c22 ?k22 ?a23 ?i23 ?l23 ?c23 ?k23 ?a24 ?i24 ?l24 ?c24 ?k24 ?a25 ?i25 ?l25 ?c25 ?k25 ?a26 ?l26 ?c26 ?k26 ?a27 ?l27 ?c27 ?k27 ?a28 ?l28 ?c28 ?k28 ?a29 ?l29 ?c29 ?k29 ?pg0 ?hd0 ?po0 ?sa0 ?mk0 ?kp0 ?nf0_book ?nf0_deeds ?nf0_lets ?nf0_undone ?z_isinstance ?z_int ?z_bool ?z_len ?z_min ?z_range ?z_str ?z_all ?z_any ?z_tuple ?z_list ?z_enumerate ?z_sorted ?z_abs ?g_DIGITS ?l_DIGITS ?j_DIGITS ?g_TENS ?l_TENS ?j_TENS ?l_TENS_2 ?j_TENS_2 ?l_TENS_1 ?j_TENS_1 ?l_TENS_0 ?j_TENS_0 ?g_MOST ?g_VOWELS ?g_OTHERS ?g_CASES ?l_CASES ?j_CASES ?g_TIMES ?l_TIMES ?j_TIMES ?g_PERSONS ?l_PERSONS ?j_PERSONS ?g_WHO ?l_WHO ?j_WHO ?g_SMALL ?l_SMALL ?j_SMALL ?g_ENDINGS ?l_ENDINGS ?j_ENDINGS ?l_ENDINGS_1 ?j_ENDINGS_1 ?l_ENDINGS_0 ?j_ENDINGS_0 ?o_ENDINGS ?g_AHEAD ?l_AHEAD ?j_AHEAD ?o_AHEAD ?A0 ?K0 ?Q0 ?B0 ?Y0 ?I0 ?A1 ?K1 ?Q1 ?B1 ?Y1 ?I1 ?A2 ?K2 ?B2 ?Y2 ?I2 ?E2x ?E2h ?E2s ?E2i ?E2t ?E2l ?E2c ?E2d ?E2f ?E2g ?E2k ?E2a ?E2m ?z_super ?E2o ?E2q ?E2v ?E2n ?A3 ?K3 ?Q3 ?B3 ?Y3 ?I3 ?A4 ?K4 ?Q4 ?B4 ?Y4 ?I4 ?A5 ?K5 ?Q5 ?B5 ?Y5 ?I5 ?Act ?X0g ?X0k ?X0d ?X0a ?X0m ?X0v ?X0t ?X0_0 ?X0_1 ?X0_2 ?X0_3 ?X0_4 ?X0_5 ?X1g ?X1k ?X1d ?X1a ?X1m ?X1v ?X1t ?X1_0 ?X1_1 ?X1_2 ?X1_3 ?X1_4 ?X1_5 ?X2g ?X2k ?X2d ?X2a ?X2m ?X2v ?X2t ?X2_0 ?X2_1 ?X2_2 ?X2_3 ?X2_4 ?X2_5 ?X3g ?X3k ?X3d ?X3a ?X3m ?X3v ?X3t ?X3_0 ?X3_1 ?X3_2 ?X3_3 ?X3_4 ?X3_5 ?X4g ?X4k ?X4d ?X4a ?X4m ?X4v ?X4t ?X4_0 ?X4_1 ?X4_2 ?X4_3 ?X4_4 ?X4_5 ?X5g ?X5k ?X5d ?X5a ?X5m ?X5v ?X5t ?X5_0 ?X5_1 ?X5_2 ?X5_3 ?X5_4 ?X5_5 ?Xzn ?Xzt ?z_ValueError ?S0_0 ?S0_1 ?S0_2 ?S0_3 ?S0_4 ?S0_5 ?S1_0 ?S1_1 ?S1_2 ?S1_3 ?S1_4 ?S1_5 ?S2_0 ?S2_1 ?S2_2 ?S2_3 ?S2_4 ?S2_5 ?S3_0 ?S3_1 ?S3_2 ?S3_3 ?S3_4 ?S3_5 ?S4_0 ?S4_1 ?S4_2 ?S4_3 ?S4_4 ?S4_5 ?S5_0 ?S5_1 ?S5_2 ?S5_3 ?S5_4 ?S5_5 ?al ?ll ?lcd ?lc ?dcb ?vlaw ?chd ?nP ?Nl_1 ?Nl_2 ?Nl_3 ?Nl_5 ?Nl_19 ?N1_l ?N1_2 ?N1_3 ?N1_5 ?N1_19 ?N2_l ?N2_1 ?N2_3 ?N2_5 ?N2_19 ?N3_l ?N3_1 ?N3_2 ?N3_5 ?N3_19 ?N5_l ?N5_1 ?N5_2 ?N5_3 ?N5_19 ?N19_l ?N19_1 ?N19_2 ?N19_3 ?N19_5 K22.law_fn
    (case kc0 => k_is)
    (case a0 => k_is)
    (case l0 => k_is)
    (case c0 => k_is)
    (case k0 => k_is)
    (case a1 => k_is)
    (case l1 => k_is)
    (case c1 => k_is)
    (case k1 => k_is)
    (case lc1 => k_is)
    (case do1 => first | rfl | k_is)
    (case v1 => first | rfl | k_is)
    (case h1 => first | kernel_rfl | k_is)
    (case p1 => first | kernel_rfl | k_is)
    (case a2 => k_is)
    (case l2 => k_is)
    (case c2 => k_is)
    (case k2 => k_is)
    (case lc2 => k_is)
    (case do2 => first | rfl | k_is)
    (case v2 => first | rfl | k_is)
    (case h2 => first | kernel_rfl | k_is)
    (case p2 => first | kernel_rfl | k_is)
    (case a3 => k_is)
    (case l3 => k_is)
    (case c3 => k_is)
    (case k3 => k_is)
    (case lc3 => k_is)
    (case do3 => first | rfl | k_is)
    (case v3 => first | rfl | k_is)
    (case h3 => first | kernel_rfl | k_is)
    (case p3 => first | kernel_rfl | k_is)
    (case a4 => k_is)
    (case l4 => k_is)
    (case c4 => k_is)
    (case k4 => k_is)
    (case a5 => k_is)
    (case l5 => k_is)
    (case c5 => k_is)
    (case k5 => k_is)
    (case lc5 => k_is)
    (case do5 => first | rfl | k_is)
    (case v5 => first | rfl | k_is)
    (case h5 => first | kernel_rfl | k_is)
    (case p5 => first | kernel_rfl | k_is)
    (case a6 => k_is)
    (case l6 => k_is)
    (case c6 => k_is)
    (case k6 => k_is)
    (case a7 => k_is)
    (case l7 => k_is)
    (case c7 => k_is)
    (case k7 => k_is)
    (case a8 => k_is)
    (case l8 => k_is)
    (case c8 => k_is)
    (case k8 => k_is)
    (case a9 => k_is)
    (case l9 => k_is)
    (case c9 => k_is)
    (case k9 => k_is)
    (case a10 => k_is)
    (case l10 => k_is)
    (case c10 => k_is)
    (case k10 => k_is)
    (case a11 => k_is)
    (case l11 => k_is)
    (case c11 => k_is)
    (case k11 => k_is)
    (case a12 => k_is)
    (case l12 => k_is)
    (case c12 => k_is)
    (case k12 => k_is)
    (case a13 => k_is)
    (case l13 => k_is)
    (case c13 => k_is)
    (case k13 => k_is)
    (case a14 => k_is)
    (case l14 => k_is)
    (case c14 => k_is)
    (case k14 => k_is)
    (case a15 => k_is)
    (case l15 => k_is)
    (case c15 => k_is)
    (case k15 => k_is)
    (case a16 => k_is)
    (case l16 => k_is)
    (case c16 => k_is)
    (case k16 => k_is)
    (case a17 => k_is)
    (case l17 => k_is)
    (case c17 => k_is)
    (case k17 => k_is)
    (case a18 => k_is)
    (case l18 => k_is)
    (case c18 => k_is)
    (case k18 => k_is)
    (case a19 => k_is)
    (case l19 => k_is)
    (case c19 => k_is)
    (case k19 => k_is)
    (case lc19 => k_is)
    (case do19 => first | rfl | k_is)
    (case v19 => first | rfl | k_is)
    (case h19 => first | kernel_rfl | k_is)
    (case p19 => first | kernel_rfl | k_is)
    (case a20 => k_is)
    (case l20 => k_is)
    (case c20 => k_is)
    (case k20 => k_is)
    (case a21 => k_is)
    (case l21 => k_is)
    (case c21 => k_is)
    (case k21 => k_is)
    (case a22 => k_is)
    (case l22 => k_is)
    (case c22 => k_is)
    (case k22 => k_is)
    (case a23 => k_is)
    (case i23 => k_is)
    (case l23 => k_is)
    (case c23 => k_is)
    (case k23 => k_is)
    (case a24 => k_is)
    (case i24 => k_is)
    (case l24 => k_is)
    (case c24 => k_is)
    (case k24 => k_is)
    (case a25 => k_is)
    (case i25 => k_is)
    (case l25 => k_is)
    (case c25 => k_is)
    (case k25 => k_is)
    (case a26 => k_is)
    (case l26 => k_is)
    (case c26 => k_is)
    (case k26 => k_is)
    (case a27 => k_is)
    (case l27 => k_is)
    (case c27 => k_is)
    (case k27 => k_is)
    (case a28 => k_is)
    (case l28 => k_is)
    (case c28 => k_is)
    (case k28 => k_is)
    (case a29 => k_is)
    (case l29 => k_is)
    (case c29 => k_is)
    (case k29 => k_is)
    (case pg0 => k_is)
    (case hd0 => k_is)
    (case po0 => k_is)
    (case sa0 => k_is)
    (case mk0 => k_is)
    (case kp0 => k_is)
    (case nf0_book => k_is)
    (case nf0_deeds => k_is)
    (case nf0_lets => k_is)
    (case nf0_undone => k_is)
    (case z_isinstance => k_is)
    (case z_int => k_is)
    (case z_bool => k_is)
    (case z_len => k_is)
    (case z_min => k_is)
    (case z_range => k_is)
    (case z_str => k_is)
    (case z_all => k_is)
    (case z_any => k_is)
    (case z_tuple => k_is)
    (case z_list => k_is)
    (case z_enumerate => k_is)
    (case z_sorted => k_is)
    (case z_abs => k_is)
    (case g_DIGITS => k_is)
    (case l_DIGITS => k_is)
    (case j_DIGITS => first | rfl | k_is)
    (case g_TENS => k_is)
    (case l_TENS => k_is)
    (case j_TENS => first | rfl | k_is)
    (case l_TENS_2 => k_is)
    (case j_TENS_2 => first | rfl | k_is)
    (case l_TENS_1 => k_is)
    (case j_TENS_1 => first | rfl | k_is)
    (case l_TENS_0 => k_is)
    (case j_TENS_0 => first | rfl | k_is)
    (case g_MOST => k_is)
    (case g_VOWELS => k_is)
    (case g_OTHERS => k_is)
    (case g_CASES => k_is)
    (case l_CASES => k_is)
    (case j_CASES => first | rfl | k_is)
    (case g_TIMES => k_is)
    (case l_TIMES => k_is)
    (case j_TIMES => first | rfl | k_is)
    (case g_PERSONS => k_is)
    (case l_PERSONS => k_is)
    (case j_PERSONS => first | rfl | k_is)
    (case g_WHO => k_is)
    (case l_WHO => k_is)
    (case j_WHO => first | rfl | k_is)
    (case g_SMALL => k_is)
    (case l_SMALL => k_is)
    (case j_SMALL => first | rfl | k_is)
    (case g_ENDINGS => k_is)
    (case l_ENDINGS => k_is)
    (case j_ENDINGS => first | rfl | k_is)
    (case l_ENDINGS_1 => k_is)
    (case j_ENDINGS_1 => first | rfl | k_is)
    (case l_ENDINGS_0 => k_is)
    (case j_ENDINGS_0 => first | rfl | k_is)
    (case o_ENDINGS => first | kernel_rfl | k_is)
    (case g_AHEAD => k_is)
    (case l_AHEAD => k_is)
    (case j_AHEAD => first | rfl | k_is)
    (case o_AHEAD => first | kernel_rfl | k_is)
    (case A0 => k_is)
    (case K0 => k_is)
    (case Q0 => first | k_exc | k_is | kernel_rfl)
    (case B0 => k_is)
    (case Y0 => k_is)
    (case I0 => k_is)
    (case A1 => k_is)
    (case K1 => k_is)
    (case Q1 => first | k_exc | k_is | kernel_rfl)
    (case B1 => k_is)
    (case Y1 => k_is)
    (case I1 => k_is)
    (case A2 => k_is)
    (case K2 => k_is)
    (case B2 => k_is)
    (case Y2 => k_is)
    (case I2 => k_is)
    (case E2x => k_is)
    (case E2h => first | rfl | k_is | kernel_rfl | decide +kernel)
    (case E2s => k_is)
    (case E2i => k_is)
    (case E2t => k_is)
    (case E2l => k_is)
    (case E2c => k_is)
    (case E2d => k_is)
    (case E2f => first | rfl | k_is | kernel_rfl | decide +kernel)
    (case E2g => first | rfl | k_is | kernel_rfl | decide +kernel)
    (case E2k => k_is)
    (case E2a => first | rfl | k_is | kernel_rfl | decide +kernel)
    (case E2m => first | rfl | k_is | kernel_rfl | decide +kernel)
    (case z_super => k_is)
    (case E2o => first | rfl | k_is | kernel_rfl | decide +kernel)
    (case E2q => first | rfl | k_is | kernel_rfl | decide +kernel)
    (case E2v => first | rfl | k_is | kernel_rfl | decide +kernel)
    (case E2n => k_is)
    (case A3 => k_is)
    (case K3 => k_is)
    (case Q3 => first | k_exc | k_is | kernel_rfl)
    (case B3 => k_is)
    (case Y3 => k_is)
    (case I3 => k_is)
    (case A4 => k_is)
    (case K4 => k_is)
    (case Q4 => first | k_exc | k_is | kernel_rfl)
    (case B4 => k_is)
    (case Y4 => k_is)
    (case I4 => k_is)
    (case A5 => k_is)
    (case K5 => k_is)
    (case Q5 => first | k_exc | k_is | kernel_rfl)
    (case B5 => k_is)
    (case Y5 => k_is)
    (case I5 => k_is)
    (case Act => k_is)
    (case X0g => k_is)
    (case X0k => k_is)
    (case X0d => k_is)
    (case X0a => k_is)
    (case X0m => first | rfl | k_is | kernel_rfl | decide +kernel)
    (case X0v => first | rfl | k_is | kernel_rfl | decide +kernel)
    (case X0t => first | rfl | k_is | kernel_rfl | decide +kernel)
    (case X0_0 => first | rfl | k_is | kernel_rfl | decide +kernel)
    (case X0_1 => first | rfl | k_is | kernel_rfl | decide +kernel)
    (case X0_2 => first | rfl | k_is | kernel_rfl | decide +kernel)
    (case X0_3 => first | rfl | k_is | kernel_rfl | decide +kernel)
    (case X0_4 => first | rfl | k_is | kernel_rfl | decide +kernel)
    (case X0_5 => first | rfl | k_is | kernel_rfl | decide +kernel)
    (case X1g => k_is)
    (case X1k => k_is)
    (case X1d => k_is)
    (case X1a => k_is)
    (case X1m => first | rfl | k_is | kernel_rfl | decide +kernel)
    (case X1v => first | rfl | k_is | kernel_rfl | decide +kernel)
    (case X1t => first | rfl | k_is | kernel_rfl | decide +kernel)
    (case X1_0 => first | rfl | k_is | kernel_rfl | decide +kernel)
    (case X1_1 => first | rfl | k_is | kernel_rfl | decide +kernel)
    (case X1_2 => first | rfl | k_is | kernel_rfl | decide +kernel)
    (case X1_3 => first | rfl | k_is | kernel_rfl | decide +kernel)
    (case X1_4 => first | rfl | k_is | kernel_rfl | decide +kernel)
    (case X1_5 => first | rfl | k_is | kernel_rfl | decide +kernel)
    (case X2g => k_is)
    (case X2k => k_is)
    (case X2d => k_is)
    (case X2a => k_is)
    (case X2m => first | rfl | k_is | kernel_rfl | decide +kernel)
    (case X2v => first | rfl | k_is | kernel_rfl | decide +kernel)
    (case X2t => first | rfl | k_is | kernel_rfl | decide +kernel)
    (case X2_0 => first | rfl | k_is | kernel_rfl | decide +kernel)
    (case X2_1 => first | rfl | k_is | kernel_rfl | decide +kernel)
    (case X2_2 => first | rfl | k_is | kernel_rfl | decide +kernel)
    (case X2_3 => first | rfl | k_is | kernel_rfl | decide +kernel)
    (case X2_4 => first | rfl | k_is | kernel_rfl | decide +kernel)
    (case X2_5 => first | rfl | k_is | kernel_rfl | decide +kernel)
    (case X3g => k_is)
    (case X3k => k_is)
    (case X3d => k_is)
    (case X3a => k_is)
    (case X3m => first | rfl | k_is | kernel_rfl | decide +kernel)
    (case X3v => first | rfl | k_is | kernel_rfl | decide +kernel)
    (case X3t => first | rfl | k_is | kernel_rfl | decide +kernel)
    (case X3_0 => first | rfl | k_is | kernel_rfl | decide +kernel)
    (case X3_1 => first | rfl | k_is | kernel_rfl | decide +kernel)
    (case X3_2 => first | rfl | k_is | kernel_rfl | decide +kernel)
    (case X3_3 => first | rfl | k_is | kernel_rfl | decide +kernel)
    (case X3_4 => first | rfl | k_is | kernel_rfl | decide +kernel)
    (case X3_5 => first | rfl | k_is | kernel_rfl | decide +kernel)
    (case X4g => k_is)
    (case X4k => k_is)
    (case X4d => k_is)
    (case X4a => k_is)
    (case X4m => first | rfl | k_is | kernel_rfl | decide +kernel)
    (case X4v => first | rfl | k_is | kernel_rfl | decide +kernel)
    (case X4t => first | rfl | k_is | kernel_rfl | decide +kernel)
    (case X4_0 => first | rfl | k_is | kernel_rfl | decide +kernel)
    (case X4_1 => first | rfl | k_is | kernel_rfl | decide +kernel)
    (case X4_2 => first | rfl | k_is | kernel_rfl | decide +kernel)
    (case X4_3 => first | rfl | k_is | kernel_rfl | decide +kernel)
    (case X4_4 => first | rfl | k_is | kernel_rfl | decide +kernel)
    (case X4_5 => first | rfl | k_is | kernel_rfl | decide +kernel)
    (case X5g => k_is)
    (case X5k => k_is)
    (case X5d => k_is)
    (case X5a => k_is)
    (case X5m => first | rfl | k_is | kernel_rfl | decide +kernel)
    (case X5v => first | rfl | k_is | kernel_rfl | decide +kernel)
    (case X5t => first | rfl | k_is | kernel_rfl | decide +kernel)
    (case X5_0 => first | rfl | k_is | kernel_rfl | decide +kernel)
    (case X5_1 => first | rfl | k_is | kernel_rfl | decide +kernel)
    (case X5_2 => first | rfl | k_is | kernel_rfl | decide +kernel)
    (case X5_3 => first | rfl | k_is | kernel_rfl | decide +kernel)
    (case X5_4 => first | rfl | k_is | kernel_rfl | decide +kernel)
    (case X5_5 => first | rfl | k_is | kernel_rfl | decide +kernel)
    (case Xzn => first | rfl | k_is | kernel_rfl | decide +kernel)
    (case Xzt => first | rfl | k_is | kernel_rfl | decide +kernel)
    (case z_ValueError => k_is)
    (case S0_0 => first | rfl | k_is)
    (case S0_1 => first | rfl | k_is)
    (case S0_2 => first | rfl | k_is)
    (case S0_3 => first | rfl | k_is)
    (case S0_4 => first | rfl | k_is)
    (case S0_5 => first | rfl | k_is)
    (case S1_0 => first | rfl | k_is)
    (case S1_1 => first | rfl | k_is)
    (case S1_2 => first | rfl | k_is)
    (case S1_3 => first | rfl | k_is)
    (case S1_4 => first | rfl | k_is)
    (case S1_5 => first | rfl | k_is)
    (case S2_0 => first | rfl | k_is)
    (case S2_1 => first | rfl | k_is)
    (case S2_2 => first | rfl | k_is)
    (case S2_3 => first | rfl | k_is)
    (case S2_4 => first | rfl | k_is)
    (case S2_5 => first | rfl | k_is)
    (case S3_0 => first | rfl | k_is)
    (case S3_1 => first | rfl | k_is)
    (case S3_2 => first | rfl | k_is)
    (case S3_3 => first | rfl | k_is)
    (case S3_4 => first | rfl | k_is)
    (case S3_5 => first | rfl | k_is)
    (case S4_0 => first | rfl | k_is)
    (case S4_1 => first | rfl | k_is)
    (case S4_2 => first | rfl | k_is)
    (case S4_3 => first | rfl | k_is)
    (case S4_4 => first | rfl | k_is)
    (case S4_5 => first | rfl | k_is)
    (case S5_0 => first | rfl | k_is)
    (case S5_1 => first | rfl | k_is)
    (case S5_2 => first | rfl | k_is)
    (case S5_3 => first | rfl | k_is)
    (case S5_4 => first | rfl | k_is)
    (case S5_5 => first | rfl | k_is)
    (case al => k_is)
    (case ll => k_is)
    (case lcd => k_is)
    (case lc => k_is)
    (case dcb => first | rfl | k_is)
    (case vlaw => first | rfl | k_is)
    (case chd => first | kernel_rfl | k_is)
    (case nP => first | kernel_rfl | k_is)
    (case Nl_1 => decide)
    (case Nl_2 => decide)
    (case Nl_3 => decide)
    (case Nl_5 => decide)
    (case Nl_19 => decide)
    (case N1_l => decide)
    (case N1_2 => decide)
    (case N1_3 => decide)
    (case N1_5 => decide)
    (case N1_19 => decide)
    (case N2_l => decide)
    (case N2_1 => decide)
    (case N2_3 => decide)
    (case N2_5 => decide)
    (case N2_19 => decide)
    (case N3_l => decide)
    (case N3_1 => decide)
    (case N3_2 => decide)
    (case N3_5 => decide)
    (case N3_19 => decide)
    (case N5_l => decide)
    (case N5_1 => decide)
    (case N5_2 => decide)
    (case N5_3 => decide)
    (case N5_19 => decide)
    (case N19_l => decide)
    (case N19_1 => decide)
    (case N19_2 => decide)
    (case N19_3 => decide)
    (case N19_5 => decide)
