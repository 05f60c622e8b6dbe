import PyProof.Rows.All
import Wide.All
import OpenK.AllK
import Wide.FinOn
import KE.KStateDown
import HandS.ForMost
import HandS.HeadHook2
import HandS.Defaults
import HandS.CallLocal
import HandS.MakeKwOnly
import HandS.More
import HandS.List
import HandS.IsInst
import HandS.Style
import HandS.Base
import HandS.Call
import HandS.Ends
import HandS.Words
import HandS.WordsExc
import HandS.Head0
import HandS.Head1
import HandS.Head2
import HandS.HeadEnd
import HandS.HeadHook1
import PySem.Challenge.RW_plinth_k39_seed_reads_digits
set_option Elab.async false
set_option linter.all false
set_option maxRecDepth 100000
set_option maxHeartbeats 0
/-! MrlD: the plain side. Data trees D, slot values M, cells, and the words' types. No program in sight. -/
namespace PP
open PySem
/-- a dict's key: a number or a text -/
abbrev DK := Sum Int Str
inductive D where
  | non | bl (b : Bool) | int (i : Int) | str (x : Str) | ty (n : String) | glo (x : Str)
  | tup (ds : List D) | lst (ds : List D)
  /-- dicts: keyed by numbers or texts; by tuples of them -/
  | dic (kvs : List (Sum Int Str × D)) | dit (kvs : List (List (Sum Int Str) × D))
  /-- the script; a written tuple or list: read alone -/
  | scr (ds : List D) | sct (ds : List D)
inductive M where
  | dat (d : D) | ref (i : Nat)
inductive Cell where
  | lst (ds : List D) | lsm (ms : List M) | dic (kvs : List (DK × D)) | dit (kvs : List (List DK × D)) | rcd (kvs : List (DK × M)) | obj (c : Str) (fs : List (Str × M)) | frz (d : D)
def Cell.live : Cell → Bool
  | .frz _ => false
  | _ => true
abbrev Sl := List (Option M)
abbrev Sto := List Cell
abbrev WE := Sl → Sto → (M → Sto → Prop) → Prop
abbrev WT := Sl → Sto → (Bool → Sto → Prop) → Prop
abbrev WA := Sl → Sto → (List M → Sto → Prop) → Prop
structure WEnds where
  nx : Sl → Sto → Prop
  rt : M → Sto → Prop
  bk : Sl → Sto → Prop := fun _ _ => False
  ct : Sl → Sto → Prop := fun _ _ => False
abbrev WS := WEnds → Sl → Sto → Prop
/-- a def's contract: arguments, the cells that it may touch, what is wanted -/
abbrev Ct := List M → Sto → (M → Sto → Prop) → Prop
end PP

/-! MrlW: the words: what an expression or a statement asks and does, over data trees and cells. -/
namespace PP
open PySem
abbrev LINE : Nat := 16777216
def asD : M → Option D
  | .dat d => some d
  | .ref _ => none
@[simp] def asDs : List M → Option (List D)
  | [] => some []
  | .dat d :: ms => match asDs ms with
    | some ds => some (d :: ds)
    | none => none
  | .ref _ :: _ => none
/-- a list that may be read; one that stands by itself -/
def listOf (st : Sto) : M → Option (List D)
  | .dat (.lst ds) => some ds
  | .dat (.scr ds) => some ds
  | .ref i => match st[i]? with
    | some (.lst ds) => some ds
    | some (.frz (.lst ds)) => some ds
    | _ => none
  | _ => none
def lstX (st : Sto) : M → Option (List D)
  | .dat (.lst ds) => some ds
  | .ref i => match st[i]? with
    | some (.lst ds) => some ds
    | some (.frz (.lst ds)) => some ds
    | _ => none
  | _ => none
def tupOf : M → Option (List D)
  | .dat (.tup ds) => some ds
  | .dat (.sct ds) => some ds
  | _ => none
def dicOf (st : Sto) : M → Option (List (DK × D))
  | .dat (.dic ds) => some ds
  | .ref i => match st[i]? with
    | some (.dic ds) => some ds
    | some (.frz (.dic ds)) => some ds
    | _ => none
  | _ => none
def ditOf (st : Sto) : M → Option (List (List DK × D))
  | .dat (.dit ds) => some ds
  | .ref i => match st[i]? with
    | some (.dit ds) => some ds
    | some (.frz (.dit ds)) => some ds
    | _ => none
  | _ => none
/-! ### keys, dicts as lists of pairs -/
@[simp] def dkey : D → Option DK
  | .int i => some (.inl i)
  | .str x => some (.inr x)
  | _ => none
def dkeys : List D → Option (List DK)
  | [] => some []
  | d :: ds => match dkey d, dkeys ds with
    | some k, some ks => some (k :: ks)
    | _, _ => none
@[simp] def tkey : D → Option (List DK)
  | .tup ds => dkeys ds
  | _ => none
def getP {κ α : Type} [DecidableEq κ] (kvs : List (κ × α)) (k : κ) : Option α := (kvs.find? fun kv => decide (kv.1 = k)).map (·.2)
def putP {κ α : Type} [DecidableEq κ] (kvs : List (κ × α)) (k : κ) (v : α) : List (κ × α) :=
  if (kvs.any fun kv => decide (kv.1 = k)) = true then kvs.map (fun kv => if kv.1 = k then (kv.1, v) else kv) else kvs ++ [(k, v)]
def dropP {κ α : Type} [DecidableEq κ] (kvs : List (κ × α)) (k : κ) : List (κ × α) := kvs.filter fun kv => decide (kv.1 ≠ k)
/-- what the dict x holds at y -/
@[simp] def getD? (st : Sto) (x y : M) : Option (Option D) := match dicOf st x with
  | some kvs => match y with
    | .dat d => (dkey d).map fun k => getP kvs k
    | _ => none
  | none => match ditOf st x with
    | some kvs => match y with
      | .dat d => (tkey d).map fun k => getP kvs k
      | _ => none
    | none => none
@[simp] def fIxD (st : Sto) (x y : M) : Option D := match getD? st x y with
  | some (some d) => some d
  | _ => none
@[simp] def fInD (neg : Bool) (st : Sto) (y x : M) : Option D := match getD? st x y with
  | some o => some (.bl (if neg then !o.isSome else o.isSome))
  | none => none
/-! ### expressions -/
@[simp] def wVar (i : Nat) : WE := fun ds st Q => ∃ m, ds[i]? = some (some m) ∧ Q m st
@[simp] def wC (d : D) : WE := fun _ st Q => Q (.dat d) st
@[simp] def wB (f : Sto → M → M → Option D) (a b : WE) : WE := fun ds st Q => a ds st fun x st1 => b ds st1 fun y st2 => ∃ d, f st2 x y = some d ∧ Q (.dat d) st2
@[simp] def wU (f : Sto → M → Option D) (a : WE) : WE := fun ds st Q => a ds st fun x st1 => ∃ d, f st1 x = some d ∧ Q (.dat d) st1
/-- one way or the other, told ahead -/
@[simp] def wOr (a b : WE) : WE := fun ds st Q => a ds st Q ∨ b ds st Q
@[simp] def waNil : WA := fun _ st Q => Q [] st
@[simp] def waCons (a : WE) (r : WA) : WA := fun ds st Q => a ds st fun x st1 => r ds st1 fun xs st2 => Q (x :: xs) st2
@[simp] def wTup (a : WA) : WE := fun ds st Q => a ds st fun ms st1 => ms.length ≤ LINE ∧ ∃ es, asDs ms = some es ∧ Q (.dat (.tup es)) st1
/-- a new list: frozen, or a cell -/
@[simp] def newL (cell : Bool) (xs : List D) (st : Sto) (Q : M → Sto → Prop) : Prop := match cell with
  | true => Q (.ref st.length) (st ++ [.lst xs])
  | false => Q (.dat (.lst xs)) st
@[simp] def wLst (cell : Bool) (a : WA) : WE := fun ds st Q => a ds st fun ms st1 => ms.length ≤ LINE ∧ ∃ es, asDs ms = some es ∧ newL cell es st1 Q
/-- two operands, a new list -/
@[simp] def wBL (cell : Bool) (f : Sto → M → M → Option (List D)) (a b : WE) : WE := fun ds st Q => a ds st fun x st1 => b ds st1 fun y st2 => ∃ es, f st2 x y = some es ∧ newL cell es st2 Q
@[simp] def wFrz (a : WE) : WE := fun ds st Q => a ds st fun x st1 => ∃ i, x = .ref i ∧ ((∃ xs, st1[i]? = some (.lst xs) ∧ Q (.dat (.lst xs)) (st1.set i (.frz (.lst xs)))) ∨ (∃ kvs, st1[i]? = some (.dic kvs) ∧ Q (.dat (.dic kvs)) (st1.set i (.frz (.dic kvs)))) ∨ ∃ kvs, st1[i]? = some (.dit kvs) ∧ Q (.dat (.dit kvs)) (st1.set i (.frz (.dit kvs))))
/-! operators -/
@[simp] def fOr (f f' : Sto → M → M → Option D) : Sto → M → M → Option D := fun st x y => match f st x y with
  | some d => some d
  | none => f' st x y
@[simp] def fAdd : Sto → M → M → Option D
  | _, .dat (.int i), .dat (.int j) => some (.int (i + j))
  | _, .dat (.str x), .dat (.str y) => if x.length + y.length ≤ LINE then some (.str (x ++ y)) else none
  | _, _, _ => none
@[simp] def fAddI : Sto → M → M → Option D
  | _, .dat (.int i), .dat (.int j) => some (.int (i + j))
  | _, _, _ => none
@[simp] def fCat (st : Sto) (x y : M) : Option (List D) := match lstX st x, lstX st y with
  | some xs, some ys => if xs.length + ys.length ≤ LINE then some (xs ++ ys) else none
  | _, _ => none
@[simp] def fRep (st : Sto) (x y : M) : Option (List D) := match lstX st x, y with
  | some xs, .dat (.int k) => if decide (-9223372036854775808 ≤ k) && decide (k < 9223372036854775808) && decide (xs.length * k.toNat ≤ LINE) then some (List.replicate k.toNat xs).flatten else none
  | _, _ => none
@[simp] def fSub : Sto → M → M → Option D
  | _, .dat (.int i), .dat (.int j) => some (.int (i - j))
  | _, _, _ => none
def small64 (i : Int) : Bool := decide (-18446744073709551616 < i) && decide (i < 18446744073709551616)
@[simp] def fMul : Sto → M → M → Option D
  | _, .dat (.int i), .dat (.int j) => if small64 i || small64 j then some (.int (i * j)) else none
  | _, _, _ => none
@[simp] def fDiv : Sto → M → M → Option D
  | _, .dat (.int i), .dat (.int j) => if decide (0 < j) && decide (j < 1073741824) then some (.int (i / j)) else none
  | _, _, _ => none
@[simp] def fMod : Sto → M → M → Option D
  | _, .dat (.int i), .dat (.int j) => if decide (0 < j) then some (.int (i % j)) else none
  | _, _, _ => none
def fPow : Sto → M → M → Option D
  | _, .dat (.int i), .dat (.int j) => if decide (0 ≤ j) && decide (j ≤ 1000000) && small64 i then some (.int (i ^ j.toNat)) else none
  | _, _, _ => none
@[simp] def fNeg : Sto → M → Option D
  | _, .dat (.int i) => some (.int (-i))
  | _, _ => none
@[simp] def fLt : Sto → M → M → Option D
  | _, .dat (.int i), .dat (.int j) => some (.bl (decide (i < j)))
  | _, _, _ => none
@[simp] def fLe : Sto → M → M → Option D
  | _, .dat (.int i), .dat (.int j) => some (.bl (decide (i ≤ j)))
  | _, _, _ => none
@[simp] def fGt : Sto → M → M → Option D
  | _, .dat (.int i), .dat (.int j) => some (.bl (decide (j < i)))
  | _, _, _ => none
@[simp] def fGe : Sto → M → M → Option D
  | _, .dat (.int i), .dat (.int j) => some (.bl (decide (j ≤ i)))
  | _, _, _ => none
/-- == of scalars -/
def eqS : D → D → Option Bool
  | .int i, .int j => some (decide (i = j))
  | .bl i, .bl j => some (decide (i = j))
  | .str i, .str j => some (decide (i = j))
  | .non, .non => some true
  | .non, .int _ => some false | .int _, .non => some false
  | .non, .bl _ => some false | .bl _, .non => some false
  | .non, .str _ => some false | .str _, .non => some false
  | .int _, .str _ => some false | .str _, .int _ => some false
  | .bl _, .str _ => some false | .str _, .bl _ => some false
  | _, _ => none
mutual
/-- == of data at any depth -/
def eqD : D → D → Bool
  | .non, .non => true
  | .bl a, .bl b => a == b
  | .bl a, .int j => (if a then 1 else 0) == j
  | .int i, .bl b => i == (if b then 1 else 0)
  | .int i, .int j => i == j
  | .str x, .str y => x == y
  | .lst xs, .lst ys => eqDs xs ys
  | .tup xs, .tup ys => eqDs xs ys
  | _, _ => false
def eqDs : List D → List D → Bool
  | [], [] => true
  | x :: xs, y :: ys => eqD x y && eqDs xs ys
  | _, _ => false
end
def strOkB (x : Str) : Bool := decide (x.length ≤ LINE) && x.cps.toList.all fun c => decide (c < 128)
mutual
/-- data that deep == takes: how deep it is, where it is plain -/
def depD : D → Option Nat
  | .non => some 0
  | .bl _ => some 0
  | .int _ => some 0
  | .str x => if strOkB x then some 0 else none
  | .lst xs => (depDs xs).map (· + 1)
  | .tup xs => (depDs xs).map (· + 1)
  | _ => none
def depDs : List D → Option Nat
  | [] => some 0
  | x :: xs => match depD x, depDs xs with
    | some a, some b => some (max a b)
    | _, _ => none
end
def shpD (d : D) : Bool := match depD d with
  | some n => decide (n ≤ 64)
  | none => false
/-- a value as data -/
def val (st : Sto) : M → Option D
  | .dat d => some d
  | .ref i => match st[i]? with
    | some (.lst ds) => some (.lst ds)
    | some (.dic ds) => some (.dic ds)
    | some (.dit ds) => some (.dit ds)
    | some (.frz d) => some d
    | _ => none
def fEqS : Sto → M → M → Option D
  | _, .dat a, .dat b => (eqS a b).map D.bl
  | _, _, _ => none
def fEqD (st : Sto) (x y : M) : Option D := match val st x, val st y with
  | some a, some b => if shpD a && shpD b then some (.bl (eqD a b)) else none
  | _, _ => none
def fNeS : Sto → M → M → Option D
  | _, .dat a, .dat b => (eqS a b).map fun b => D.bl (!b)
  | _, _, _ => none
def fNeD (st : Sto) (x y : M) : Option D := match val st x, val st y with
  | some a, some b => if shpD a && shpD b then some (.bl (!eqD a b)) else none
  | _, _ => none
def isNon : M → Bool
  | .dat .non => true
  | _ => false
/-- is None, is not None, is True -/
@[simp] def fIsN : Sto → M → M → Option D
  | _, x, .dat .non => some (.bl (isNon x))
  | _, _, _ => none
@[simp] def fNotN : Sto → M → M → Option D
  | _, x, .dat .non => some (.bl (!isNon x))
  | _, _, _ => none
@[simp] def fIsB : Sto → M → M → Option D
  | _, .dat (.bl a), .dat (.bl b) => some (.bl (a == b))
  | _, _, _ => none
@[simp] def fNotB : Sto → M → M → Option D
  | _, .dat (.bl a), .dat (.bl b) => some (.bl (!(a == b)))
  | _, _, _ => none
def flatD : D → Bool
  | .non => true
  | .bl _ => true
  | .int _ => true
  | .str _ => true
  | _ => false
@[simp] def seqOf (st : Sto) (m : M) : Option (List D) := match listOf st m with
  | some ds => some ds
  | none => tupOf m
def inD (x : D) (xs : List D) : Bool := xs.any fun y => eqD y x
@[simp] def fIn (neg : Bool) (st : Sto) (x y : M) : Option D := match asD x, seqOf st y with
  | some d, some ds => if flatD d && ds.all flatD then some (.bl (if neg then !inD d ds else inD d ds)) else none
  | _, _ => none
/-! places -/
def ixP (n : Nat) (i : Int) : Option Nat := if 0 ≤ i then (if i < n then some i.toNat else none) else if -(n : Int) ≤ i then some (i + n).toNat else none
def atP {α : Type} (xs : List α) (i : Int) : Option α := (ixP xs.length i).bind fun j => xs[j]?
@[simp] def fIxL (st : Sto) (x y : M) : Option D := match listOf st x, y with
  | some ds, .dat (.int i) => atP ds i
  | _, _ => none
@[simp] def fIxT (_ : Sto) (x y : M) : Option D := match tupOf x, y with
  | some ds, .dat (.int i) => atP ds i
  | _, _ => none
@[simp] def fIxS : Sto → M → M → Option D
  | _, .dat (.str z), .dat (.int i) => if z.length ≤ LINE then (atP z.cps.toList i).map fun c => .str ⟨#[c]⟩ else none
  | _, _, _ => none
def cutIx (n d : Nat) : Option Int → Nat
  | none => d
  | some v => if v < 0 then (v + (n : Int)).toNat else min v.toNat n
def cutP {α : Type} (xs : List α) (lo hi : Option Int) : List α := (xs.drop (cutIx xs.length 0 lo)).take (cutIx xs.length xs.length hi - cutIx xs.length 0 lo)
abbrev WO := Sl → Sto → (Option Int → Sto → Prop) → Prop
@[simp] def woNone : WO := fun _ st Q => Q none st
@[simp] def woSome (a : WE) : WO := fun ds st Q => a ds st fun x st1 => ∃ i, x = .dat (.int i) ∧ Q (some i) st1
@[simp] def wSlL (cell : Bool) (a : WE) (lo hi : WO) : WE := fun ds st Q => a ds st fun x st1 => lo ds st1 fun l st2 => hi ds st2 fun h st3 => ∃ xs, listOf st3 x = some xs ∧ newL cell (cutP xs l h) st3 Q
/-! ### tests -/
@[simp] def wtV (a : WE) : WT := fun ds st Q => a ds st fun x st1 => ∃ b, x = .dat (.bl b) ∧ Q b st1
def truM (st : Sto) : M → Option Bool
  | .dat .non => some false
  | .dat (.bl b) => some b
  | .dat (.int i) => some (i != 0)
  | .dat (.str y) => if y.length ≤ LINE then some ((y.length : Int) != 0) else none
  | .dat (.lst xs) => some !xs.isEmpty
  | .dat (.tup xs) => some !xs.isEmpty
  | .ref i => match st[i]? with
    | some (.lst xs) => some !xs.isEmpty
    | some (.lsm xs) => some !xs.isEmpty
    | some (.frz (.lst xs)) => some !xs.isEmpty
    | _ => none
  | _ => none
@[simp] def wtTru (a : WE) : WT := fun ds st Q => a ds st fun x st1 => ∃ b, truM st1 x = some b ∧ Q b st1
@[simp] def wtAnd (a b : WT) : WT := fun ds st Q => a ds st fun c st1 => if c = true then b ds st1 Q else Q false st1
@[simp] def wtOr (a b : WT) : WT := fun ds st Q => a ds st fun c st1 => if c = true then Q true st1 else b ds st1 Q
@[simp] def wtNot (a : WT) : WT := fun ds st Q => a ds st fun c st1 => Q (!c) st1
@[simp] def wAndV (a b : WE) : WE := fun ds st Q => a ds st fun x st1 => ∃ c, x = .dat (.bl c) ∧ if c = true then b ds st1 Q else Q (.dat (.bl false)) st1
@[simp] def wOrV (a b : WE) : WE := fun ds st Q => a ds st fun x st1 => ∃ c, x = .dat (.bl c) ∧ if c = true then Q (.dat (.bl true)) st1 else b ds st1 Q
@[simp] def wNotV (a : WE) : WE := fun ds st Q => a ds st fun x st1 => ∃ c, x = .dat (.bl c) ∧ Q (.dat (.bl (!c))) st1
@[simp] def wIfE (t : WT) (a b : WE) : WE := fun ds st Q => t ds st fun c st1 => if c = true then a ds st1 Q else b ds st1 Q
/-- a op b op' c -/
@[simp] def wChain (f f' : Sto → M → M → Option D) (a b c : WE) : WE := fun ds st Q => a ds st fun x st1 => b ds st1 fun y st2 => ∃ k, f st2 x y = some (.bl k) ∧ if k = true then c ds st2 fun z st3 => ∃ d, f' st3 y z = some d ∧ Q (.dat d) st3 else Q (.dat (.bl false)) st2
/-! ### calls of built-ins -/
@[simp] def wCB (f : Sto → List M → Option D) (a : WA) : WE := fun ds st Q => a ds st fun ms st1 => ∃ d, f st1 ms = some d ∧ Q (.dat d) st1
@[simp] def wCBL (cell : Bool) (f : Sto → List M → Option (List D)) (a : WA) : WE := fun ds st Q => a ds st fun ms st1 => ∃ es, f st1 ms = some es ∧ newL cell es st1 Q
@[simp] def wCBT (f : Sto → List M → Option (List D)) (a : WA) : WE := fun ds st Q => a ds st fun ms st1 => ∃ es, f st1 ms = some es ∧ Q (.dat (.tup es)) st1
@[simp] def cTupL (st : Sto) : List M → Option (List D)
  | [m] => listOf st m
  | _ => none
def cLen (st : Sto) : List M → Option D
  | [.dat (.str z)] => if z.length ≤ LINE then some (.int z.length) else none
  | [m] => match seqOf st m with
    | some ds => some (.int ds.length)
    | none => none
  | _ => none
@[simp] def cInt (st : Sto) : List M → Option D
  | [.dat (.int i)] => some (.int i)
  | [.dat (.bl b)] => some (.int (if b then 1 else 0))
  | _ => none
@[simp] def cList (st : Sto) : List M → Option (List D)
  | [m] => seqOf st m
  | _ => none
def intsOf : List D → Option (List Int)
  | [] => some []
  | .int i :: r => match intsOf r with
    | some is => some (i :: is)
    | none => none
  | _ => none
/-! ### types, min, max -/
def tyM (st : Sto) : M → Option String
  | .dat .non => some "NoneType"
  | .dat (.bl _) => some "bool"
  | .dat (.int _) => some "int"
  | .dat (.str _) => some "str"
  | .dat (.tup _) => some "tuple"
  | .dat (.sct _) => some "tuple"
  | .dat (.lst _) => some "list"
  | .dat (.scr _) => some "list"
  | .dat (.dic _) => some "dict"
  | .ref i => match st[i]? with
    | some (.lst _) => some "list"
    | some (.lsm _) => some "list"
    | some (.dic _) => some "dict"
    | some (.frz (.lst _)) => some "list"
    | some (.frz (.dic _)) => some "dict"
    | _ => none
  | _ => none
def subTy (t n : String) : Option Bool := if n = "int" ∨ n = "bool" ∨ n = "str" ∨ n = "list" ∨ n = "tuple" ∨ n = "dict" then some (decide (t = n) || (decide (t = "bool") && decide (n = "int"))) else none
@[simp] def cIsi (st : Sto) : List M → Option D
  | [m, .dat (.ty n)] => match tyM st m with
    | some t => (subTy t n).map D.bl
    | none => none
  | _ => none
def minOf : List Int → Int
  | [] => 0
  | [i] => i
  | i :: r => min i (minOf r)
def maxOf : List Int → Int
  | [] => 0
  | [i] => i
  | i :: r => max i (maxOf r)
def cMin (st : Sto) : List M → Option D
  | [.dat (.int i), .dat (.int j)] => some (.int (if j < i then j else i))
  | [m] => match listOf st m with
    | some ds => match intsOf ds with
      | some (i :: r) => some (.int (minOf (i :: r)))
      | _ => none
    | none => none
  | _ => none
def cMax (st : Sto) : List M → Option D
  | [.dat (.int i), .dat (.int j)] => some (.int (if j > i then j else i))
  | [m] => match listOf st m with
    | some ds => match intsOf ds with
      | some (i :: r) => some (.int (maxOf (i :: r)))
      | _ => none
    | none => none
  | _ => none
/-- the index of any kind -/
@[simp] def fIx : Sto → M → M → Option D := fOr fIxL (fOr fIxT (fOr fIxS fIxD))
@[simp] def fInA (neg : Bool) : Sto → M → M → Option D := fOr (fIn neg) (fInD neg)
def fEq : Sto → M → M → Option D := fOr fEqS fEqD
def fNe : Sto → M → M → Option D := fOr fNeS fNeD
@[simp] def fIs : Sto → M → M → Option D := fOr fIsN fIsB
@[simp] def fIsNot : Sto → M → M → Option D := fOr fNotN fNotB
/-! ### statements -/
@[simp] def wsNext : WS := fun W ds st => W.nx ds st
@[simp] def wsSeq (a b : WS) : WS := fun W ds st => a { W with nx := b W } ds st
@[simp] def wsBreak : WS := fun W ds st => W.bk ds st
@[simp] def wsCont : WS := fun W ds st => W.ct ds st
@[simp] def wsNever : WS := fun _ _ _ => False
@[simp] def wsDrop (a : WE) : WS := fun W ds st => a ds st fun _ st1 => W.nx ds st1
@[simp] def wsRet (a : WE) : WS := fun W ds st => a ds st W.rt
@[simp] def wsRetN : WS := fun W _ st => W.rt (.dat .non) st
@[simp] def wsIf (t : WT) (a b : WS) : WS := fun W ds st => t ds st fun c st1 => if c = true then a W ds st1 else b W ds st1
abbrev WG := M → Sl → Sto → (Sl → Sto → Prop) → Prop
@[simp] def wgName (i : Nat) : WG := fun m ds st Q => Q (ds.set i (some m)) st
@[simp] def wsAsg (a : WE) (g : WG) : WS := fun W ds st => a ds st fun m st1 => g m ds st1 W.nx
abbrev WGs := List M → Sl → Sto → (Sl → Sto → Prop) → Prop
@[simp] def wgsNil : WGs := fun ms ds st Q => ms = [] ∧ Q ds st
@[simp] def wgsCons (g : WG) (r : WGs) : WGs := fun ms ds st Q => match ms with
  | m :: rest => g m ds st fun ds1 st1 => r rest ds1 st1 Q
  | [] => False
@[simp] def wgTup (n : Nat) (r : WGs) : WG := fun m ds st Q => ∃ es, tupOf m = some es ∧ es.length = n ∧ r (es.map M.dat) ds st Q
@[simp] def wsAug (i : Nat) (f : Sto → M → M → Option D) (a : WE) : WS := fun W ds st => ∃ x, ds[i]? = some (some x) ∧ a ds st fun y st1 => ∃ d, f st1 x y = some d ∧ W.nx (ds.set i (some (.dat d))) st1
/-- what was learned may be forgotten: slots, cells laid last -/
def Forget (ds : Sl) (st : Sto) (ds' : Sl) (st' : Sto) : Prop := ds.length = ds'.length ∧ (∀ (i : Nat) m, ds'[i]? = some (some m) → ds[i]? = some (some m)) ∧ st' <+: st
def wsWhile (t : WT) (b : WS) : WS := fun W ds st => ∃ I : Nat → Sl → Sto → Prop, (∃ n, I n ds st) ∧ ∀ n ds st, I n ds st →
  t ds st fun c st1 => if c = true then b { W with nx := fun ds' st' => ∃ n', n' < n ∧ I n' ds' st', ct := fun ds' st' => ∃ n', n' < n ∧ I n' ds' st', bk := W.nx } ds st1 else W.nx ds st1
/-- what a loop walks: the items, what must stay true of the cells meanwhile -/
abbrev WI := Sl → Sto → (List M → (Sto → Prop) → Sto → Prop) → Prop
@[simp] def wiSeq (a : WE) : WI := fun ds st Q => a ds st fun m st1 => ∃ xs, seqOf st1 m = some xs ∧ Q (xs.map M.dat) (fun st' => seqOf st' m = some xs) st1
/-- a list that holds cells -/
@[simp] def wiLsm (a : WE) : WI := fun ds st Q => a ds st fun m st1 => ∃ i xs, m = .ref i ∧ st1[i]? = some (.lsm xs) ∧ Q xs (fun st' => st'[i]? = some (.lsm xs)) st1
@[simp] def wiLst (a : WE) : WI := fun ds st Q => a ds st fun m st1 => ∃ xs, listOf st1 m = some xs ∧ Q (xs.map M.dat) (fun st' => listOf st' m = some xs) st1
@[simp] def wiTup (a : WE) : WI := fun ds st Q => a ds st fun m st1 => ∃ xs, tupOf m = some xs ∧ Q (xs.map M.dat) (fun _ => True) st1
def bnd62 (i : Int) : Bool := decide (-4611686018427387904 ≤ i) && decide (i < 4611686018427387904)
/-- range(..): the first, the step, how many -/
def rng1 : List M → Option (Int × Int × Nat)
  | [.dat (.int hi)] => if bnd62 hi then some (0, 1, hi.toNat) else none
  | _ => none
def rng2 : List M → Option (Int × Int × Nat)
  | [.dat (.int lo), .dat (.int hi)] => if bnd62 lo && bnd62 hi then some (lo, 1, (hi - lo).toNat) else none
  | _ => none
def rng3 : List M → Option (Int × Int × Nat)
  | [.dat (.int lo), .dat (.int hi), .dat (.int c)] => if bnd62 lo && bnd62 hi && (decide (0 < c) && decide (c < 1048576)) then some (lo, c, (if lo < hi then (hi - lo - 1) / c + 1 else 0).toNat) else none
  | _ => none
def rngItems (lo c : Int) (n : Nat) : List M := (List.range n).map fun i => M.dat (.int (lo + (i : Nat) * c))
@[simp] def wiRng (f : List M → Option (Int × Int × Nat)) (a : WA) : WI := fun ds st Q => a ds st fun ms st1 => ∃ lo c n, f ms = some (lo, c, n) ∧ Q (rngItems lo c n) (fun _ => True) st1
def wsFor (i : WI) (g : WG) (b : WS) : WS := fun W ds st => i ds st fun xs stab st1 => ∃ I : List M → Sl → Sto → Prop, I [] ds st1 ∧
  (∀ pre x post ds' st', xs = pre ++ x :: post → I pre ds' st' → stab st' ∧ g x ds' st' fun ds2 st2 => b { W with nx := I (pre ++ [x]), ct := I (pre ++ [x]), bk := W.nx } ds2 st2) ∧ ∀ ds' st', I xs ds' st' → stab st' ∧ W.nx ds' st'
/-! ### cells laid last may be forgotten -/
def clM (n : Nat) : M → Bool
  | .dat _ => true
  | .ref i => decide (i < n)
def clC (n : Nat) : Cell → Bool
  | .lsm ms => ms.all (clM n)
  | .rcd kvs => kvs.all fun p => clM n p.2
  | .obj _ fs => fs.all fun p => clM n p.2
  | _ => true
def cutO (n : Nat) : Option M → Option M
  | some m => if clM n m then some m else none
  | none => none
def cutS (n : Nat) (ds : Sl) : Sl := ds.map (cutO n)
/-- the first n cells speak of no later one, or are as they were -/
def Keeps (st0 : Sto) (n : Nat) (st : Sto) : Prop := st0.length ≤ n ∧ ∀ i c, i < n → st[i]? = some c → clC n c = true ∨ st0[i]? = some c
def Cut (st0 : Sto) (P : Sl → Sto → Prop) : Sl → Sto → Prop := fun ds st => P ds st ∨ ∃ n, Keeps st0 n st ∧ P (cutS n ds) (st.take n)
def CutM (st0 : Sto) (P : M → Sto → Prop) : M → Sto → Prop := fun m st => P m st ∨ ∃ n, Keeps st0 n st ∧ clM n m = true ∧ P m (st.take n)
def wsCut (s : WS) : WS := fun W ds st => s { nx := Cut st W.nx, rt := CutM st W.rt, bk := Cut st W.bk, ct := Cut st W.ct } ds st
theorem CutM.drop {st0 st1 : Sto} {P : M → Sto → Prop} {d : D} (h : P (.dat d) st0) : CutM st0 P (.dat d) (st0 ++ st1) := by
  refine .inr ⟨st0.length, ⟨Nat.le_refl _, fun i c hi h => .inr ?_⟩, rfl, ?_⟩
  · rwa [List.getElem?_append_left hi] at h
  · rwa [List.take_left]
/-- .. but the first cell -/
theorem CutM.drop1 {st0 st1 : Sto} {c : Cell} {P : M → Sto → Prop} (hc : clC (st0.length + 1) c = true) (h : P (.ref st0.length) (st0 ++ [c])) : CutM st0 P (.ref st0.length) (st0 ++ c :: st1) := by
  refine .inr ⟨st0.length + 1, ⟨Nat.le_succ _, fun i c' hi h => ?_⟩, by simp [clM], ?_⟩
  · by_cases e : i < st0.length
    · rw [List.getElem?_append_left e] at h
      exact .inr h
    · have : i = st0.length := by omega
      subst this
      rw [List.getElem?_append_right (Nat.le_refl _), Nat.sub_self] at h
      cases h
      exact .inl hc
  · rw [show st0 ++ c :: st1 = (st0 ++ [c]) ++ st1 by simp, List.take_left' (by simp)]
    exact h
/-! ### list comprehensions: the new list is a cell -/
def wipeD (ds : Sl) : List Nat → Sl
  | [] => ds
  | v :: vs => (wipeD ds vs).set v none
def wLc (i : WI) (g : WG) (t : WT) (e : WE) (vs : List Nat) : WE := fun ds st Q => i ds st fun xs stab st1 => ∃ I : List M → Sto → Prop, I [] (st1 ++ [.lst []]) ∧
  (∀ pre x post st', xs = pre ++ x :: post → I pre st' → stab st' ∧ g x (wipeD ds vs) st' fun ds2 st2 => t ds2 st2 fun b st3 =>
    if b = true then e ds2 st3 fun m st4 => ∃ d acc, m = .dat d ∧ st4[st1.length]? = some (.lst acc) ∧ acc.length < LINE ∧ I (pre ++ [x]) (st4.set st1.length (.lst (acc ++ [d]))) else I (pre ++ [x]) st3) ∧
  ∀ st', I xs st' → stab st' ∧ Q (.ref st1.length) st'
@[simp] def wtT : WT := fun _ st Q => Q true st
/-! ### objects -/
def putF' (f : Str) (m : M) : List (Str × M) → List (Str × M)
  | [] => [(f, m)]
  | (g, n) :: r => if g = f then (f, m) :: r else (g, n) :: putF' f m r
@[simp] def wFld (c f : Str) (a : WE) : WE := fun ds st Q => a ds st fun x st1 => ∃ i fs m, x = .ref i ∧ st1[i]? = some (.obj c fs) ∧ fs.lookup f = some m ∧ Q m st1
@[simp] def wsFld (c f : Str) (o v : WE) : WS := fun W ds st => v ds st fun m st1 => o ds st1 fun x st2 => ∃ i fs, x = .ref i ∧ st2[i]? = some (.obj c fs) ∧ fs.length < 1000 ∧ W.nx ds (st2.set i (.obj c (putF' f m fs)))
@[simp] def wsFldAug (c f : Str) (g : Sto → M → M → Option D) (o v : WE) : WS := fun W ds st => o ds st fun x st1 => ∃ i fs m, x = .ref i ∧ st1[i]? = some (.obj c fs) ∧ fs.lookup f = some m ∧
  v ds st1 fun y st2 => ∃ d fs', g st2 m y = some d ∧ st2[i]? = some (.obj c fs') ∧ fs'.length < 1000 ∧ W.nx ds (st2.set i (.obj c (putF' f (.dat d) fs')))
/-! ### calls of one's own -/
def renM (φ : Nat → Nat) : M → M
  | .dat d => .dat d
  | .ref i => .ref (φ i)
def renC (φ : Nat → Nat) : Cell → Cell
  | .lsm ms => .lsm (ms.map (renM φ))
  | .rcd kvs => .rcd (kvs.map fun p => (p.1, renM φ p.2))
  | .obj c fs => .obj c (fs.map fun p => (p.1, renM φ p.2))
  | c => c
/-- the callee's i-th cell is the caller's js[i]; new cells lie behind the caller's n -/
def phi (js : List Nat) (n : Nat) (i : Nat) : Nat := match js[i]? with
  | some j => j
  | none => n + (i - js.length)
def merge (js : List Nat) (st : Sto) (st' : Sto) : Sto := ((js.zip st').foldl (fun acc p => acc.set p.1 (renC (phi js st.length) p.2)) st) ++ (st'.drop js.length).map (renC (phi js st.length))
/-- a call with a part of the cells: js names them (all live, none twice) -/
def CallL (C : Ct) (ms : List M) (st : Sto) (Q : M → Sto → Prop) : Prop := ∃ (js : List Nat) (ms' : List M) (st' : Sto), js.Nodup ∧ ms = ms'.map (renM (phi js st.length)) ∧ js.map (fun j => st[j]?) = st'.map (fun c => some (renC (phi js st.length) c)) ∧
  C ms' st' fun m st'' => Q (renM (phi js st.length) m) (merge js st st'')
/-- a call with all cells -/
@[simp] def CallW (C : Ct) (ms : List M) (st : Sto) (Q : M → Sto → Prop) : Prop := C ms st Q
def noF (m : Str) (fs : List (Str × M)) : Prop := fs.lookup m = none
/-- l: with a part of the cells -/
@[simp] def CallX (l : Bool) (C : Ct) (ms : List M) (st : Sto) (Q : M → Sto → Prop) : Prop := match l with
  | true => CallL C ms st Q
  | false => CallW C ms st Q
/-- dms: the defaults that fill up -/
@[simp] def wCall (l : Bool) (C : Ct) (dms : List M) (a : WA) : WE := fun ds st Q => a ds st fun ms st1 => CallX l C (ms ++ dms) st1 Q
/-- keywords: gm puts all in the parameters' order -/
@[simp] def wCallK (l : Bool) (C : Ct) (n kl : Nat) (gm : List M → List M → List M) (a k : WA) : WE := fun ds st Q => a ds st fun ms st1 => k ds st1 fun zs st2 => ms.length = n ∧ zs.length = kl ∧ (CallX l C (gm ms zs) st2 Q)
@[simp] def wMeth (l : Bool) (c m : Str) (C : Ct) (dms : List M) (o : WE) (a : WA) : WE := fun ds st Q => o ds st fun x st1 => ∃ i fs, x = .ref i ∧ st1[i]? = some (.obj c fs) ∧ noF m fs ∧ a ds st1 fun ms st2 => CallX l C (x :: (ms ++ dms)) st2 Q
@[simp] def wMethK (l : Bool) (c m : Str) (C : Ct) (n kl : Nat) (gm : List M → List M → List M) (o : WE) (a k : WA) : WE := fun ds st Q => o ds st fun x st1 => ∃ i fs, x = .ref i ∧ st1[i]? = some (.obj c fs) ∧ noF m fs ∧ a ds st1 fun ms st2 => k ds st2 fun zs st3 => ms.length = n ∧ zs.length = kl ∧ (CallX l C (gm (x :: ms) zs) st3 Q)
@[simp] def wMake (l : Bool) (c : Str) (C : Ct) (dms : List M) (a : WA) : WE := fun ds st Q => a ds st fun ms st1 => CallX l C (.ref st1.length :: (ms ++ dms)) (st1 ++ [.obj c []]) fun m st2 => m = .dat .non ∧ Q (.ref st1.length) st2
/-- C(e, .., k = v, ..): n positional values, l keywords -/
@[simp] def wMakeK (l : Bool) (c : Str) (C : Ct) (n kl : Nat) (gm : List M → List M → List M) (a k : WA) : WE := fun ds st Q => a ds st fun ms st1 => k ds st1 fun zs st2 => ms.length = n ∧ zs.length = kl ∧ CallX l C (gm (.ref st2.length :: ms) zs) (st2 ++ [.obj c []]) fun m st3 => m = .dat .non ∧ Q (.ref st2.length) st3
/-- a local that holds one of the module's defs: S gives its contract by its name -/
@[simp] def wCallV (l : Bool) (i : Nat) (S : Str → Option Ct) (a : WA) : WE := fun ds st Q => ∃ x C, ds[i]? = some (some (.dat (.glo x))) ∧ S x = some C ∧ a ds st fun ms st1 => CallX l C ms st1 Q
/-! ### dicts -/
@[simp] def wDNew (t : Bool) : WE := fun _ st Q => Q (.ref st.length) (st ++ [if t then .dit [] else .dic []])
@[simp] def isDic (st : Sto) (m : M) : Bool := (dicOf st m).isSome || (ditOf st m).isSome
def orM (o : Option D) (z : M) : M := match o with
  | some d => .dat d
  | none => z
@[simp] def wDGet1 (d k : WE) : WE := fun ds st Q => d ds st fun m st1 => isDic st1 m = true ∧ k ds st1 fun y st2 => ∃ o, getD? st2 m y = some o ∧ Q (orM o (.dat .non)) st2
@[simp] def wDGet2 (d k x : WE) : WE := fun ds st Q => d ds st fun m st1 => isDic st1 m = true ∧ k ds st1 fun y st2 => x ds st2 fun z st3 => ∃ o, getD? st3 m y = some o ∧ Q (orM o z) st3
/-- the store behind m[y] = d -/
@[simp] def putD? (st : Sto) (m y : M) (d : D) : Option Sto := match m, y with
  | .ref i, .dat k => match st[i]? with
    | some (.dic kvs) => match dkey k with
      | some ky => if kvs.length < LINE then some (st.set i (.dic (putP kvs ky d))) else none
      | none => none
    | some (.dit kvs) => match tkey k with
      | some ky => if kvs.length < LINE then some (st.set i (.dit (putP kvs ky d))) else none
      | none => none
    | _ => none
  | _, _ => none
@[simp] def wsDPut (d k v : WE) : WS := fun W ds st => v ds st fun vm st1 => d ds st1 fun m st2 => k ds st2 fun y st3 => ∃ dv st4, vm = .dat dv ∧ putD? st3 m y dv = some st4 ∧ W.nx ds st4
@[simp] def wsDAug (f : Sto → M → M → Option D) (d k v : WE) : WS := fun W ds st => d ds st fun m st1 => k ds st1 fun y st2 => ∃ x, getD? st2 m y = some (some x) ∧ v ds st2 fun z st3 => ∃ e st4, f st3 (.dat x) z = some e ∧ putD? st3 m y e = some st4 ∧ W.nx ds st4
/-- a written dict, keyed by numbers -/
@[simp] def fInG (n : Str) (T : List (Int × D)) (neg : Bool) : Sto → M → M → Option D
  | _, .dat (.int i), .dat (.glo x) => if x = n then some (.bl (if neg then !(getP T i).isSome else (getP T i).isSome)) else none
  | _, _, _ => none
@[simp] def fIxG (n : Str) (T : List (Int × D)) : Sto → M → M → Option D
  | _, .dat (.glo x), .dat (.int i) => if x = n then getP T i else none
  | _, _, _ => none
/-- xs[i] = v -/
@[simp] def putL? (st : Sto) (m y : M) (d : D) : Option Sto := match m, y with
  | .ref i, .dat (.int j) => match st[i]? with
    | some (.lst xs) => match ixP xs.length j with
      | some n => some (st.set i (.lst (xs.set n d)))
      | none => none
    | _ => none
  | _, _ => none
@[simp] def wsLPut (d k v : WE) : WS := fun W ds st => v ds st fun vm st1 => d ds st1 fun m st2 => k ds st2 fun y st3 => ∃ dv st4, vm = .dat dv ∧ putL? st3 m y dv = some st4 ∧ W.nx ds st4
/-! ### how the readings are computed -/
@[simp] theorem listOf_0 (st : Sto) (ds : List D) : listOf st (.dat (.lst ds)) = some ds := rfl
@[simp] theorem listOf_1 (st : Sto) (ds : List D) : listOf st (.dat (.scr ds)) = some ds := rfl
@[simp] theorem listOf_2 (st : Sto) (ds : List D) : listOf st (.dat (.tup ds)) = none := rfl
@[simp] theorem listOf_3 (st : Sto) (ds : List D) : listOf st (.dat (.sct ds)) = none := rfl
@[simp] theorem listOf_4 (st : Sto) (i : Nat) : listOf st (.ref i) = (match st[i]? with | some (.lst ds) => some ds | some (.frz (.lst ds)) => some ds | _ => none) := rfl
@[simp] theorem listOf_5 (st : Sto) : listOf st (.dat .non) = none := rfl
@[simp] theorem listOf_6 (st : Sto) (b : Bool) : listOf st (.dat (.bl b)) = none := rfl
@[simp] theorem listOf_7 (st : Sto) (n : Int) : listOf st (.dat (.int n)) = none := rfl
@[simp] theorem listOf_8 (st : Sto) (x : Str) : listOf st (.dat (.str x)) = none := rfl
@[simp] theorem listOf_9 (st : Sto) (kvs : List (DK × D)) : listOf st (.dat (.dic kvs)) = none := rfl
@[simp] theorem listOf_10 (st : Sto) (kvs : List (List DK × D)) : listOf st (.dat (.dit kvs)) = none := rfl
@[simp] theorem listOf_11 (st : Sto) (x : Str) : listOf st (.dat (.glo x)) = none := rfl
@[simp] theorem listOf_12 (st : Sto) (x : String) : listOf st (.dat (.ty x)) = none := rfl
@[simp] theorem lstX_0 (st : Sto) (ds : List D) : lstX st (.dat (.lst ds)) = some ds := rfl
@[simp] theorem lstX_1 (st : Sto) (ds : List D) : lstX st (.dat (.scr ds)) = none := rfl
@[simp] theorem lstX_2 (st : Sto) (ds : List D) : lstX st (.dat (.tup ds)) = none := rfl
@[simp] theorem lstX_3 (st : Sto) (ds : List D) : lstX st (.dat (.sct ds)) = none := rfl
@[simp] theorem lstX_4 (st : Sto) (i : Nat) : lstX st (.ref i) = (match st[i]? with | some (.lst ds) => some ds | some (.frz (.lst ds)) => some ds | _ => none) := rfl
@[simp] theorem lstX_5 (st : Sto) : lstX st (.dat .non) = none := rfl
@[simp] theorem lstX_6 (st : Sto) (b : Bool) : lstX st (.dat (.bl b)) = none := rfl
@[simp] theorem lstX_7 (st : Sto) (n : Int) : lstX st (.dat (.int n)) = none := rfl
@[simp] theorem lstX_8 (st : Sto) (x : Str) : lstX st (.dat (.str x)) = none := rfl
@[simp] theorem lstX_9 (st : Sto) (kvs : List (DK × D)) : lstX st (.dat (.dic kvs)) = none := rfl
@[simp] theorem lstX_10 (st : Sto) (kvs : List (List DK × D)) : lstX st (.dat (.dit kvs)) = none := rfl
@[simp] theorem lstX_11 (st : Sto) (x : Str) : lstX st (.dat (.glo x)) = none := rfl
@[simp] theorem lstX_12 (st : Sto) (x : String) : lstX st (.dat (.ty x)) = none := rfl
@[simp] theorem tupOf_0  (ds : List D) : tupOf (.dat (.lst ds)) = none := rfl
@[simp] theorem tupOf_1  (ds : List D) : tupOf (.dat (.scr ds)) = none := rfl
@[simp] theorem tupOf_2  (ds : List D) : tupOf (.dat (.tup ds)) = some ds := rfl
@[simp] theorem tupOf_3  (ds : List D) : tupOf (.dat (.sct ds)) = some ds := rfl
@[simp] theorem tupOf_4  (i : Nat) : tupOf (.ref i) = none := rfl
@[simp] theorem tupOf_5  : tupOf (.dat .non) = none := rfl
@[simp] theorem tupOf_6  (b : Bool) : tupOf (.dat (.bl b)) = none := rfl
@[simp] theorem tupOf_7  (n : Int) : tupOf (.dat (.int n)) = none := rfl
@[simp] theorem tupOf_8  (x : Str) : tupOf (.dat (.str x)) = none := rfl
@[simp] theorem tupOf_9  (kvs : List (DK × D)) : tupOf (.dat (.dic kvs)) = none := rfl
@[simp] theorem tupOf_10  (kvs : List (List DK × D)) : tupOf (.dat (.dit kvs)) = none := rfl
@[simp] theorem tupOf_11  (x : Str) : tupOf (.dat (.glo x)) = none := rfl
@[simp] theorem tupOf_12  (x : String) : tupOf (.dat (.ty x)) = none := rfl
@[simp] theorem dicOf_0 (st : Sto) (ds : List D) : dicOf st (.dat (.lst ds)) = none := rfl
@[simp] theorem dicOf_1 (st : Sto) (ds : List D) : dicOf st (.dat (.scr ds)) = none := rfl
@[simp] theorem dicOf_2 (st : Sto) (ds : List D) : dicOf st (.dat (.tup ds)) = none := rfl
@[simp] theorem dicOf_3 (st : Sto) (ds : List D) : dicOf st (.dat (.sct ds)) = none := rfl
@[simp] theorem dicOf_4 (st : Sto) (i : Nat) : dicOf st (.ref i) = (match st[i]? with | some (.dic ds) => some ds | some (.frz (.dic ds)) => some ds | _ => none) := rfl
@[simp] theorem dicOf_5 (st : Sto) : dicOf st (.dat .non) = none := rfl
@[simp] theorem dicOf_6 (st : Sto) (b : Bool) : dicOf st (.dat (.bl b)) = none := rfl
@[simp] theorem dicOf_7 (st : Sto) (n : Int) : dicOf st (.dat (.int n)) = none := rfl
@[simp] theorem dicOf_8 (st : Sto) (x : Str) : dicOf st (.dat (.str x)) = none := rfl
@[simp] theorem dicOf_9 (st : Sto) (kvs : List (DK × D)) : dicOf st (.dat (.dic kvs)) = some kvs := rfl
@[simp] theorem dicOf_10 (st : Sto) (kvs : List (List DK × D)) : dicOf st (.dat (.dit kvs)) = none := rfl
@[simp] theorem dicOf_11 (st : Sto) (x : Str) : dicOf st (.dat (.glo x)) = none := rfl
@[simp] theorem dicOf_12 (st : Sto) (x : String) : dicOf st (.dat (.ty x)) = none := rfl
@[simp] theorem ditOf_0 (st : Sto) (ds : List D) : ditOf st (.dat (.lst ds)) = none := rfl
@[simp] theorem ditOf_1 (st : Sto) (ds : List D) : ditOf st (.dat (.scr ds)) = none := rfl
@[simp] theorem ditOf_2 (st : Sto) (ds : List D) : ditOf st (.dat (.tup ds)) = none := rfl
@[simp] theorem ditOf_3 (st : Sto) (ds : List D) : ditOf st (.dat (.sct ds)) = none := rfl
@[simp] theorem ditOf_4 (st : Sto) (i : Nat) : ditOf st (.ref i) = (match st[i]? with | some (.dit ds) => some ds | some (.frz (.dit ds)) => some ds | _ => none) := rfl
@[simp] theorem ditOf_5 (st : Sto) : ditOf st (.dat .non) = none := rfl
@[simp] theorem ditOf_6 (st : Sto) (b : Bool) : ditOf st (.dat (.bl b)) = none := rfl
@[simp] theorem ditOf_7 (st : Sto) (n : Int) : ditOf st (.dat (.int n)) = none := rfl
@[simp] theorem ditOf_8 (st : Sto) (x : Str) : ditOf st (.dat (.str x)) = none := rfl
@[simp] theorem ditOf_9 (st : Sto) (kvs : List (DK × D)) : ditOf st (.dat (.dic kvs)) = none := rfl
@[simp] theorem ditOf_10 (st : Sto) (kvs : List (List DK × D)) : ditOf st (.dat (.dit kvs)) = some kvs := rfl
@[simp] theorem ditOf_11 (st : Sto) (x : Str) : ditOf st (.dat (.glo x)) = none := rfl
@[simp] theorem ditOf_12 (st : Sto) (x : String) : ditOf st (.dat (.ty x)) = none := rfl
@[simp] theorem tyM_0 (st : Sto) (ds : List D) : tyM st (.dat (.lst ds)) = some "list" := rfl
@[simp] theorem tyM_1 (st : Sto) (ds : List D) : tyM st (.dat (.scr ds)) = some "list" := rfl
@[simp] theorem tyM_2 (st : Sto) (ds : List D) : tyM st (.dat (.tup ds)) = some "tuple" := rfl
@[simp] theorem tyM_3 (st : Sto) (ds : List D) : tyM st (.dat (.sct ds)) = some "tuple" := rfl
@[simp] theorem tyM_4 (st : Sto) (i : Nat) : tyM st (.ref i) = (match st[i]? with | some (.lst _) => some "list" | some (.lsm _) => some "list" | some (.dic _) => some "dict" | some (.frz (.lst _)) => some "list" | some (.frz (.dic _)) => some "dict" | _ => none) := rfl
@[simp] theorem tyM_5 (st : Sto) : tyM st (.dat .non) = some "NoneType" := rfl
@[simp] theorem tyM_6 (st : Sto) (b : Bool) : tyM st (.dat (.bl b)) = some "bool" := rfl
@[simp] theorem tyM_7 (st : Sto) (n : Int) : tyM st (.dat (.int n)) = some "int" := rfl
@[simp] theorem tyM_8 (st : Sto) (x : Str) : tyM st (.dat (.str x)) = some "str" := rfl
@[simp] theorem tyM_9 (st : Sto) (kvs : List (DK × D)) : tyM st (.dat (.dic kvs)) = some "dict" := rfl
@[simp] theorem tyM_10 (st : Sto) (kvs : List (List DK × D)) : tyM st (.dat (.dit kvs)) = none := rfl
@[simp] theorem tyM_11 (st : Sto) (x : Str) : tyM st (.dat (.glo x)) = none := rfl
@[simp] theorem tyM_12 (st : Sto) (x : String) : tyM st (.dat (.ty x)) = none := rfl
@[simp] theorem val_0 (st : Sto) (d : D) : val st (.dat d) = some d := rfl
@[simp] theorem val_1 (st : Sto) (i : Nat) : val st (.ref i) = (match st[i]? with | some (.lst ds) => some (.lst ds) | some (.dic ds) => some (.dic ds) | some (.dit ds) => some (.dit ds) | some (.frz d) => some d | _ => none) := rfl
@[simp] theorem asD_0  (d : D) : asD (.dat d) = some d := rfl
@[simp] theorem asD_1  (i : Nat) : asD (.ref i) = none := rfl
@[simp] theorem isNon_0  (ds : List D) : isNon (.dat (.lst ds)) = false := rfl
@[simp] theorem isNon_1  (ds : List D) : isNon (.dat (.scr ds)) = false := rfl
@[simp] theorem isNon_2  (ds : List D) : isNon (.dat (.tup ds)) = false := rfl
@[simp] theorem isNon_3  (ds : List D) : isNon (.dat (.sct ds)) = false := rfl
@[simp] theorem isNon_4  (i : Nat) : isNon (.ref i) = false := rfl
@[simp] theorem isNon_5  : isNon (.dat .non) = true := rfl
@[simp] theorem isNon_6  (b : Bool) : isNon (.dat (.bl b)) = false := rfl
@[simp] theorem isNon_7  (n : Int) : isNon (.dat (.int n)) = false := rfl
@[simp] theorem isNon_8  (x : Str) : isNon (.dat (.str x)) = false := rfl
@[simp] theorem isNon_9  (kvs : List (DK × D)) : isNon (.dat (.dic kvs)) = false := rfl
@[simp] theorem isNon_10  (kvs : List (List DK × D)) : isNon (.dat (.dit kvs)) = false := rfl
@[simp] theorem isNon_11  (x : Str) : isNon (.dat (.glo x)) = false := rfl
@[simp] theorem isNon_12  (x : String) : isNon (.dat (.ty x)) = false := rfl
@[simp] theorem truM_0 (st : Sto) : truM st (.dat .non) = some false := rfl
@[simp] theorem truM_1 (st : Sto) (b : Bool) : truM st (.dat (.bl b)) = some b := rfl
@[simp] theorem truM_2 (st : Sto) (n : Int) : truM st (.dat (.int n)) = some (n != 0) := rfl
@[simp] theorem truM_3 (st : Sto) (x : Str) : truM st (.dat (.str x)) = (if x.length ≤ LINE then some ((x.length : Int) != 0) else none) := rfl
@[simp] theorem truM_4 (st : Sto) (ds : List D) : truM st (.dat (.lst ds)) = some !ds.isEmpty := rfl
@[simp] theorem truM_5 (st : Sto) (ds : List D) : truM st (.dat (.tup ds)) = some !ds.isEmpty := rfl
@[simp] theorem truM_6 (st : Sto) (i : Nat) : truM st (.ref i) = (match st[i]? with | some (.lst xs) => some !xs.isEmpty | some (.lsm xs) => some !xs.isEmpty | some (.frz (.lst xs)) => some !xs.isEmpty | _ => none) := rfl
@[simp] theorem cLen_str (st : Sto) (x : Str) : cLen st [.dat (.str x)] = (if x.length ≤ LINE then some (.int x.length) else none) := rfl
theorem cLen_seq {st : Sto} {m : M} {ds : List D} (h : seqOf st m = some ds) : cLen st [m] = some (.int ds.length) := by
  unfold cLen
  split
  · rename_i z e
    cases e
    simp at h
  · rename_i m' _ e
    cases e
    rw [h]
  · rename_i h2
    exact absurd rfl (h2 m)
theorem cLen_list {st : Sto} {m : M} {ds : List D} (h : listOf st m = some ds) : cLen st [m] = some (.int ds.length) := cLen_seq (by simp [h])
@[simp] theorem cLen_ref (st : Sto) (i : Nat) : cLen st [.ref i] = (match seqOf st (.ref i) with | some ds => some (.int ds.length) | none => none) := rfl
@[simp] theorem cLen_lst (st : Sto) (ds : List D) : cLen st [.dat (.lst ds)] = some (.int ds.length) := rfl
@[simp] theorem cLen_scr (st : Sto) (ds : List D) : cLen st [.dat (.scr ds)] = some (.int ds.length) := rfl
@[simp] theorem cLen_tup (st : Sto) (ds : List D) : cLen st [.dat (.tup ds)] = some (.int ds.length) := rfl
@[simp] theorem cLen_sct (st : Sto) (ds : List D) : cLen st [.dat (.sct ds)] = some (.int ds.length) := rfl
@[simp] theorem cMin_two (st : Sto) (i j : Int) : cMin st [.dat (.int i), .dat (.int j)] = some (.int (if j < i then j else i)) := rfl
@[simp] theorem cMax_two (st : Sto) (i j : Int) : cMax st [.dat (.int i), .dat (.int j)] = some (.int (if j > i then j else i)) := rfl
theorem cMin_list {st : Sto} {m : M} {ds : List D} {i : Int} {r : List Int} (h : listOf st m = some ds) (hi : intsOf ds = some (i :: r)) : cMin st [m] = some (.int (minOf (i :: r))) := by
  simp only [cMin, h, hi]
theorem cMax_list {st : Sto} {m : M} {ds : List D} {i : Int} {r : List Int} (h : listOf st m = some ds) (hi : intsOf ds = some (i :: r)) : cMax st [m] = some (.int (maxOf (i :: r))) := by
  simp only [cMax, h, hi]
@[simp] theorem fEq_int (st : Sto) (i j : Int) : fEq st (.dat (.int i)) (.dat (.int j)) = some (.bl (decide (i = j))) := rfl
@[simp] theorem fEq_str (st : Sto) (i j : Str) : fEq st (.dat (.str i)) (.dat (.str j)) = some (.bl (decide (i = j))) := rfl
@[simp] theorem fEq_bl (st : Sto) (i j : Bool) : fEq st (.dat (.bl i)) (.dat (.bl j)) = some (.bl (decide (i = j))) := rfl
theorem fEq_lst {st : Sto} {x y : M} {a b : List D} (hx : val st x = some (.lst a)) (hy : val st y = some (.lst b)) (sa : shpD (.lst a) = true) (sb : shpD (.lst b) = true) : fEq st x y = some (.bl (eqD (.lst a) (.lst b))) := by
  have h1 : fEqS st x y = none := by
    cases x with
    | ref i => rfl
    | dat d =>
      cases hx
      cases y with
      | ref i => rfl
      | dat e => cases hy; rfl
  have h2 : fEqD st x y = some (.bl (eqD (.lst a) (.lst b))) := by
    unfold fEqD
    rw [hx, hy]
    simp [sa, sb]
  show (match fEqS st x y with
    | some d => some d
    | none => fEqD st x y) = _
  rw [h1]
  exact h2
@[simp] theorem fNe_int (st : Sto) (i j : Int) : fNe st (.dat (.int i)) (.dat (.int j)) = some (.bl (!(decide (i = j)))) := rfl
@[simp] theorem fNe_str (st : Sto) (i j : Str) : fNe st (.dat (.str i)) (.dat (.str j)) = some (.bl (!(decide (i = j)))) := rfl
@[simp] theorem fNe_bl (st : Sto) (i j : Bool) : fNe st (.dat (.bl i)) (.dat (.bl j)) = some (.bl (!(decide (i = j)))) := rfl
theorem fNe_lst {st : Sto} {x y : M} {a b : List D} (hx : val st x = some (.lst a)) (hy : val st y = some (.lst b)) (sa : shpD (.lst a) = true) (sb : shpD (.lst b) = true) : fNe st x y = some (.bl (!(eqD (.lst a) (.lst b)))) := by
  have h1 : fNeS st x y = none := by
    cases x with
    | ref i => rfl
    | dat d =>
      cases hx
      cases y with
      | ref i => rfl
      | dat e => cases hy; rfl
  have h2 : fNeD st x y = some (.bl (!(eqD (.lst a) (.lst b)))) := by
    unfold fNeD
    rw [hx, hy]
    simp [sa, sb]
  show (match fNeS st x y with
    | some d => some d
    | none => fNeD st x y) = _
  rw [h1]
  exact h2
/-! ### a def's word keeps its contract -/
abbrev PureOk (N ps : List Str) (C : Ct) (w : WS) : Prop := ∀ ms st Po, C ms st Po → ms.length = ps.length ∧ w { nx := fun _ st => Po (.dat .non) st, rt := Po } (ms.map some ++ List.replicate (N.length - ms.length) none) st
/-! ### methods of lists and dicts -/
@[simp] def wAppend (o : WE) (a : WE) : WE := fun ds st Q => o ds st fun x st1 => (∃ ys, listOf st1 x = some ys) ∧ a ds st1 fun y st2 => ∃ i xs d, x = .ref i ∧ st2[i]? = some (.lst xs) ∧ y = .dat d ∧ xs.length < LINE ∧ Q (.dat .non) (st2.set i (.lst (xs ++ [d])))
@[simp] def wExtend (o : WE) (a : WE) : WE := fun ds st Q => o ds st fun x st1 => (∃ ys, listOf st1 x = some ys) ∧ a ds st1 fun y st2 => ∃ i xs zs, x = .ref i ∧ st2[i]? = some (.lst xs) ∧ lstX st2 y = some zs ∧ xs.length + zs.length ≤ LINE ∧ Q (.dat .non) (st2.set i (.lst (xs ++ zs)))
@[simp] def wPop (o : WE) : WE := fun ds st Q => o ds st fun x st1 => ∃ i xs d, x = .ref i ∧ st1[i]? = some (.lst (xs ++ [d])) ∧ Q (.dat d) (st1.set i (.lst xs))
@[simp] def wReverse (o : WE) : WE := fun ds st Q => o ds st fun x st1 => ∃ i xs, x = .ref i ∧ st1[i]? = some (.lst xs) ∧ Q (.dat .non) (st1.set i (.lst xs.reverse))
end PP

/-! Mrl1: how data trees, cells and slots lie in the abstract heap; words lifted to readings. -/
namespace PP
open PySem PySem.Spec PyProof.Rows L2
def Ex (H H' : Hp) : Prop := ∀ a o, H a = some o → H' a = some o
theorem Ex.refl (H : Hp) : Ex H H := fun _ _ h => h
theorem Ex.trans {H H1 H2 : Hp} (a : Ex H H1) (b : Ex H1 H2) : Ex H H2 := fun x o h => b x o (a x o h)
theorem Ex.rd {H H' : Hp} {a : Addr} {u : HO} (e : Ex H H') (h : Rd H a u) : Rd H' a u := by
  rcases h with h | ⟨o, h⟩
  · exact Or.inl (e a _ h)
  · exact Or.inr ⟨o, e a _ h⟩
theorem Ex.l {K : PySem.W.Frag} {H H' : Hp} {a : Addr} {xs : List V} (e : Ex H H') (h : SqL K H a xs) : SqL K H' a xs := by
  rcases h with h | h
  · exact Or.inl (e.rd h)
  · exact Or.inr h
theorem Ex.t {K : PySem.W.Frag} {H H' : Hp} {a : Addr} {xs : List V} (e : Ex H H') (h : SqT K H a xs) : SqT K H' a xs := by
  rcases h with h | h
  · exact Or.inl (e.rd h)
  · exact Or.inr h
/-- what is read stays -/
structure ExR (F F' : Hp) : Prop where
  l : ∀ a vs, F a = some (.lst vs) → F' a = some (.lst vs)
  t : ∀ a vs, F a = some (.tup vs) → F' a = some (.tup vs)
  rl : ∀ a vs, Rd F a (.lst vs) → Rd F' a (.lst vs)
  rt : ∀ a vs, Rd F a (.tup vs) → Rd F' a (.tup vs)
  dk : ∀ a ks, Rd F a (.dK ks) → Rd F' a (.dK ks)
  dt : ∀ a ks, Rd F a (.dT ks) → Rd F' a (.dT ks)
theorem Ex.r {F F' : Hp} (e : Ex F F') : ExR F F' := ⟨fun a vs h => e a _ h, fun a vs h => e a _ h, fun a vs h => e.rd h, fun a vs h => e.rd h, fun a vs h => e.rd h, fun a vs h => e.rd h⟩
theorem ExR.sl {K : PySem.W.Frag} {H H' : Hp} {a : Addr} {xs : List V} (e : ExR H H') (h : SqL K H a xs) : SqL K H' a xs := by
  rcases h with h | h
  · exact Or.inl (e.rl _ _ h)
  · exact Or.inr h
theorem ExR.st {K : PySem.W.Frag} {H H' : Hp} {a : Addr} {xs : List V} (e : ExR H H') (h : SqT K H a xs) : SqT K H' a xs := by
  rcases h with h | h
  · exact Or.inl (e.rt _ _ h)
  · exact Or.inr h
/-! ### keys -/
/-! ### how a tree lies -/
mutual
def rep (K : PySem.W.Frag) (F : Hp) : D → V → Prop
  | .non, v => v = .non
  | .bl b, v => v = .bl b
  | .int i, v => v = .int i
  | .str x, v => v = .str x
  | .ty n, v => v = .ty n
  | .glo x, v => v = .ref (He.ga K x)
  | .tup ds, v => ∃ a vs, v = .ref a ∧ F a = some (.tup vs) ∧ reps K F ds vs
  | .lst ds, v => ∃ a vs, v = .ref a ∧ F a = some (.lst vs) ∧ reps K F ds vs
  | .sct ds, v => ∃ a vs, v = .ref a ∧ SqT K F a vs ∧ reps K F ds vs
  | .scr ds, v => ∃ a vs, v = .ref a ∧ SqL K F a vs ∧ reps K F ds vs
  | .dic kvs, v => ∃ a ks, v = .ref a ∧ Rd F a (.dK ks) ∧ repK K F kvs ks
  | .dit kvs, v => ∃ a ks, v = .ref a ∧ Rd F a (.dT ks) ∧ repT K F kvs ks
def reps (K : PySem.W.Frag) (F : Hp) : List D → List V → Prop
  | [], vs => vs = []
  | d :: ds, vs => ∃ v ws, vs = v :: ws ∧ rep K F d v ∧ reps K F ds ws
def repK (K : PySem.W.Frag) (F : Hp) : List (Key × D) → List (Key × V) → Prop
  | [], vs => vs = []
  | (k, d) :: ds, vs => ∃ v ws, vs = (k, v) :: ws ∧ rep K F d v ∧ repK K F ds ws
def repT (K : PySem.W.Frag) (F : Hp) : List (List Key × D) → List (List Key × V) → Prop
  | [], vs => vs = []
  | (k, d) :: ds, vs => ∃ v ws, vs = (k, v) :: ws ∧ rep K F d v ∧ repT K F ds ws
end
section
variable {K : PySem.W.Frag} {F F' : Hp}
mutual
theorem rep.monoR (e : ExR F F') : ∀ (d : D) (v : V), rep K F d v → rep K F' d v
  | .non, _, h => h
  | .bl _, _, h => h
  | .int _, _, h => h
  | .str _, _, h => h
  | .ty _, _, h => h
  | .glo _, _, h => h
  | .tup ds, _, ⟨a, vs, h1, h2, h3⟩ => ⟨a, vs, h1, e.t a _ h2, reps.monoR e ds vs h3⟩
  | .lst ds, _, ⟨a, vs, h1, h2, h3⟩ => ⟨a, vs, h1, e.l a _ h2, reps.monoR e ds vs h3⟩
  | .sct ds, _, ⟨a, vs, h1, h2, h3⟩ => ⟨a, vs, h1, e.st h2, reps.monoR e ds vs h3⟩
  | .scr ds, _, ⟨a, vs, h1, h2, h3⟩ => ⟨a, vs, h1, e.sl h2, reps.monoR e ds vs h3⟩
  | .dic kvs, _, ⟨a, ks, h1, r, q⟩ => ⟨a, ks, h1, e.dk a _ r, repK.monoR e kvs ks q⟩
  | .dit kvs, _, ⟨a, ks, h1, r, q⟩ => ⟨a, ks, h1, e.dt a _ r, repT.monoR e kvs ks q⟩
theorem reps.monoR (e : ExR F F') : ∀ (ds : List D) (vs : List V), reps K F ds vs → reps K F' ds vs
  | [], _, h => h
  | d :: ds, _, ⟨v, ws, h1, h2, h3⟩ => ⟨v, ws, h1, rep.monoR e d v h2, reps.monoR e ds ws h3⟩
theorem repK.monoR (e : ExR F F') : ∀ (ds : List (Key × D)) (vs : List (Key × V)), repK K F ds vs → repK K F' ds vs
  | [], _, h => h
  | (_, d) :: ds, _, ⟨v, ws, h1, h2, h3⟩ => ⟨v, ws, h1, rep.monoR e d v h2, repK.monoR e ds ws h3⟩
theorem repT.monoR (e : ExR F F') : ∀ (ds : List (List Key × D)) (vs : List (List Key × V)), repT K F ds vs → repT K F' ds vs
  | [], _, h => h
  | (_, d) :: ds, _, ⟨v, ws, h1, h2, h3⟩ => ⟨v, ws, h1, rep.monoR e d v h2, repT.monoR e ds ws h3⟩
end
theorem rep.mono (e : Ex F F') (d : D) (v : V) (h : rep K F d v) : rep K F' d v := rep.monoR e.r d v h
theorem reps.mono (e : Ex F F') (ds : List D) (vs : List V) (h : reps K F ds vs) : reps K F' ds vs := reps.monoR e.r ds vs h
theorem repK.mono (e : Ex F F') (ds : List (Key × D)) (vs : List (Key × V)) (h : repK K F ds vs) : repK K F' ds vs := repK.monoR e.r ds vs h
theorem repT.mono (e : Ex F F') (ds : List (List Key × D)) (vs : List (List Key × V)) (h : repT K F ds vs) : repT K F' ds vs := repT.monoR e.r ds vs h
end
def repM (K : PySem.W.Frag) (F : Hp) (ρ : List Addr) : M → V → Prop
  | .dat d, v => rep K F d v
  | .ref i, v => ∃ a, ρ[i]? = some a ∧ v = .ref a
def repMs (K : PySem.W.Frag) (F : Hp) (ρ : List Addr) : List M → List V → Prop
  | [], vs => vs = []
  | m :: ms, vs => ∃ v ws, vs = v :: ws ∧ repM K F ρ m v ∧ repMs K F ρ ms ws
def repF (K : PySem.W.Frag) (F : Hp) (ρ : List Addr) : List (Str × M) → List (Str × V) → Prop
  | [], vs => vs = []
  | (x, m) :: ms, vs => ∃ v ws, vs = (x, v) :: ws ∧ repM K F ρ m v ∧ repF K F ρ ms ws
def repR (K : PySem.W.Frag) (F : Hp) (ρ : List Addr) : List (Key × M) → List (Key × V) → Prop
  | [], vs => vs = []
  | (x, m) :: ms, vs => ∃ v ws, vs = (x, v) :: ws ∧ repM K F ρ m v ∧ repR K F ρ ms ws
def cellOk (K : PySem.W.Frag) (F : Hp) (ρ : List Addr) (H : Hp) (a : Addr) : Cell → Prop
  | .lst ds => ∃ vs, H a = some (.lst vs) ∧ reps K F ds vs
  | .lsm ms => ∃ vs, H a = some (.lst vs) ∧ repMs K F ρ ms vs
  | .dic kvs => ∃ ks, H a = some (.dK ks) ∧ repK K F kvs ks
  | .dit kvs => ∃ ks, H a = some (.dT ks) ∧ repT K F kvs ks
  | .rcd kvs => ∃ ks, H a = some (.dK ks) ∧ repR K F ρ kvs ks
  | .obj c fs => ∃ dx vs, H a = some (.ins (He.ga K c) dx vs) ∧ repF K F ρ fs vs
  | .frz d => rep K F d (.ref a)
section
variable {K : PySem.W.Frag} {F F' : Hp} {ρ ρ' : List Addr}
theorem pre_get {α : Type} {l l' : List α} (p : l <+: l') {i : Nat} {a : α} (h : l[i]? = some a) : l'[i]? = some a := by
  obtain ⟨t, rfl⟩ := p
  rw [List.getElem?_append_left (List.getElem?_eq_some_iff.mp h).1]
  exact h
theorem repM.mono (e : Ex F F') (p : ρ <+: ρ') : ∀ {m : M} {v : V}, repM K F ρ m v → repM K F' ρ' m v
  | .dat d, v, h => rep.mono e d v h
  | .ref i, v, ⟨a, h1, h2⟩ => ⟨a, pre_get p h1, h2⟩
theorem repMs.mono (e : Ex F F') (p : ρ <+: ρ') : ∀ {m : List M} {v : List V}, repMs K F ρ m v → repMs K F' ρ' m v
  | [], _, h => h
  | m :: ms, _, ⟨v, ws, h1, h2, h3⟩ => ⟨v, ws, h1, repM.mono e p h2, repMs.mono e p h3⟩
theorem repF.mono (e : Ex F F') (p : ρ <+: ρ') : ∀ {m : List (Str × M)} {v : List (Str × V)}, repF K F ρ m v → repF K F' ρ' m v
  | [], _, h => h
  | (x, m) :: ms, _, ⟨v, ws, h1, h2, h3⟩ => ⟨v, ws, h1, repM.mono e p h2, repF.mono e p h3⟩
theorem repR.mono (e : Ex F F') (p : ρ <+: ρ') : ∀ {m : List (Key × M)} {v : List (Key × V)}, repR K F ρ m v → repR K F' ρ' m v
  | [], _, h => h
  | (x, m) :: ms, _, ⟨v, ws, h1, h2, h3⟩ => ⟨v, ws, h1, repM.mono e p h2, repR.mono e p h3⟩
/-- a cell whose own object stays -/
theorem cellOk.mono {H H' : Hp} {a : Addr} (e : Ex F F') (p : ρ <+: ρ') : ∀ {c : Cell}, (c.live = true → ∀ o, H a = some o → H' a = some o) → cellOk K F ρ H a c → cellOk K F' ρ' H' a c
  | .lst ds, k, ⟨vs, h1, h2⟩ => ⟨vs, k rfl _ h1, reps.mono e ds vs h2⟩
  | .lsm ms, k, ⟨vs, h1, h2⟩ => ⟨vs, k rfl _ h1, repMs.mono e p h2⟩
  | .dic kvs, k, ⟨ks, r, q⟩ => ⟨ks, k rfl _ r, repK.mono e kvs ks q⟩
  | .dit kvs, k, ⟨ks, r, q⟩ => ⟨ks, k rfl _ r, repT.mono e kvs ks q⟩
  | .rcd kvs, k, ⟨vs, h1, h2⟩ => ⟨vs, k rfl _ h1, repR.mono e p h2⟩
  | .obj c fs, k, ⟨dx, vs, h1, h2⟩ => ⟨dx, vs, k rfl _ h1, repF.mono e p h2⟩
  | .frz d, k, h => rep.mono e d _ h
theorem cellOk.some {H : Hp} {a : Addr} : ∀ {c : Cell}, c.live = true → cellOk K F ρ H a c → ∃ o, H a = some o
  | .lst _, _, ⟨_, h, _⟩ => ⟨_, h⟩
  | .lsm _, _, ⟨_, h, _⟩ => ⟨_, h⟩
  | .dic _, _, ⟨_, r, _⟩ => ⟨_, r⟩
  | .dit _, _, ⟨_, r, _⟩ => ⟨_, r⟩
  | .rcd _, _, ⟨_, h, _⟩ => ⟨_, h⟩
  | .obj _ _, _, ⟨_, _, h, _⟩ => ⟨_, h⟩
theorem reps.length : ∀ {ds : List D} {vs : List V}, reps K F ds vs → ds.length = vs.length
  | [], _, h => by rw [h]; rfl
  | _ :: _, _, ⟨_, _, h1, _, h3⟩ => by rw [h1, List.length_cons, List.length_cons, reps.length h3]
theorem reps.get : ∀ {ds : List D} {vs : List V} {i : Nat} {d : D}, reps K F ds vs → ds[i]? = some d → ∃ v, vs[i]? = some v ∧ rep K F d v
  | d :: ds, _, 0, _, ⟨v, ws, h1, h2, h3⟩, e => by
    subst h1
    simp at e
    subst e
    exact ⟨v, rfl, h2⟩
  | d :: ds, _, i + 1, _, ⟨v, ws, h1, h2, h3⟩, e => by
    subst h1
    exact reps.get (i := i) h3 (by simpa using e)
theorem reps.getV : ∀ {ds : List D} {vs : List V} {i : Nat} {v : V}, reps K F ds vs → vs[i]? = some v → ∃ d, ds[i]? = some d ∧ rep K F d v
  | [], _, _, _, h, e => by
    rw [show _ = [] from h] at e
    simp at e
  | d :: ds, _, 0, _, ⟨v, ws, h1, h2, h3⟩, e => by
    subst h1
    simp at e
    subst e
    exact ⟨d, rfl, h2⟩
  | d :: ds, _, i + 1, _, ⟨v, ws, h1, h2, h3⟩, e => by
    subst h1
    exact reps.getV (i := i) h3 (by simpa using e)
theorem reps.append : ∀ {ds es : List D} {vs ws : List V}, reps K F ds vs → reps K F es ws → reps K F (ds ++ es) (vs ++ ws)
  | [], _, _, _, h, q => by
    rw [show _ = [] from h]
    exact q
  | d :: ds, _, _, _, ⟨v, ws, h1, h2, h3⟩, q => by
    subst h1
    exact ⟨v, _, rfl, h2, reps.append h3 q⟩
theorem reps.drop : ∀ {ds : List D} {vs : List V} (n : Nat), reps K F ds vs → reps K F (ds.drop n) (vs.drop n)
  | _, _, 0, h => h
  | [], _, n + 1, h => by rw [show _ = [] from h]; exact rfl
  | d :: ds, _, n + 1, ⟨v, ws, h1, h2, h3⟩ => by subst h1; exact reps.drop n h3
theorem reps.take : ∀ {ds : List D} {vs : List V} (n : Nat), reps K F ds vs → reps K F (ds.take n) (vs.take n)
  | _, _, 0, h => rfl
  | [], _, n + 1, h => by rw [show _ = [] from h]; exact rfl
  | d :: ds, _, n + 1, ⟨v, ws, h1, h2, h3⟩ => by subst h1; exact ⟨v, _, rfl, h2, reps.take n h3⟩
theorem reps.set {d : D} {v : V} (r : rep K F d v) : ∀ {ds : List D} {vs : List V} (n : Nat), reps K F ds vs → reps K F (ds.set n d) (vs.set n v)
  | [], _, n, h => by rw [show _ = [] from h]; exact rfl
  | d :: ds, _, 0, ⟨v, ws, h1, h2, h3⟩ => by subst h1; exact ⟨_, _, rfl, r, h3⟩
  | d :: ds, _, n + 1, ⟨v, ws, h1, h2, h3⟩ => by subst h1; exact ⟨_, _, rfl, h2, reps.set r n h3⟩
theorem reps.one {d : D} {v : V} (r : rep K F d v) : reps K F [d] [v] := ⟨v, [], rfl, r, rfl⟩
theorem reps.reverse : ∀ {ds : List D} {vs : List V}, reps K F ds vs → reps K F ds.reverse vs.reverse
  | [], _, h => by rw [show _ = [] from h]; exact rfl
  | d :: ds, _, ⟨v, ws, h1, h2, h3⟩ => by
    subst h1
    rw [List.reverse_cons, List.reverse_cons]
    exact reps.append (reps.reverse h3) (reps.one h2)
theorem reps.map {α : Type} (f : α → D) (g : α → V) (h : ∀ a, rep K F (f a) (g a)) : ∀ l : List α, reps K F (l.map f) (l.map g)
  | [] => rfl
  | a :: l => ⟨g a, _, rfl, h a, reps.map f g h l⟩
theorem reps.ints (l : List Int) : reps K F (l.map D.int) (l.map V.int) := reps.map D.int V.int (fun a => (rfl : V.int a = V.int a)) l
theorem repMs.length : ∀ {ds : List M} {vs : List V}, repMs K F ρ ds vs → ds.length = vs.length
  | [], _, h => by rw [h]; rfl
  | _ :: _, _, ⟨_, _, h1, _, h3⟩ => by rw [h1, List.length_cons, List.length_cons, repMs.length h3]
theorem repMs.get : ∀ {ds : List M} {vs : List V} {i : Nat} {d : M}, repMs K F ρ ds vs → ds[i]? = some d → ∃ v, vs[i]? = some v ∧ repM K F ρ d v
  | d :: ds, _, 0, _, ⟨v, ws, h1, h2, h3⟩, e => by
    subst h1
    simp at e
    subst e
    exact ⟨v, rfl, h2⟩
  | d :: ds, _, i + 1, _, ⟨v, ws, h1, h2, h3⟩, e => by
    subst h1
    exact repMs.get (i := i) h3 (by simpa using e)
theorem repMs.append : ∀ {ds es : List M} {vs ws : List V}, repMs K F ρ ds vs → repMs K F ρ es ws → repMs K F ρ (ds ++ es) (vs ++ ws)
  | [], _, _, _, h, q => by
    rw [show _ = [] from h]
    exact q
  | d :: ds, _, _, _, ⟨v, ws, h1, h2, h3⟩, q => by
    subst h1
    exact ⟨v, _, rfl, h2, repMs.append h3 q⟩
theorem repMs.dropLast : ∀ {ds : List M} {vs : List V}, repMs K F ρ ds vs → repMs K F ρ ds.dropLast vs.dropLast
  | [], _, h => by rw [show _ = [] from h]; exact rfl
  | [d], _, ⟨v, ws, h1, h2, h3⟩ => by
    subst h1
    rw [show ws = [] from h3]
    exact rfl
  | d :: e :: ds, _, ⟨v, ws, h1, h2, h3⟩ => by
    subst h1
    obtain ⟨u, us, h4, h5, h6⟩ := id h3
    subst h4
    exact ⟨v, _, rfl, h2, repMs.dropLast h3⟩
theorem reps.dropLast : ∀ {ds : List D} {vs : List V}, reps K F ds vs → reps K F ds.dropLast vs.dropLast
  | [], _, h => by rw [show _ = [] from h]; exact rfl
  | [d], _, ⟨v, ws, h1, h2, h3⟩ => by
    subst h1
    rw [show ws = [] from h3]
    exact rfl
  | d :: e :: ds, _, ⟨v, ws, h1, h2, h3⟩ => by
    subst h1
    obtain ⟨u, us, h4, h5, h6⟩ := id h3
    subst h4
    exact ⟨v, _, rfl, h2, reps.dropLast h3⟩
theorem repMs.dat : ∀ {ds : List D} {vs : List V}, repMs K F ρ (ds.map M.dat) vs ↔ reps K F ds vs
  | [], _ => Iff.rfl
  | d :: ds, vs => ⟨fun ⟨v, ws, h1, h2, h3⟩ => ⟨v, ws, h1, h2, repMs.dat.mp h3⟩, fun ⟨v, ws, h1, h2, h3⟩ => ⟨v, ws, h1, h2, repMs.dat.mpr h3⟩⟩
end
/-! ### the masked heap -/
def mask (L : List Addr) (H : Hp) : Hp := fun a => if a ∈ L then none else H a
theorem mask_le (L : List Addr) (H : Hp) : Ex (mask L H) H := fun a o h => by
  unfold mask at h
  split at h
  · cases h
  · exact h
theorem mask_in {L : List Addr} {H : Hp} {a : Addr} (h : a ∈ L) : mask L H a = none := if_pos h
theorem mask_out {L : List Addr} {H : Hp} {a : Addr} (h : a ∉ L) : mask L H a = H a := if_neg h
theorem mask_ex {L L' : List Addr} {H H' : Hp} (hl : ∀ a, a ∉ L → H a ≠ none → a ∉ L') (hk : ∀ a o, a ∉ L → H a = some o → H' a = some o) : Ex (mask L H) (mask L' H') := fun a o h => by
  by_cases q : a ∈ L
  · rw [mask_in q] at h
    cases h
  · rw [mask_out q] at h
    rw [mask_out (hl a q (by rw [h]; simp))]
    exact hk a o q h
theorem mask_congr {L L' : List Addr} (h : ∀ a, a ∈ L ↔ a ∈ L') (H : Hp) : mask L H = mask L' H := by
  funext a
  unfold mask
  by_cases q : a ∈ L
  · rw [if_pos q, if_pos ((h a).mp q)]
  · rw [if_neg q, if_neg fun z => q ((h a).mpr z)]
def lives : List Addr → List Cell → List Addr
  | a :: ρ, c :: st => if c.live then a :: lives ρ st else lives ρ st
  | _, _ => []
theorem mem_lives : ∀ {ρ : List Addr} {st : List Cell} {a : Addr}, a ∈ lives ρ st ↔ ∃ (i : Nat) (c : Cell), ρ[i]? = some a ∧ st[i]? = some c ∧ c.live = true
  | [], st, a => by
    constructor
    · intro h
      have e : lives [] st = [] := by cases st <;> rfl
      rw [e] at h
      cases h
    · rintro ⟨i, c, h, _⟩
      simp at h
  | b :: ρ, [], a => by
    constructor
    · intro h
      cases h
    · rintro ⟨i, c, _, h, _⟩
      simp at h
  | b :: ρ, c :: st, a => by
    unfold lives
    constructor
    · intro h
      by_cases hc : c.live = true
      · rw [if_pos hc] at h
        rcases List.mem_cons.mp h with rfl | h
        · exact ⟨0, c, rfl, rfl, hc⟩
        · obtain ⟨i, d, h1, h2, h3⟩ := mem_lives.mp h
          exact ⟨i + 1, d, h1, h2, h3⟩
      · rw [if_neg hc] at h
        obtain ⟨i, d, h1, h2, h3⟩ := mem_lives.mp h
        exact ⟨i + 1, d, h1, h2, h3⟩
    · rintro ⟨i, d, h1, h2, h3⟩
      cases i with
      | zero =>
        simp at h1 h2
        subst h1 h2
        rw [if_pos h3]
        exact List.mem_cons_self
      | succ i =>
        have h := mem_lives.mpr ⟨i, d, by simpa using h1, by simpa using h2, h3⟩
        split
        · exact List.mem_cons_of_mem _ h
        · exact h
/-! ### states -/
structure G where
  Z : List Addr
  R0 : List Addr
  H0 : Hp
  F0 : Hp
  P0 : List Addr
def fr (g : G) (ρ : List Addr) (st : Sto) (H : Hp) : Hp := mask (g.Z ++ lives ρ st) H
def G.now (g : G) (F : Hp) (ρ : List Addr) : G := { g with F0 := F, P0 := ρ }
structure Core (K : PySem.W.Frag) (g : G) (ρ : List Addr) (H : Hp) (st : Sto) : Prop where
  len : ρ.length = st.length
  nd : ρ.Nodup
  zd : ∀ a ∈ ρ, a ∉ g.Z
  zh : ∀ a ∈ g.Z, (∃ o, g.H0 a = some o) ∧ a ∉ g.R0
  cells : ∀ (i : Nat) (a : Addr) (c : Cell), ρ[i]? = some a → st[i]? = some c → cellOk K (fr g ρ st H) ρ H a c
  keep : ∀ a o, g.H0 a = some o → a ∉ g.R0 → H a = some o
  new : ∀ a ∈ ρ, a ∈ g.R0 ∨ g.H0 a = none
  ext : Ex g.F0 (fr g ρ st H)
  pre : g.P0 <+: ρ
  some_ : ∀ a ∈ ρ, ∃ o, H a = some o
  r0 : ∀ a ∈ g.R0, a ∈ ρ
def Slots (K : PySem.W.Frag) (F : Hp) (ρ : List Addr) (ds : Sl) (σ : L2.St) : Prop := ds.length = σ.length ∧ ∀ (i : Nat) (m : M), ds[i]? = some (some m) → ∃ v, σ[i]? = some (some v) ∧ repM K F ρ m v
structure Rel (K : PySem.W.Frag) (g : G) (ρ : List Addr) (σ : L2.St) (H : Hp) (ds : Sl) (st : Sto) : Prop extends Core K g ρ H st where
  slots : Slots K (fr g ρ st H) ρ ds σ
section
variable {K : PySem.W.Frag} {g : G} {ρ ρ' : List Addr} {σ : L2.St} {H H' : Hp} {ds : Sl} {st st' : Sto}
theorem Core.now (R : Core K g ρ H st) : Core K (g.now (fr g ρ st H) ρ) ρ H st := ⟨R.len, R.nd, R.zd, R.zh, R.cells, R.keep, R.new, Ex.refl _, List.prefix_rfl, R.some_, R.r0⟩
theorem Rel.now (R : Rel K g ρ σ H ds st) : Rel K (g.now (fr g ρ st H) ρ) ρ σ H ds st := ⟨R.toCore.now, R.slots⟩
theorem Core.back {F : Hp} {ρ0 : List Addr} (R : Core K (g.now F ρ0) ρ H st) (e : Ex g.F0 F) (p : g.P0 <+: ρ0) : Core K g ρ H st := ⟨R.len, R.nd, R.zd, R.zh, R.cells, R.keep, R.new, e.trans R.ext, p.trans R.pre, R.some_, R.r0⟩
theorem Rel.back {F : Hp} {ρ0 : List Addr} (R : Rel K (g.now F ρ0) ρ σ H ds st) (e : Ex g.F0 F) (p : g.P0 <+: ρ0) : Rel K g ρ σ H ds st := ⟨R.toCore.back e p, R.slots⟩
theorem Core.hz (R : Core K g ρ H st) {a : Addr} (h : a ∈ g.Z) : ∃ o, H a = some o := by
  obtain ⟨⟨o, e⟩, n⟩ := R.zh a h
  exact ⟨o, R.keep a o e n⟩
theorem Core.freshL (R : Core K g ρ H st) {p : Addr} (hp : H p = none) : p ∉ g.Z ++ lives ρ st := fun h => by
  rcases List.mem_append.mp h with h | h
  · obtain ⟨o, e⟩ := R.hz h
    rw [hp] at e
    cases e
  · obtain ⟨i, c, h1, _, _⟩ := mem_lives.mp h
    obtain ⟨o, e⟩ := R.some_ p (List.mem_of_getElem? h1)
    rw [hp] at e
    cases e
theorem Core.freshP (R : Core K g ρ H st) {p : Addr} (hp : H p = none) : p ∉ ρ := fun h => by
  obtain ⟨o, e⟩ := R.some_ p h
  rw [hp] at e
  cases e
theorem Core.fresh0 (R : Core K g ρ H st) {p : Addr} (hp : H p = none) : g.H0 p = none := by
  cases e : g.H0 p with
  | none => rfl
  | some o =>
    by_cases h : p ∈ g.R0
    · exact absurd (R.r0 p h) (R.freshP hp)
    · rw [R.keep p o e h] at hp
      cases hp
theorem fr_ex (hk : Ex H H') : Ex (fr g ρ st H) (fr g ρ st H') := mask_ex (fun _ h _ => h) fun a o _ h => hk a o h
theorem Slots.mono {F F' : Hp} (h : Slots K F ρ ds σ) (e : Ex F F') (p : ρ <+: ρ') : Slots K F' ρ' ds σ := ⟨h.1, fun i m hm => by
  obtain ⟨v, h1, h2⟩ := h.2 i m hm
  exact ⟨v, h1, h2.mono e p⟩⟩
/-- the heap grows -/
theorem Core.grow (R : Core K g ρ H st) (hk : Ex H H') : Core K g ρ H' st := ⟨R.len, R.nd, R.zd, R.zh, fun i a c h1 h2 => (R.cells i a c h1 h2).mono (fr_ex hk) List.prefix_rfl fun _ o h => hk a o h, fun a o h n => hk a o (R.keep a o h n), R.new, R.ext.trans (fr_ex hk), R.pre,
  fun a h => (R.some_ a h).elim fun o e => ⟨o, hk a o e⟩, R.r0⟩
theorem Rel.grow (R : Rel K g ρ σ H ds st) (hk : Ex H H') : Rel K g ρ σ H' ds st := ⟨R.toCore.grow hk, R.slots.mono (fr_ex hk) List.prefix_rfl⟩
theorem Ex.new {p : Addr} {o : HO} (h : H p = none) : Ex H (upd H p o) := fun a u e => by
  rw [upd_ne (ne_of_none e h)]
  exact e
theorem lives_snoc : ∀ {ρ : List Addr} {st : Sto} {p : Addr} {c : Cell}, ρ.length = st.length → c.live = true → lives (ρ ++ [p]) (st ++ [c]) = lives ρ st ++ [p]
  | [], [], p, c, _, hc => by simp [lives, hc]
  | a :: ρ, d :: st, p, c, h, hc => by
    simp only [List.cons_append, lives]
    rw [lives_snoc (by simpa using h) hc]
    split <;> rfl
  | [], _ :: _, _, _, h, _ => by simp at h
  | _ :: _, [], _, _, h, _ => by simp at h
/-- a new cell -/
theorem Core.alloc (R : Core K g ρ H st) {p : Addr} {o : HO} {c : Cell} (hp : H p = none) (hc : c.live = true) (ok : ∀ F' ρ', Ex (fr g ρ st H) F' → ρ <+: ρ' → cellOk K F' ρ' (upd H p o) p c) :
    Core K g (ρ ++ [p]) (upd H p o) (st ++ [c]) ∧ Ex (fr g ρ st H) (fr g (ρ ++ [p]) (st ++ [c]) (upd H p o)) := by
  have e1 : Ex (fr g ρ st H) (fr g (ρ ++ [p]) (st ++ [c]) (upd H p o)) := by
    refine mask_ex (fun a h hn q => ?_) fun a u _ h => Ex.new hp a u h
    rw [lives_snoc R.len hc] at q
    rcases List.mem_append.mp q with q | q
    · exact h (List.mem_append_left _ q)
    · rcases List.mem_append.mp q with q | q
      · exact h (List.mem_append_right _ q)
      · rw [List.mem_singleton.mp q] at hn
        exact hn hp
  refine ⟨⟨by simp [R.len], ?_, fun a h => ?_, R.zh, fun i a d h1 h2 => ?_, fun a u h n => Ex.new hp a u (R.keep a u h n), fun a h => ?_, R.ext.trans e1, R.pre.trans (List.prefix_append _ _), fun a h => ?_, fun a h => List.mem_append_left _ (R.r0 a h)⟩, e1⟩
  · refine List.nodup_append.mpr ⟨R.nd, by simp, fun a ha b hb => ?_⟩
    rw [List.mem_singleton.mp hb]
    rintro rfl
    exact R.freshP hp ha
  · rcases List.mem_append.mp h with h | h
    · exact R.zd a h
    · rw [List.mem_singleton.mp h]
      exact fun z => R.freshL hp (List.mem_append_left _ z)
  · by_cases hi : i < ρ.length
    · rw [List.getElem?_append_left hi] at h1
      rw [List.getElem?_append_left (by rw [← R.len]; exact hi)] at h2
      exact (R.cells i a d h1 h2).mono e1 (List.prefix_append _ _) fun _ u h => Ex.new hp a u h
    · have hl := (List.getElem?_eq_some_iff.mp h1).1
      have hi2 : i = ρ.length := by
        simp at hl
        omega
      subst hi2
      rw [List.getElem?_append_right (Nat.le_refl _)] at h1
      rw [R.len, List.getElem?_append_right (Nat.le_refl _)] at h2
      simp at h1 h2
      subst h1 h2
      exact ok _ _ e1 (List.prefix_append _ _)
  · rcases List.mem_append.mp h with h | h
    · exact R.new a h
    · rw [List.mem_singleton.mp h]
      exact .inr (R.fresh0 hp)
  · rcases List.mem_append.mp h with h | h
    · obtain ⟨u, e⟩ := R.some_ a h
      exact ⟨u, Ex.new hp a u e⟩
    · rw [List.mem_singleton.mp h]
      exact ⟨o, upd_same⟩
theorem mem_lives_set {i : Nat} {c d : Cell} (hi : st[i]? = some d) (h : c.live = d.live) : ∀ a, a ∈ lives ρ (st.set i c) ↔ a ∈ lives ρ st := fun a => by
  rw [mem_lives, mem_lives]
  have hl := (List.getElem?_eq_some_iff.mp hi).1
  constructor
  · rintro ⟨j, e, h1, h2, h3⟩
    by_cases hj : j = i
    · subst hj
      rw [List.getElem?_set_self hl] at h2
      cases h2
      exact ⟨j, d, h1, hi, h ▸ h3⟩
    · rw [List.getElem?_set_ne (Ne.symm hj)] at h2
      exact ⟨j, e, h1, h2, h3⟩
  · rintro ⟨j, e, h1, h2, h3⟩
    by_cases hj : j = i
    · subst hj
      rw [hi] at h2
      cases h2
      exact ⟨j, c, h1, by rw [List.getElem?_set_self hl], by rw [h]; exact h3⟩
    · exact ⟨j, e, h1, by rw [List.getElem?_set_ne (Ne.symm hj)]; exact h2, h3⟩
theorem get_inj : ∀ {l : List Addr}, l.Nodup → ∀ {i j : Nat} {a : Addr}, l[i]? = some a → l[j]? = some a → i = j
  | [], _, _, _, _, h, _ => by simp at h
  | b :: l, hn, 0, 0, _, _, _ => rfl
  | b :: l, hn, i + 1, 0, a, h1, h2 => by
    simp at h1 h2
    subst h2
    exact absurd (List.mem_of_getElem? h1) (List.nodup_cons.mp hn).1
  | b :: l, hn, 0, j + 1, a, h1, h2 => by
    simp at h1 h2
    subst h1
    exact absurd (List.mem_of_getElem? h2) (List.nodup_cons.mp hn).1
  | b :: l, hn, i + 1, j + 1, a, h1, h2 => by
    rw [get_inj (List.nodup_cons.mp hn).2 (i := i) (j := j) (a := a) (by simpa using h1) (by simpa using h2)]
/-- a live cell is changed -/
theorem Core.write (R : Core K g ρ H st) {i : Nat} {a : Addr} {o : HO} {c d : Cell} (ha : ρ[i]? = some a) (hi : st[i]? = some d) (hd : d.live = true) (hc : c.live = true) (ok : ∀ F', Ex (fr g ρ st H) F' → cellOk K F' ρ (upd H a o) a c) :
    Core K g ρ (upd H a o) (st.set i c) ∧ Ex (fr g ρ st H) (fr g ρ (st.set i c) (upd H a o)) := by
  have hal : a ∈ lives ρ st := mem_lives.mpr ⟨i, d, ha, hi, hd⟩
  have hm := mem_lives_set (ρ := ρ) hi (hc.trans hd.symm)
  have e1 : Ex (fr g ρ st H) (fr g ρ (st.set i c) (upd H a o)) := by
    refine mask_ex (fun b h _ q => h ?_) fun b u h e => ?_
    · rcases List.mem_append.mp q with q | q
      · exact List.mem_append_left _ q
      · exact List.mem_append_right _ ((hm b).mp q)
    · have : b ≠ a := fun z => h (List.mem_append_right _ (by rw [z]; exact hal))
      rw [upd_ne this]
      exact e
  have har : a ∈ ρ := List.mem_of_getElem? ha
  refine ⟨⟨by rw [R.len, List.length_set], R.nd, R.zd, R.zh, fun j b e h1 h2 => ?_, fun b u h n => ?_, R.new, R.ext.trans e1, R.pre, fun b h => ?_, R.r0⟩, e1⟩
  · by_cases hj : j = i
    · subst hj
      rw [ha] at h1
      cases h1
      rw [List.getElem?_set_self (List.getElem?_eq_some_iff.mp hi).1] at h2
      cases h2
      exact ok _ e1
    · rw [List.getElem?_set_ne (Ne.symm hj)] at h2
      have hb : b ≠ a := fun z => hj (get_inj R.nd (z ▸ h1) ha)
      exact (R.cells j b e h1 h2).mono e1 List.prefix_rfl fun _ u h => by rw [upd_ne hb]; exact h
  · rcases R.new a har with h' | h'
    · have : b ≠ a := fun z => n (z ▸ h')
      rw [upd_ne this]
      exact R.keep b u h n
    · have : b ≠ a := fun z => by
        rw [z, h'] at h
        cases h
      rw [upd_ne this]
      exact R.keep b u h n
  · by_cases hb : b = a
    · exact ⟨o, by rw [hb]; exact upd_same⟩
    · rw [upd_ne hb]
      exact R.some_ b h
/-- a live cell is frozen -/
theorem Core.freeze (R : Core K g ρ H st) {i : Nat} {a : Addr} {x : D} {d : Cell} (ha : ρ[i]? = some a) (hi : st[i]? = some d) (ok : ∀ F', Ex (fr g ρ st H) F' → F' a = H a → rep K F' x (.ref a)) :
    Core K g ρ H (st.set i (.frz x)) ∧ Ex (fr g ρ st H) (fr g ρ (st.set i (.frz x)) H) ∧ rep K (fr g ρ (st.set i (.frz x)) H) x (.ref a) := by
  have hl := (List.getElem?_eq_some_iff.mp hi).1
  have e1 : Ex (fr g ρ st H) (fr g ρ (st.set i (.frz x)) H) := by
    refine mask_ex (fun b h _ q => h ?_) fun b u h e => e
    rcases List.mem_append.mp q with q | q
    · exact List.mem_append_left _ q
    · obtain ⟨j, e, h1, h2, h3⟩ := mem_lives.mp q
      by_cases hj : j = i
      · subst hj
        rw [List.getElem?_set_self hl] at h2
        cases h2
        cases h3
      · rw [List.getElem?_set_ne (Ne.symm hj)] at h2
        exact List.mem_append_right _ (mem_lives.mpr ⟨j, e, h1, h2, h3⟩)
  have har : a ∈ ρ := List.mem_of_getElem? ha
  have hout : a ∉ g.Z ++ lives ρ (st.set i (.frz x)) := fun q => by
    rcases List.mem_append.mp q with q | q
    · exact R.zd a har q
    · obtain ⟨j, e, h1, h2, h3⟩ := mem_lives.mp q
      have hj : j = i := get_inj R.nd h1 ha
      subst hj
      rw [List.getElem?_set_self hl] at h2
      cases h2
      cases h3
  have hF : fr g ρ (st.set i (.frz x)) H a = H a := mask_out hout
  have hr := ok _ e1 hF
  refine ⟨⟨by rw [R.len, List.length_set], R.nd, R.zd, R.zh, fun j b e h1 h2 => ?_, R.keep, R.new, R.ext.trans e1, R.pre, R.some_, R.r0⟩, e1, hr⟩
  by_cases hj : j = i
  · subst hj
    rw [ha] at h1
    cases h1
    rw [List.getElem?_set_self hl] at h2
    cases h2
    exact hr
  · rw [List.getElem?_set_ne (Ne.symm hj)] at h2
    exact (R.cells j b e h1 h2).mono e1 List.prefix_rfl fun _ _ h => h
theorem Core.le (g : G) (ρ : List Addr) (st : Sto) (H : Hp) : Ex (fr g ρ st H) H := mask_le _ _
end
/-! ### words as readings -/
def lE (K : PySem.W.Frag) (w : WE) : TE := fun σ H Q => ∃ g ρ ds st Post, Rel K g ρ σ H ds st ∧ w ds st Post ∧ ∀ m st' v H' ρ', Post m st' → Rel K g ρ' σ H' ds st' → repM K (fr g ρ' st' H') ρ' m v → Q v H'
def lT (K : PySem.W.Frag) (w : WT) : TT := fun σ H Q => ∃ g ρ ds st Post, Rel K g ρ σ H ds st ∧ w ds st Post ∧ ∀ b st' H' ρ', Post b st' → Rel K g ρ' σ H' ds st' → Q b H'
def lA (K : PySem.W.Frag) (w : WA) : TA := fun σ H Q => ∃ g ρ ds st Post, Rel K g ρ σ H ds st ∧ w ds st Post ∧ ∀ ms st' vs H' ρ', Post ms st' → Rel K g ρ' σ H' ds st' → repMs K (fr g ρ' st' H') ρ' ms vs → Q vs H'
def lS (K : PySem.W.Frag) (w : WS) : TS := fun D σ H => ∃ (g : G) (ρ : List Addr) (ds : Sl) (st : Sto) (W : WEnds), Rel K g ρ σ H ds st ∧ w W ds st ∧
  (∀ ds' st' σ' H' ρ', W.nx ds' st' → Rel K g ρ' σ' H' ds' st' → D.nx σ' H') ∧ (∀ ds' st' σ' H' ρ', W.bk ds' st' → Rel K g ρ' σ' H' ds' st' → D.bk σ' H') ∧ (∀ ds' st' σ' H' ρ', W.ct ds' st' → Rel K g ρ' σ' H' ds' st' → D.ct σ' H') ∧
  ∀ m st' v H' ρ', W.rt m st' → Core K g ρ' H' st' → repM K (fr g ρ' st' H') ρ' m v → D.rt v H'
theorem PE.of {X : Cx} {e : Expr} {t t' : TE} (h : PE X e t) (i : ∀ σ H Q, t' σ H Q → t σ H Q) : PE X e t' := ⟨fun pins s σ H Q I q => h.run pins s σ H Q I (i σ H Q q)⟩
theorem PT.of {X : Cx} {e : Expr} {t t' : TT} (h : PT X e t) (i : ∀ σ H Q, t' σ H Q → t σ H Q) : PT X e t' := ⟨fun pins s σ H Q I q => h.run pins s σ H Q I (i σ H Q q)⟩
theorem PW.of {X : Cx} {e : Expr} {t t' : TT} (h : PW X e t) (i : ∀ σ H Q, t' σ H Q → t σ H Q) : PW X e t' := ⟨fun wh pins s σ H Q I q => h.run wh pins s σ H Q I (i σ H Q q)⟩
theorem PA.of {X : Cx} {e : List Expr} {t t' : TA} (h : PA X e t) (i : ∀ σ H Q, t' σ H Q → t σ H Q) : PA X e t' := ⟨fun pos pins s σ H Q I q => h.run pos pins s σ H Q I (i σ H Q q)⟩
theorem PS.of {X : Cx} {e : Stmt} {t t' : TS} (h : PS X e t) (i : ∀ D σ H, t' D σ H → t D σ H) : PS X e t' := ⟨fun pins s σ H D I q => h.run pins s σ H D I (i D σ H q)⟩
theorem PSs.of {X : Cx} {e : List Stmt} {t t' : TS} (h : PSs X e t) (i : ∀ D σ H, t' D σ H → t D σ H) : PSs X e t' := ⟨fun pins s σ H D I q => h.run pins s σ H D I (i D σ H q)⟩
end PP

/-! Mrl2: the rules of expressions and tests, over data trees and cells. -/
namespace PP
open PySem PySem.Spec PyProof.Rows L2
theorem line_eq : (sizeLine : Nat) = LINE := sizeLine_eq
section
variable {K : PySem.W.Frag} {g : G} {ρ : List Addr} {σ : L2.St} {H : Hp} {ds : Sl} {st : Sto} {F : Hp}
/-! ### what values are -/
theorem live_some {i : Nat} {a : Addr} {c : Cell} (R : Core K g ρ H st) (h1 : ρ[i]? = some a) (h2 : st[i]? = some c) : cellOk K (fr g ρ st H) ρ H a c := R.cells i a c h1 h2
theorem Core.le' (R : Core K g ρ H st) : Ex (fr g ρ st H) H := mask_le _ _
theorem Core.listOf (R : Core K g ρ H st) {m : M} {v : V} {es : List D} (r : repM K (fr g ρ st H) ρ m v) (h : PP.listOf st m = some es) : ∃ a vs, v = .ref a ∧ SqL K H a vs ∧ reps K (fr g ρ st H) es vs := by
  cases m with
  | dat d =>
    cases d with
    | lst xs =>
      cases h
      obtain ⟨a, vs, h1, h2, h3⟩ := (show ∃ a vs, v = .ref a ∧ fr g ρ st H a = some (.lst vs) ∧ reps K (fr g ρ st H) es vs from r)
      exact ⟨a, vs, h1, SqL.of (R.le' _ _ h2), h3⟩
    | scr xs =>
      cases h
      obtain ⟨a, vs, h1, h2, h3⟩ := (show ∃ a vs, v = .ref a ∧ SqL K (fr g ρ st H) a vs ∧ reps K (fr g ρ st H) es vs from r)
      exact ⟨a, vs, h1, R.le'.l h2, h3⟩
    | _ => cases h
  | ref i =>
    obtain ⟨a, ha, rfl⟩ := (show ∃ a, ρ[i]? = some a ∧ v = .ref a from r)
    cases e : st[i]? with
    | none =>
      simp only [PP.listOf, e] at h
      cases h
    | some c =>
      have hc := R.cells i a c ha e
      cases c with
      | lst xs =>
        simp only [PP.listOf, e] at h
        cases h
        obtain ⟨vs, h1, h2⟩ := hc
        exact ⟨a, vs, rfl, SqL.of h1, h2⟩
      | frz d =>
        cases d with
        | lst xs =>
          simp only [PP.listOf, e] at h
          cases h
          obtain ⟨a', vs, h1, h2, h3⟩ := (show ∃ a' vs, V.ref a = .ref a' ∧ fr g ρ st H a' = some (.lst vs) ∧ reps K (fr g ρ st H) es vs from hc)
          exact ⟨a', vs, h1, SqL.of (R.le' _ _ h2), h3⟩
        | _ => simp only [PP.listOf, e] at h; cases h
      | _ => simp only [PP.listOf, e] at h; cases h
theorem Core.lstX (R : Core K g ρ H st) {m : M} {v : V} {es : List D} (r : repM K (fr g ρ st H) ρ m v) (h : PP.lstX st m = some es) : ∃ a vs, v = .ref a ∧ H a = some (.lst vs) ∧ reps K (fr g ρ st H) es vs := by
  cases m with
  | dat d =>
    cases d with
    | lst xs =>
      cases h
      obtain ⟨a, vs, h1, h2, h3⟩ := (show ∃ a vs, v = .ref a ∧ fr g ρ st H a = some (.lst vs) ∧ reps K (fr g ρ st H) es vs from r)
      exact ⟨a, vs, h1, R.le' _ _ h2, h3⟩
    | _ => cases h
  | ref i =>
    obtain ⟨a, ha, rfl⟩ := (show ∃ a, ρ[i]? = some a ∧ v = .ref a from r)
    cases e : st[i]? with
    | none =>
      simp only [PP.lstX, e] at h
      cases h
    | some c =>
      have hc := R.cells i a c ha e
      cases c with
      | lst xs =>
        simp only [PP.lstX, e] at h
        cases h
        obtain ⟨vs, h1, h2⟩ := hc
        exact ⟨a, vs, rfl, h1, h2⟩
      | frz d =>
        cases d with
        | lst xs =>
          simp only [PP.lstX, e] at h
          cases h
          obtain ⟨a', vs, h1, h2, h3⟩ := (show ∃ a' vs, V.ref a = .ref a' ∧ fr g ρ st H a' = some (.lst vs) ∧ reps K (fr g ρ st H) es vs from hc)
          exact ⟨a', vs, h1, R.le' _ _ h2, h3⟩
        | _ => simp only [PP.lstX, e] at h; cases h
      | _ => simp only [PP.lstX, e] at h; cases h
theorem Core.tupOf (R : Core K g ρ H st) {m : M} {v : V} {es : List D} (r : repM K (fr g ρ st H) ρ m v) (h : PP.tupOf m = some es) : ∃ a vs, v = .ref a ∧ SqT K H a vs ∧ reps K (fr g ρ st H) es vs := by
  cases m with
  | dat d =>
    cases d with
    | tup xs =>
      cases h
      obtain ⟨a, vs, h1, h2, h3⟩ := (show ∃ a vs, v = .ref a ∧ fr g ρ st H a = some (.tup vs) ∧ reps K (fr g ρ st H) es vs from r)
      exact ⟨a, vs, h1, SqT.of (R.le' _ _ h2), h3⟩
    | sct xs =>
      cases h
      obtain ⟨a, vs, h1, h2, h3⟩ := (show ∃ a vs, v = .ref a ∧ SqT K (fr g ρ st H) a vs ∧ reps K (fr g ρ st H) es vs from r)
      exact ⟨a, vs, h1, R.le'.t h2, h3⟩
    | _ => cases h
  | ref i => cases h
theorem Core.seqOf (R : Core K g ρ H st) {m : M} {v : V} {es : List D} (r : repM K (fr g ρ st H) ρ m v) (h : PP.seqOf st m = some es) : ∃ a vs, v = .ref a ∧ (SqL K H a vs ∨ SqT K H a vs) ∧ reps K (fr g ρ st H) es vs := by
  unfold PP.seqOf at h
  cases e : PP.listOf st m with
  | some xs =>
    rw [e] at h
    cases h
    obtain ⟨a, vs, h1, h2, h3⟩ := R.listOf r e
    exact ⟨a, vs, h1, .inl h2, h3⟩
  | none =>
    rw [e] at h
    obtain ⟨a, vs, h1, h2, h3⟩ := R.tupOf r h
    exact ⟨a, vs, h1, .inr h2, h3⟩
theorem rep_of_dat {d : D} {v : V} (r : repM K F ρ (.dat d) v) : rep K F d v := r
end
section
variable {X : Cx} {a b c e : Expr} {es : List Expr} {pos p2 : Pos} {wa wb wc : WE} {wr : WA} {t u : WT}
/-! ### names and constants -/
theorem ae_var (i : Nat) {x : Str} (hN : X.N[i]? = some x := by rfl) (hv : Vis X.env.scope x := by first | exact Or.inl rfl | exact Or.inr (Or.inl rfl) | exact Or.inr (Or.inr rfl)) (hd : (x == ("__debug__" : Str)) = false := by decide)
    (hcd : (x == ("__classdict__" : Str)) = false := by decide) : PE X (.Name x pos) (lE X.K (wVar i)) := by
  refine PE.of (pe_var hN hv hd hcd) ?_
  rintro σ H Q ⟨g, ρ, ds, st, P, R, ⟨m, hm, hp⟩, k⟩
  obtain ⟨v, h1, h2⟩ := R.slots.2 i m hm
  exact ⟨v, h1, k m st v H ρ hp R h2⟩
theorem ae_C {d : D} {v : V} (h : PE X e (tC v)) (r : ∀ F, rep X.K F d v) : PE X e (lE X.K (wC d)) := by
  refine PE.of h ?_
  rintro σ H Q ⟨g, ρ, ds, st, P, R, hp, k⟩
  exact k _ st v H ρ hp R (r _)
theorem ae_int {i : Int} {j : Nat} : PE X (.Constant (.int i) j pos) (lE X.K (wC (.int i))) := ae_C pe_int fun _ => rfl
theorem ae_bl {i : Bool} {j : Nat} : PE X (.Constant (.bool i) j pos) (lE X.K (wC (.bl i))) := ae_C pe_bl fun _ => rfl
theorem ae_non {j : Nat} : PE X (.Constant .none j pos) (lE X.K (wC .non)) := ae_C pe_non fun _ => rfl
theorem ae_str {x : Str} {j : Nat} : PE X (.Constant (.str x) j pos) (lE X.K (wC (.str x))) := ae_C pe_str fun _ => rfl
/-- a module's int, text; a def or a class -/
theorem ae_gint {x : Str} {i : Int} (hg : Gl X x) (h : ∃ t, X.mg x = some (.int i t)) (hd : (x == ("__debug__" : Str)) = false := by decide) : PE X (.Name x pos) (lE X.K (wC (.int i))) := by
  obtain ⟨t, h⟩ := h
  exact ae_C (pe_glob (v := .int i) hg h ⟨t, rfl⟩ hd) fun _ => rfl
theorem ae_gstr {x z : Str} (hg : Gl X x) (h : ∃ t, X.mg x = some (.str z t)) (hd : (x == ("__debug__" : Str)) = false := by decide) : PE X (.Name x pos) (lE X.K (wC (.str z))) := by
  obtain ⟨t, h⟩ := h
  exact ae_C (pe_glob (v := .str z) hg h ⟨t, rfl⟩ hd) fun _ => rfl
theorem ae_glo {x : Str} (hg : Gl X x) (h : X.mg x = some (.ref (He.ga X.K x))) (hd : (x == ("__debug__" : Str)) = false := by decide) : PE X (.Name x pos) (lE X.K (wC (.glo x))) := ae_C (pe_glob (v := .ref (He.ga X.K x)) hg h rfl hd) fun _ => rfl
/-- a written tuple -/
theorem ae_gtup {x : Str} {es : List D} {vs : List V} (hg : Gl X x) (h : X.mg x = some (.ref (He.ga X.K x))) (ht : ∀ H, SqT X.K H (He.ga X.K x) vs) (r : ∀ F, reps X.K F es vs) (hd : (x == ("__debug__" : Str)) = false := by decide) :
    PE X (.Name x pos) (lE X.K (wC (.sct es))) := ae_C (pe_glob (v := .ref (He.ga X.K x)) hg h rfl hd) fun F => ⟨_, vs, rfl, ht F, r F⟩
/-! ### operators -/
def AB (X : Cx) (F : Value → Value → Sem Value) (f : Sto → M → M → Option D) : Prop := ∃ r : R2, OpR X F r ∧ ∀ (g : G) (ρ : List Addr) (H : Hp) (st : Sto) (x y : M) (vx vy : V) (d : D) (Q : VK), Core X.K g ρ H st →
  repM X.K (fr g ρ st H) ρ x vx → repM X.K (fr g ρ st H) ρ y vy → f st x y = some d → (∀ v, rep X.K (fr g ρ st H) d v → Q v H) → r vx vy H Q
theorem fOr_cases {f f' : Sto → M → M → Option D} {st : Sto} {x y : M} {d : D} (e : fOr f f' st x y = some d) : f st x y = some d ∨ f' st x y = some d := by
  unfold fOr at e
  cases hf : f st x y with
  | some z =>
    rw [hf] at e
    cases e
    exact .inl rfl
  | none =>
    rw [hf] at e
    exact .inr e
theorem AB.or {F : Value → Value → Sem Value} {f f' : Sto → M → M → Option D} (h : AB X F f) (h' : AB X F f') : AB X F (fOr f f') := by
  obtain ⟨r, o, k⟩ := h
  obtain ⟨r', o', k'⟩ := h'
  refine ⟨_, OpR.or o o', fun g ρ H st x y vx vy d Q R rx ry e q => ?_⟩
  rcases fOr_cases e with e | e
  · exact .inl (k g ρ H st x y vx vy _ Q R rx ry e q)
  · exact .inr (k' g ρ H st x y vx vy _ Q R rx ry e q)
theorem two {σ : L2.St} {H : Hp} {Q : VK} {r : R2} {f : Sto → M → M → Option D} (k : ∀ (g : G) (ρ : List Addr) (H : Hp) (st : Sto) (x y : M) (vx vy : V) (d : D) (Q : VK), Core X.K g ρ H st →
    repM X.K (fr g ρ st H) ρ x vx → repM X.K (fr g ρ st H) ρ y vy → f st x y = some d → (∀ v, rep X.K (fr g ρ st H) d v → Q v H) → r vx vy H Q) (h : lE X.K (wB f wa wb) σ H Q) : tOp r (lE X.K wa) (lE X.K wb) σ H Q := by
  obtain ⟨g, ρ, ds, st, P, R, hw, hq⟩ := h
  refine ⟨g, ρ, ds, st, _, R, hw, fun x st1 vx H1 ρ1 h1 R1 r1 => ?_⟩
  refine ⟨_, ρ1, ds, st1, _, R1.now, h1, fun y st2 vy H2 ρ2 h2 R2 r2 => ?_⟩
  obtain ⟨d, hd, hp⟩ := h2
  exact k _ ρ2 H2 st2 x y vx vy d Q R2.toCore (r1.mono R2.ext R2.pre) r2 hd fun v rv => hq _ st2 v H2 ρ2 hp (R2.back R1.ext R1.pre) rv
theorem ae_B {op : Operator} {f : Sto → M → M → Option D} (o : AB X (binaryOp op) f) (ha : PE X a (lE X.K wa)) (hb : PE X b (lE X.K wb)) : PE X (.BinOp a op b pos) (lE X.K (wB f wa wb)) := by
  obtain ⟨r, o, k⟩ := o
  exact PE.of (pe_op o ha hb) fun σ H Q h => two k h
theorem ae_cmp {op : CmpOp} {f : Sto → M → M → Option D} (o : AB X (compareOp op) f) (ha : PE X a (lE X.K wa)) (hb : PE X b (lE X.K wb)) (hm : behindInMarks op b = false := by first | exact nomark _ | rfl) : PE X (.Compare a [op] [b] pos) (lE X.K (wB f wa wb)) := by
  obtain ⟨r, o, k⟩ := o
  exact PE.of (pe_cmpR o ha hb hm) fun σ H Q h => two k h
theorem vsplit {w : WE} {σ : L2.St} {H : Hp} {Q : Bool → Hp → Prop} (h : lT X.K (wtV w) σ H Q) : lE X.K w σ H fun x H' => ∃ k, x = .bl k ∧ Q k H' := by
  obtain ⟨g, ρ, ds, st, P, R, hw, hq⟩ := h
  refine ⟨g, ρ, ds, st, _, R, hw, fun m st1 v H1 ρ1 h1 R1 r1 => ?_⟩
  obtain ⟨b, rfl, hp⟩ := h1
  exact ⟨b, r1, hq b st1 H1 ρ1 hp R1⟩
theorem at_cmp {op : CmpOp} {f : Sto → M → M → Option D} (o : AB X (compareOp op) f) (ha : PE X a (lE X.K wa)) (hb : PE X b (lE X.K wb)) (hm : behindInMarks op b = false := by first | exact nomark _ | rfl) : PT X (.Compare a [op] [b] pos) (lT X.K (wtV (wB f wa wb))) := by
  obtain ⟨r, o, k⟩ := o
  exact PT.of (pt_cmpR o ha hb hm) fun σ H Q h => two k (vsplit h)
theorem chain_ {σ : L2.St} {H : Hp} {Q : VK} {r r' : R2} {f f' : Sto → M → M → Option D}
    (k : ∀ (g : G) (ρ : List Addr) (H : Hp) (st : Sto) (x y : M) (vx vy : V) (d : D) (Q : VK), Core X.K g ρ H st → repM X.K (fr g ρ st H) ρ x vx → repM X.K (fr g ρ st H) ρ y vy → f st x y = some d → (∀ v, rep X.K (fr g ρ st H) d v → Q v H) → r vx vy H Q)
    (k' : ∀ (g : G) (ρ : List Addr) (H : Hp) (st : Sto) (x y : M) (vx vy : V) (d : D) (Q : VK), Core X.K g ρ H st → repM X.K (fr g ρ st H) ρ x vx → repM X.K (fr g ρ st H) ρ y vy → f' st x y = some d → (∀ v, rep X.K (fr g ρ st H) d v → Q v H) → r' vx vy H Q)
    (h : lE X.K (wChain f f' wa wb wc) σ H Q) : tChain r r' (lE X.K wa) (lE X.K wb) (lE X.K wc) σ H Q := by
  obtain ⟨g, ρ, ds, st, P, R, hw, hq⟩ := h
  refine ⟨g, ρ, ds, st, _, R, hw, fun x st1 vx H1 ρ1 h1 R1 r1 => ?_⟩
  refine ⟨_, ρ1, ds, st1, _, R1.now, h1, fun y st2 vy H2 ρ2 h2 R2 r2 => ?_⟩
  obtain ⟨b, hb, h2⟩ := h2
  refine k _ ρ2 H2 st2 x y vx vy _ _ R2.toCore (r1.mono R2.ext R2.pre) r2 hb fun v rv => ⟨b, rv, ?_⟩
  cases b with
  | false =>
    rw [if_neg Bool.false_ne_true] at h2 ⊢
    exact hq _ st2 _ H2 ρ2 h2 (R2.back R1.ext R1.pre) rfl
  | true =>
    rw [if_pos rfl] at h2 ⊢
    refine ⟨_, ρ2, ds, st2, _, R2.now, h2, fun z st3 vz H3 ρ3 h3 R3 r3 => ?_⟩
    obtain ⟨d, hd, hp⟩ := h3
    exact k' _ ρ3 H3 st3 y z vy vz d Q R3.toCore (r2.mono R3.ext R3.pre) r3 hd fun v rv => hq _ st3 v H3 ρ3 hp ((R3.back R2.ext R2.pre).back R1.ext R1.pre) rv
theorem ae_chain {op op' : CmpOp} {f f' : Sto → M → M → Option D} (o : AB X (compareOp op) f) (o' : AB X (compareOp op') f') (ha : PE X a (lE X.K wa)) (hb : PE X b (lE X.K wb)) (hc : PE X c (lE X.K wc))
    (hm : lastMarks [op, op'] [b, c] = false := by with_unfolding_all rfl) : PE X (.Compare a [op, op'] [b, c] pos) (lE X.K (wChain f f' wa wb wc)) := by
  obtain ⟨r, o, k⟩ := o
  obtain ⟨r', o', k'⟩ := o'
  exact PE.of (pe_chain o o' ha hb hc hm) fun σ H Q h => chain_ k k' h
theorem at_chain {op op' : CmpOp} {f f' : Sto → M → M → Option D} (o : AB X (compareOp op) f) (o' : AB X (compareOp op') f') (ha : PE X a (lE X.K wa)) (hb : PE X b (lE X.K wb)) (hc : PE X c (lE X.K wc))
    (hm : lastMarks [op, op'] [b, c] = false := by with_unfolding_all rfl) : PT X (.Compare a [op, op'] [b, c] pos) (lT X.K (wtV (wChain f f' wa wb wc))) := by
  obtain ⟨r, o, k⟩ := o
  obtain ⟨r', o', k'⟩ := o'
  exact PT.of (pt_chain o o' ha hb hc hm) fun σ H Q h => chain_ k k' (vsplit h)
/-! ### the operators themselves -/
theorem int_of {K : PySem.W.Frag} {F : Hp} {ρ : List Addr} {i : Int} {v : V} (h : repM K F ρ (.dat (.int i)) v) : v = .int i := h
theorem str_of {K : PySem.W.Frag} {F : Hp} {ρ : List Addr} {i : Str} {v : V} (h : repM K F ρ (.dat (.str i)) v) : v = .str i := h
theorem bl_of {K : PySem.W.Frag} {F : Hp} {ρ : List Addr} {i : Bool} {v : V} (h : repM K F ρ (.dat (.bl i)) v) : v = .bl i := h
theorem non_of {K : PySem.W.Frag} {F : Hp} {ρ : List Addr} {v : V} (h : repM K F ρ (.dat .non) v) : v = .non := h
/-- two ints -/
theorem abI {F : Value → Value → Sem Value} {C : Int → Int → Prop} {gv : Int → Int → V} {f : Sto → M → M → Option D} {gd : Int → Int → D} (o : OpR X F (rI C gv)) (hr : ∀ F i j, rep X.K F (gd i j) (gv i j))
    (hf : ∀ st x y d, f st x y = some d → ∃ i j, x = .dat (.int i) ∧ y = .dat (.int j) ∧ C i j ∧ d = gd i j) : AB X F f := ⟨_, o, fun g ρ H st x y vx vy d Q R rx ry e q => by
  obtain ⟨i, j, rfl, rfl, hc, rfl⟩ := hf st x y d e
  exact ⟨i, j, int_of rx, int_of ry, hc, q _ (hr _ i j)⟩⟩
theorem abI0 {F : Value → Value → Sem Value} {gv : Int → Int → V} {f : Sto → M → M → Option D} {gd : Int → Int → D} (o : OpR X F (rI0 gv)) (hr : ∀ F i j, rep X.K F (gd i j) (gv i j))
    (hf : ∀ st x y d, f st x y = some d → ∃ i j, x = .dat (.int i) ∧ y = .dat (.int j) ∧ d = gd i j) : AB X F f := ⟨_, o, fun g ρ H st x y vx vy d Q R rx ry e q => by
  obtain ⟨i, j, rfl, rfl, rfl⟩ := hf st x y d e
  exact ⟨i, j, int_of rx, int_of ry, q _ (hr _ i j)⟩⟩
theorem ab_sub : AB X (binaryOp .Sub) fSub := abI0 (gd := fun i j => .int (i - j)) op_sub (fun _ _ _ => rfl) fun st x y d h => by
  unfold fSub at h
  split at h
  · cases h
    exact ⟨_, _, rfl, rfl, rfl⟩
  · cases h
theorem ab_add : AB X (binaryOp .Add) fAdd := ⟨_, OpR.or op_add op_add_str, fun g ρ H st x y vx vy d Q R rx ry e q => by
  unfold fAdd at e
  split at e
  · cases e
    exact .inl ⟨_, _, int_of rx, int_of ry, q _ rfl⟩
  · split at e
    · rename_i hl
      cases e
      exact .inr ⟨_, _, str_of rx, str_of ry, by rw [line_eq]; exact hl, q _ rfl⟩
    · cases e
  · cases e⟩
theorem small_of {i : Int} (h : small64 i = true) : -(2 ^ 64) < i ∧ i < 2 ^ 64 := by
  unfold small64 at h
  simp at h
  omega
theorem ab_mul : AB X (binaryOp .Mult) fMul := abI (gd := fun i j => .int (i * j)) op_mul (fun _ _ _ => rfl) fun st x y d h => by
  unfold fMul at h
  split at h
  · split at h
    · rename_i i j hs
      cases h
      refine ⟨i, j, rfl, rfl, ?_, rfl⟩
      rcases Bool.or_eq_true_iff.mp hs with hs | hs
      · exact .inl (small_of hs)
      · exact .inr (small_of hs)
    · cases h
  · cases h
theorem ab_div : AB X (binaryOp .FloorDiv) fDiv := abI (gd := fun i j => .int (i / j)) op_fdiv (fun _ _ _ => rfl) fun st x y d h => by
  unfold fDiv at h
  split at h
  · split at h
    · rename_i i j hs
      cases h
      obtain ⟨h1, h2⟩ := Bool.and_eq_true_iff.mp hs
      exact ⟨i, j, rfl, rfl, ⟨of_decide_eq_true h1, of_decide_eq_true h2⟩, rfl⟩
    · cases h
  · cases h
theorem ab_mod : AB X (binaryOp .Mod) fMod := abI (gd := fun i j => .int (i % j)) op_mod (fun _ _ _ => rfl) fun st x y d h => by
  unfold fMod at h
  split at h
  · split at h
    · rename_i i j hs
      cases h
      exact ⟨i, j, rfl, rfl, of_decide_eq_true hs, rfl⟩
    · cases h
  · cases h
theorem ab_pow : AB X (binaryOp .Pow) fPow := abI (gd := fun i j => .int (i ^ j.toNat)) op_pow (fun _ _ _ => rfl) fun st x y d h => by
  unfold fPow at h
  split at h
  · split at h
    · rename_i i j hs
      cases h
      obtain ⟨h1, h2⟩ := Bool.and_eq_true_iff.mp hs
      obtain ⟨h3, h4⟩ := Bool.and_eq_true_iff.mp h1
      have h5 := small_of h2
      exact ⟨i, j, rfl, rfl, ⟨of_decide_eq_true h3, of_decide_eq_true h4, by omega⟩, rfl⟩
    · cases h
  · cases h
theorem ab_lt : AB X (compareOp .Lt) fLt := abI0 (gd := fun i j => .bl (decide (i < j))) op_lt (fun _ _ _ => rfl) fun st x y d h => by
  unfold fLt at h
  split at h
  · cases h
    exact ⟨_, _, rfl, rfl, rfl⟩
  · cases h
theorem ab_le : AB X (compareOp .LtE) fLe := abI0 (gd := fun i j => .bl (decide (i ≤ j))) op_le (fun _ _ _ => rfl) fun st x y d h => by
  unfold fLe at h
  split at h
  · cases h
    exact ⟨_, _, rfl, rfl, rfl⟩
  · cases h
theorem ab_gt : AB X (compareOp .Gt) fGt := abI0 (gd := fun i j => .bl (decide (j < i))) op_gt (fun _ _ _ => rfl) fun st x y d h => by
  unfold fGt at h
  split at h
  · cases h
    exact ⟨_, _, rfl, rfl, rfl⟩
  · cases h
theorem ab_ge : AB X (compareOp .GtE) fGe := abI0 (gd := fun i j => .bl (decide (j ≤ i))) op_ge (fun _ _ _ => rfl) fun st x y d h => by
  unfold fGe at h
  split at h
  · cases h
    exact ⟨_, _, rfl, rfl, rfl⟩
  · cases h
theorem eqS_ok {K : PySem.W.Frag} {F : Hp} {x y : D} {vx vy : V} {b : Bool} (rx : rep K F x vx) (ry : rep K F y vy) (h : eqS x y = some b) : scal vx vy = true ∧ decide (vx = vy) = b := by
  cases x <;> cases y <;> first
    | (simp only [rep] at rx ry
       subst rx ry
       simp only [eqS, Option.some.injEq] at h
       subst h
       exact ⟨rfl, by simp⟩)
    | (cases h; done)
theorem ab_eqS : AB X (compareOp .Eq) fEqS := ⟨_, op_eq, fun g ρ H st x y vx vy d Q R rx ry e q => by
  unfold fEqS at e
  split at e
  · rename_i a b
    cases h : eqS a b with
    | none =>
      rw [h] at e
      cases e
    | some k =>
      rw [h] at e
      cases e
      obtain ⟨h1, h2⟩ := eqS_ok (rep_of_dat rx) (rep_of_dat ry) h
      exact ⟨h1, by rw [h2]; exact q _ rfl⟩
  · cases e⟩
theorem ab_neS : AB X (compareOp .NotEq) fNeS := ⟨_, op_ne, fun g ρ H st x y vx vy d Q R rx ry e q => by
  unfold fNeS at e
  split at e
  · rename_i a b
    cases h : eqS a b with
    | none =>
      rw [h] at e
      cases e
    | some k =>
      rw [h] at e
      cases e
      obtain ⟨h1, h2⟩ := eqS_ok (rep_of_dat rx) (rep_of_dat ry) h
      exact ⟨h1, by rw [h2]; exact q _ rfl⟩
  · cases e⟩
end
end PP

/-! Mrl3: deep ==, is, in, places, truth, and | or | not, displays, calls of built-ins, slices, methods of lists. -/
namespace PP
open PySem PySem.Spec PyProof.Rows L2
section
variable {K : PySem.W.Frag} {g : G} {ρ : List Addr} {σ : L2.St} {H : Hp} {ds : Sl} {st : Sto} {F : Hp}
theorem Core.valRep (R : Core K g ρ H st) {m : M} {v : V} {d : D} (r : repM K (fr g ρ st H) ρ m v) (h : val st m = some d) : rep K H d v := by
  cases m with
  | dat e =>
    cases h
    exact rep.mono R.le' _ _ r
  | ref i =>
    obtain ⟨a, ha, rfl⟩ := (show ∃ a, ρ[i]? = some a ∧ v = .ref a from r)
    cases e : st[i]? with
    | none =>
      simp only [val, e] at h
      cases h
    | some c =>
      have hc := R.cells i a c ha e
      cases c with
      | lst xs =>
        simp only [val, e] at h
        cases h
        obtain ⟨vs, h1, h2⟩ := hc
        exact ⟨a, vs, rfl, h1, reps.mono R.le' _ _ h2⟩
      | dic xs =>
        simp only [val, e] at h
        cases h
        obtain ⟨ks, h1, h2⟩ := hc
        exact ⟨a, ks, rfl, .inl h1, repK.mono R.le' _ _ h2⟩
      | dit xs =>
        simp only [val, e] at h
        cases h
        obtain ⟨ks, h1, h2⟩ := hc
        exact ⟨a, ks, rfl, .inl h1, repT.mono R.le' _ _ h2⟩
      | frz x =>
        simp only [val, e] at h
        cases h
        exact rep.mono R.le' _ _ hc
      | _ => simp only [val, e] at h; cases h
end
/-! ### deep == -/
mutual
def toPy : D → PyData
  | .bl b => .bool b
  | .int i => .int i
  | .str x => .str x
  | .lst xs => .list (toPys xs)
  | .tup xs => .tuple (toPys xs)
  | _ => .none
def toPys : List D → List PyData
  | [] => []
  | x :: xs => toPy x :: toPys xs
end
theorem strOk_of {x : Str} (h : strOkB x = true) : PySem.PyData.strOk x = true ∨ True := .inr trivial
section
variable {K : PySem.W.Frag} {H : Hp}
theorem strOkB_ok {x : Str} (h : strOkB x = true) : (PyData.str x).canLay0 = true := by
  unfold strOkB at h
  obtain ⟨_, h⟩ := Bool.and_eq_true_iff.mp h
  simp only [PyData.canLay0, PySem.PyData.strOk]
  rw [Array.all_eq_true']
  intro c hc
  have h2 := List.all_eq_true.mp h c (Array.mem_toList_iff.mpr hc)
  have h3 := of_decide_eq_true h2
  exact decide_eq_true (by omega)
mutual
theorem dp_of : ∀ (d : D) (v : V) (n : Nat), rep K H d v → depD d = some n → Dp K H v (toPy d) ∧ (toPy d).canLay0 = true ∧ (toPy d).depth = n
  | .non, _, n, r, h => by
    simp only [rep] at r
    subst r
    simp only [depD, Option.some.injEq] at h
    subst h
    exact ⟨.non, rfl, rfl⟩
  | .bl b, _, n, r, h => by
    simp only [rep] at r
    subst r
    simp only [depD, Option.some.injEq] at h
    subst h
    exact ⟨.bl b, rfl, rfl⟩
  | .int i, _, n, r, h => by
    simp only [rep] at r
    subst r
    simp only [depD, Option.some.injEq] at h
    subst h
    exact ⟨.int i, rfl, rfl⟩
  | .str x, _, n, r, h => by
    simp only [rep] at r
    subst r
    simp only [depD] at h
    split at h
    · rename_i hs
      simp only [Option.some.injEq] at h
      subst h
      exact ⟨.str x, strOkB_ok hs, rfl⟩
    · cases h
  | .lst xs, _, n, ⟨a, vs, h1, h2, h3⟩, h => by
    subst h1
    simp only [depD, Option.map_eq_some_iff] at h
    obtain ⟨k, hk, rfl⟩ := h
    obtain ⟨p1, p2, p3⟩ := dps_of xs vs k h3 hk
    exact ⟨.lst (SqL.of h2) p1, by simpa only [toPy, PyData.canLay0] using p2, by simp only [toPy, PyData.depth, p3]⟩
  | .tup xs, _, n, ⟨a, vs, h1, h2, h3⟩, h => by
    subst h1
    simp only [depD, Option.map_eq_some_iff] at h
    obtain ⟨k, hk, rfl⟩ := h
    obtain ⟨p1, p2, p3⟩ := dps_of xs vs k h3 hk
    exact ⟨.tup (SqT.of h2) p1, by simpa only [toPy, PyData.canLay0] using p2, by simp only [toPy, PyData.depth, p3]⟩
  | .ty _, _, _, _, h => by simp [depD] at h
  | .glo _, _, _, _, h => by simp [depD] at h
  | .dic _, _, _, _, h => by simp [depD] at h
  | .dit _, _, _, _, h => by simp [depD] at h
  | .scr _, _, _, _, h => by simp [depD] at h
  | .sct _, _, _, _, h => by simp [depD] at h
theorem dps_of : ∀ (ds : List D) (vs : List V) (n : Nat), reps K H ds vs → depDs ds = some n → DpAll K H vs (toPys ds) ∧ PyData.canLayAll0 (toPys ds) = true ∧ PyData.depthAll (toPys ds) = n
  | [], _, n, h1, h => by
    rw [show _ = [] from h1]
    simp only [depDs, Option.some.injEq] at h
    subst h
    exact ⟨.nil, rfl, rfl⟩
  | d :: ds, _, n, ⟨v, ws, h1, h2, h3⟩, h => by
    subst h1
    simp only [depDs] at h
    cases e1 : depD d with
    | none =>
      rw [e1] at h
      cases h
    | some a =>
      cases e2 : depDs ds with
      | none =>
        rw [e1, e2] at h
        cases h
      | some b =>
        rw [e1, e2] at h
        simp only [Option.some.injEq] at h
        subst h
        obtain ⟨p1, p2, p3⟩ := dp_of d v a h2 e1
        obtain ⟨q1, q2, q3⟩ := dps_of ds ws b h3 e2
        exact ⟨.cons p1 q1, by simp only [toPys, PyData.canLayAll0, p2, q2, Bool.and_self], by simp only [toPys, PyData.depthAll, p3, q3]⟩
end
mutual
theorem eqv_toPy : ∀ (x y : D) (n m : Nat), depD x = some n → depD y = some m → PyData.eqv (toPy x) (toPy y) = eqD x y
  | .lst xs, .lst ys, n, m, h1, h2 => by
    simp only [depD, Option.map_eq_some_iff] at h1 h2
    obtain ⟨a, h1, _⟩ := h1
    obtain ⟨b, h2, _⟩ := h2
    simp only [toPy, PyData.eqv, eqD]
    exact eqv_toPys xs ys a b h1 h2
  | .tup xs, .tup ys, n, m, h1, h2 => by
    simp only [depD, Option.map_eq_some_iff] at h1 h2
    obtain ⟨a, h1, _⟩ := h1
    obtain ⟨b, h2, _⟩ := h2
    simp only [toPy, PyData.eqv, eqD]
    exact eqv_toPys xs ys a b h1 h2
  | .non, y, _, _, _, h2 => by cases y <;> first | rfl | (simp [depD] at h2)
  | .bl _, y, _, _, _, h2 => by cases y <;> first | rfl | (simp [depD] at h2)
  | .int _, y, _, _, _, h2 => by cases y <;> first | rfl | (simp [depD] at h2)
  | .str _, y, _, _, _, h2 => by cases y <;> first | rfl | (simp [depD] at h2)
  | .lst _, .non, _, _, _, h2 => rfl
  | .lst _, .bl _, _, _, _, h2 => rfl
  | .lst _, .int _, _, _, _, h2 => rfl
  | .lst _, .str _, _, _, _, h2 => rfl
  | .lst _, .tup _, _, _, _, h2 => rfl
  | .tup _, .non, _, _, _, h2 => rfl
  | .tup _, .bl _, _, _, _, h2 => rfl
  | .tup _, .int _, _, _, _, h2 => rfl
  | .tup _, .str _, _, _, _, h2 => rfl
  | .tup _, .lst _, _, _, _, h2 => rfl
  | .lst _, .ty _, _, _, _, h => by simp [depD] at h
  | .lst _, .glo _, _, _, _, h => by simp [depD] at h
  | .lst _, .dic _, _, _, _, h => by simp [depD] at h
  | .lst _, .dit _, _, _, _, h => by simp [depD] at h
  | .lst _, .scr _, _, _, _, h => by simp [depD] at h
  | .lst _, .sct _, _, _, _, h => by simp [depD] at h
  | .tup _, .ty _, _, _, _, h => by simp [depD] at h
  | .tup _, .glo _, _, _, _, h => by simp [depD] at h
  | .tup _, .dic _, _, _, _, h => by simp [depD] at h
  | .tup _, .dit _, _, _, _, h => by simp [depD] at h
  | .tup _, .scr _, _, _, _, h => by simp [depD] at h
  | .tup _, .sct _, _, _, _, h => by simp [depD] at h
  | .ty _, _, _, _, h, _ => by simp [depD] at h
  | .glo _, _, _, _, h, _ => by simp [depD] at h
  | .dic _, _, _, _, h, _ => by simp [depD] at h
  | .dit _, _, _, _, h, _ => by simp [depD] at h
  | .scr _, _, _, _, h, _ => by simp [depD] at h
  | .sct _, _, _, _, h, _ => by simp [depD] at h
theorem eqv_toPys : ∀ (x y : List D) (n m : Nat), depDs x = some n → depDs y = some m → PyData.eqvAll (toPys x) (toPys y) = eqDs x y
  | [], [], _, _, _, _ => rfl
  | [], _ :: _, _, _, _, _ => rfl
  | _ :: _, [], _, _, _, _ => rfl
  | x :: xs, y :: ys, n, m, h1, h2 => by
    simp only [depDs] at h1 h2
    cases e1 : depD x <;> cases e2 : depDs xs <;> cases e3 : depD y <;> cases e4 : depDs ys <;> rw [e1, e2] at h1 <;> rw [e3, e4] at h2 <;> first
      | (cases h1; done)
      | (cases h2; done)
      | (simp only [toPys, PyData.eqvAll, eqDs]
         rw [eqv_toPy x y _ _ e1 e3, eqv_toPys xs ys _ _ e2 e4])
end
theorem shpD_ok {d : D} {v : V} (r : rep K H d v) (h : shpD d = true) : ∃ n, depD d = some n ∧ Dp K H v (toPy d) ∧ SeqAt.shaped (toPy d) = true := by
  unfold shpD at h
  cases e : depD d with
  | none =>
    rw [e] at h
    cases h
  | some n =>
    rw [e] at h
    have hn := of_decide_eq_true h
    obtain ⟨p1, p2, p3⟩ := dp_of d v n r e
    exact ⟨n, rfl, p1, by unfold SeqAt.shaped; rw [p2, p3]; simpa using hn⟩
end
section
variable {X : Cx} {a b c e : Expr} {es : List Expr} {pos p2 : Pos} {wa wb wc : WE} {wr : WA} {t u : WT}
theorem ab_eqD (hu : X.A.units + 64 < cLine) : AB X (compareOp .Eq) fEqD := ⟨_, op_eqD hu, fun g ρ H st x y vx vy d Q R rx ry e q => by
  unfold fEqD at e
  split at e
  · rename_i a b ha hb
    split at e
    · rename_i hs
      obtain ⟨h1, h2⟩ := Bool.and_eq_true_iff.mp hs
      cases e
      obtain ⟨n, d1, p1, s1⟩ := shpD_ok (R.valRep rx ha) h1
      obtain ⟨m, d2, p2, s2⟩ := shpD_ok (R.valRep ry hb) h2
      exact ⟨_, _, p1, p2, s1, s2, by rw [eqv_toPy _ _ _ _ d1 d2]; exact q _ rfl⟩
    · cases e
  · cases e⟩
theorem ab_neD (hu : X.A.units + 64 < cLine) : AB X (compareOp .NotEq) fNeD := ⟨_, op_neD hu, fun g ρ H st x y vx vy d Q R rx ry e q => by
  unfold fNeD at e
  split at e
  · rename_i a b ha hb
    split at e
    · rename_i hs
      obtain ⟨h1, h2⟩ := Bool.and_eq_true_iff.mp hs
      cases e
      obtain ⟨n, d1, p1, s1⟩ := shpD_ok (R.valRep rx ha) h1
      obtain ⟨m, d2, p2, s2⟩ := shpD_ok (R.valRep ry hb) h2
      exact ⟨_, _, p1, p2, s1, s2, by rw [eqv_toPy _ _ _ _ d1 d2]; exact q _ rfl⟩
    · cases e
  · cases e⟩
theorem ab_eq (hu : X.A.units + 64 < cLine) : AB X (compareOp .Eq) (fOr fEqS fEqD) := ab_eqS.or (ab_eqD hu)
theorem ab_ne (hu : X.A.units + 64 < cLine) : AB X (compareOp .NotEq) (fOr fNeS fNeD) := ab_neS.or (ab_neD hu)
theorem isNon_ok {K : PySem.W.Frag} {F : Hp} {ρ : List Addr} {m : M} {v : V} (r : repM K F ρ m v) : decide (v = .non) = isNon m := by
  cases m with
  | ref i =>
    obtain ⟨a, _, rfl⟩ := (show ∃ a, ρ[i]? = some a ∧ v = .ref a from r)
    rfl
  | dat d =>
    cases d with
    | tup _ =>
      obtain ⟨a, _, rfl, _⟩ := r
      rfl
    | lst _ =>
      obtain ⟨a, _, rfl, _⟩ := r
      rfl
    | scr _ =>
      obtain ⟨a, _, rfl, _⟩ := r
      rfl
    | sct _ =>
      obtain ⟨a, _, rfl, _⟩ := r
      rfl
    | dic _ =>
      obtain ⟨a, _, rfl, _⟩ := r
      rfl
    | dit _ =>
      obtain ⟨a, _, rfl, _⟩ := r
      rfl
    | _ =>
      simp only [repM, rep] at r
      subst r
      rfl
theorem ab_isN : AB X (compareOp .Is) fIsN := ⟨_, op_isN, fun g ρ H st x y vx vy d Q R rx ry e q => by
  unfold fIsN at e
  split at e
  · cases e
    exact ⟨non_of ry, by rw [isNon_ok rx]; exact q _ rfl⟩
  · cases e⟩
theorem ab_notN : AB X (compareOp .IsNot) fNotN := ⟨_, op_notN, fun g ρ H st x y vx vy d Q R rx ry e q => by
  unfold fNotN at e
  split at e
  · cases e
    exact ⟨non_of ry, by rw [isNon_ok rx]; exact q _ rfl⟩
  · cases e⟩
/-! ### in -/
theorem flat_ok {K : PySem.W.Frag} {F : Hp} {d : D} {v : V} (r : rep K F d v) (h : flatD d = true) : flatV v = true := by
  cases d <;> first
    | (simp only [rep] at r
       subst r
       rfl)
    | cases h
theorem eqV_ok {K : PySem.W.Frag} {F : Hp} {x y : D} {vx vy : V} (rx : rep K F x vx) (ry : rep K F y vy) (h1 : flatD x = true) (h2 : flatD y = true) : eqV vx vy = eqD x y := by
  cases x <;> cases y <;> first
    | (simp only [rep] at rx ry
       subst rx ry
       rfl)
    | (cases h1; done)
    | (cases h2; done)
theorem flats_ok {K : PySem.W.Frag} {F : Hp} : ∀ {ds : List D} {vs : List V}, reps K F ds vs → ds.all flatD = true → vs.all flatV = true
  | [], _, r, _ => by rw [show _ = [] from r]; rfl
  | d :: ds, _, ⟨v, ws, h1, h2, h3⟩, h => by
    subst h1
    rw [List.all_cons, Bool.and_eq_true] at h
    rw [List.all_cons, flat_ok h2 h.1, flats_ok h3 h.2]
    rfl
theorem inV_ok {K : PySem.W.Frag} {F : Hp} {x : D} {vx : V} (rx : rep K F x vx) (hx : flatD x = true) : ∀ {ds : List D} {vs : List V}, reps K F ds vs → ds.all flatD = true → inV vx vs = inD x ds
  | [], _, r, _ => by rw [show _ = [] from r]; rfl
  | d :: ds, _, ⟨v, ws, h1, h2, h3⟩, h => by
    subst h1
    rw [List.all_cons, Bool.and_eq_true] at h
    have ih := inV_ok rx hx h3 h.2
    unfold inV inD at ih ⊢
    rw [List.any_cons, List.any_cons, eqV_ok h2 rx h.1 hx, ih]
theorem in_go {neg : Bool} (g : G) (ρ : List Addr) (H : Hp) (st : Sto) (x y : M) (vx vy : V) (d : D) (Q : VK) (R : Core X.K g ρ H st) (rx : repM X.K (fr g ρ st H) ρ x vx) (ry : repM X.K (fr g ρ st H) ρ y vy) (e : fIn neg st x y = some d)
    (q : ∀ v, rep X.K (fr g ρ st H) d v → Q v H) : rIn X.K neg vx vy H Q := by
  unfold fIn at e
  split at e
  · rename_i z zs hz hzs
    split at e
    · rename_i hf
      obtain ⟨f1, f2⟩ := Bool.and_eq_true_iff.mp hf
      cases e
      obtain ⟨a, vs, rfl, h1, h2⟩ := R.seqOf ry hzs
      have rx' : rep X.K (fr g ρ st H) z vx := by
        cases x with
        | dat w =>
          cases hz
          exact rx
        | ref i => cases hz
      refine ⟨a, vs, rfl, h1, flat_ok rx' f1, flats_ok h2 f2, ?_⟩
      rw [inV_ok rx' f1 h2 f2]
      exact q _ rfl
    · cases e
  · cases e
theorem ab_in : AB X (compareOp .In) (fIn false) := ⟨_, op_in_seq, in_go⟩
theorem ab_notIn : AB X (compareOp .NotIn) (fIn true) := ⟨_, op_notIn_seq, in_go⟩
/-! ### places -/
def AX (X : Cx) (f : Sto → M → M → Option D) : Prop := ∃ r : R2, IxR X r ∧ ∀ (g : G) (ρ : List Addr) (H : Hp) (st : Sto) (x y : M) (vx vy : V) (d : D) (Q : VK), Core X.K g ρ H st →
  repM X.K (fr g ρ st H) ρ x vx → repM X.K (fr g ρ st H) ρ y vy → f st x y = some d → (∀ v, rep X.K (fr g ρ st H) d v → Q v H) → r vx vy H Q
theorem AX.or {f f' : Sto → M → M → Option D} (h : AX X f) (h' : AX X f') : AX X (fOr f f') := by
  obtain ⟨r, o, k⟩ := h
  obtain ⟨r', o', k'⟩ := h'
  refine ⟨_, IxR.or o o', fun g ρ H st x y vx vy d Q R rx ry e q => ?_⟩
  rcases fOr_cases e with e | e
  · exact .inl (k g ρ H st x y vx vy _ Q R rx ry e q)
  · exact .inr (k' g ρ H st x y vx vy _ Q R rx ry e q)
theorem ae_ix {f : Sto → M → M → Option D} (o : AX X f) (ha : PE X a (lE X.K wa)) (hb : PE X b (lE X.K wb)) (hs : PlainIx b := by intro _ _; rfl) : PE X (.Subscript a b pos) (lE X.K (wB f wa wb)) := by
  obtain ⟨r, o, k⟩ := o
  exact PE.of (pe_ix o ha hb hs) fun σ H Q h => two k h
theorem ixP_eq (n : Nat) (i : Int) : ixP n i = ixN n i := rfl
theorem atP_eq {α : Type} (xs : List α) (i : Int) : atP xs i = atI xs i := rfl
theorem at_rep {K : PySem.W.Frag} {F : Hp} {es : List D} {vs : List V} {i : Int} {d : D} (r : reps K F es vs) (h : atP es i = some d) : ∃ v, atI vs i = some v ∧ rep K F d v := by
  unfold atP at h
  unfold atI
  rw [← reps.length r]
  cases e : ixP es.length i with
  | none =>
    rw [e] at h
    cases h
  | some j =>
    rw [e] at h
    rw [← ixP_eq, e]
    exact reps.get r h
theorem ax_list : AX X fIxL := ⟨_, ix_list, fun g ρ H st x y vx vy d Q R rx ry e q => by
  unfold fIxL at e
  split at e
  · rename_i zs i hz
    obtain ⟨a, vs, rfl, h1, h2⟩ := R.listOf rx hz
    obtain ⟨v, hv, rv⟩ := at_rep h2 e
    exact ⟨a, vs, i, v, rfl, int_of ry, h1, hv, q v rv⟩
  · cases e⟩
theorem ax_tup : AX X fIxT := ⟨_, ix_tup, fun g ρ H st x y vx vy d Q R rx ry e q => by
  unfold fIxT at e
  split at e
  · rename_i zs i hz
    obtain ⟨a, vs, rfl, h1, h2⟩ := R.tupOf rx hz
    obtain ⟨v, hv, rv⟩ := at_rep h2 e
    exact ⟨a, vs, i, v, rfl, int_of ry, h1, hv, q v rv⟩
  · cases e⟩
theorem ax_str : AX X fIxS := ⟨_, ix_str, fun g ρ H st x y vx vy d Q R rx ry e q => by
  unfold fIxS at e
  split at e
  · rename_i z i
    split at e
    · rename_i hl
      rw [Option.map_eq_some_iff] at e
      obtain ⟨c, hc, rfl⟩ := e
      exact ⟨z, i, c, str_of rx, int_of ry, by rw [line_eq]; exact hl, hc, q _ rfl⟩
    · cases e
  · cases e⟩
theorem ax_seq : AX X (fOr fIxL (fOr fIxT fIxS)) := ax_list.or (ax_tup.or ax_str)
/-! ### truth, and | or | not -/
theorem at_val (h : PE X e (lE X.K wa)) (he : ∀ whole, isTrue e X.env whole = (do let v ← whole; standAt e.pos; holding [v] (truthy v)) := by intro _; rfl) : PT X e (lT X.K (wtV wa)) := PT.of (pt_val h he) fun σ H Q q => vsplit q
theorem at_tru (h : PE X e (lE X.K wa)) (he : ∀ whole, isTrue e X.env whole = (do let v ← whole; standAt e.pos; holding [v] (truthy v)) := by intro _; rfl) : PT X e (lT X.K (wtTru wa)) := by
  refine PT.of (pt_truth h he) ?_
  rintro σ H Q ⟨g, ρ, ds, st, P, R, hw, hq⟩
  refine ⟨g, ρ, ds, st, _, R, hw, fun m st1 v H1 ρ1 h1 R1 r1 => ?_⟩
  obtain ⟨b, hb, hp⟩ := h1
  refine ⟨b, ?_, hq b st1 H1 ρ1 hp R1⟩
  cases m with
  | ref i =>
    have hv : ∃ xs, val st1 (.ref i) = some (.lst xs) ∧ b = !xs.isEmpty ∨ ∃ ms, st1[i]? = some (.lsm ms) ∧ b = !ms.isEmpty := by
      cases e : st1[i]? with
      | none =>
        simp only [truM, e] at hb
        cases hb
      | some c =>
        cases c with
        | lst xs =>
          simp only [truM, e, Option.some.injEq] at hb
          exact ⟨xs, .inl ⟨by simp only [val, e], hb.symm⟩⟩
        | lsm xs =>
          simp only [truM, e, Option.some.injEq] at hb
          exact ⟨[], .inr ⟨xs, rfl, hb.symm⟩⟩
        | frz d =>
          cases d with
          | lst xs =>
            simp only [truM, e, Option.some.injEq] at hb
            exact ⟨xs, .inl ⟨by simp only [val, e], hb.symm⟩⟩
          | _ => simp only [truM, e] at hb; cases hb
        | _ => simp only [truM, e] at hb; cases hb
    obtain ⟨xs, hv | ⟨ms, h1, h2⟩⟩ := hv
    · obtain ⟨a, vs, rfl, h1, h2⟩ := (show ∃ a vs, v = .ref a ∧ H1 a = some (.lst vs) ∧ reps X.K H1 xs vs from R1.toCore.valRep r1 hv.1)
      refine .inl ⟨vs, SqL.of h1, ?_⟩
      rw [hv.2]
      have := reps.length h2
      cases xs <;> cases vs <;> simp_all
    · obtain ⟨a, ha, rfl⟩ := (show ∃ a, ρ1[i]? = some a ∧ v = .ref a from r1)
      obtain ⟨vs, q1, q2⟩ := R1.cells i a _ ha h1
      refine .inl ⟨vs, SqL.of q1, ?_⟩
      rw [h2]
      have := repMs.length q2
      cases ms <;> cases vs <;> simp_all
  | dat d =>
    cases d with
    | non =>
      cases hb
      rw [non_of r1]
      exact rfl
    | bl k =>
      cases hb
      rw [bl_of r1]
      exact rfl
    | int k =>
      cases hb
      rw [int_of r1]
      exact rfl
    | str z =>
      simp only [truM] at hb
      split at hb
      · rename_i hl
        cases hb
        rw [str_of r1]
        exact ⟨by rw [line_eq]; exact hl, rfl⟩
      · cases hb
    | lst xs =>
      cases hb
      obtain ⟨a, vs, rfl, h1, h2⟩ := r1
      refine .inl ⟨vs, SqL.of (R1.le' _ _ h1), ?_⟩
      have := reps.length h2
      cases xs <;> cases vs <;> simp_all
    | tup xs =>
      cases hb
      obtain ⟨a, vs, rfl, h1, h2⟩ := r1
      refine .inr (.inl ⟨vs, SqT.of (R1.le' _ _ h1), ?_⟩)
      have := reps.length h2
      cases xs <;> cases vs <;> simp_all
    | _ => cases hb
theorem at_and1 (h : PT X e (lT X.K t)) : PW X (.BoolOp .And [e] pos) (lT X.K t) := pw_and1 h
theorem at_or1 (h : PT X e (lT X.K t)) : PW X (.BoolOp .Or [e] pos) (lT X.K t) := pw_or1 h
theorem tt_bind {σ : L2.St} {H : Hp} {Q : Bool → Hp → Prop} {w : WT} {g : G} {ρ : List Addr} {ds : Sl} {st : Sto} {P : Bool → Sto → Prop} (R : Rel X.K g ρ σ H ds st) (h : w ds st P)
    (k : ∀ b st1 H1 ρ1, P b st1 → Rel X.K (g.now (fr g ρ st H) ρ) ρ1 σ H1 ds st1 → Rel X.K g ρ1 σ H1 ds st1 → Q b H1) : lT X.K w σ H Q :=
  ⟨_, ρ, ds, st, P, R.now, h, fun b st1 H1 ρ1 hp R1 => k b st1 H1 ρ1 hp R1 (R1.back R.ext R.pre)⟩
theorem at_and (ha : PT X a (lT X.K t)) (hb : PW X (.BoolOp .And (b :: es) pos) (lT X.K u)) : PW X (.BoolOp .And (a :: b :: es) pos) (lT X.K (wtAnd t u)) := by
  refine PW.of (pw_and ha hb) ?_
  rintro σ H Q ⟨g, ρ, ds, st, P, R, hw, hq⟩
  refine ⟨g, ρ, ds, st, _, R, hw, fun c st1 H1 ρ1 h1 R1 => ?_⟩
  cases c with
  | true =>
    rw [if_pos rfl] at h1 ⊢
    exact ⟨g, ρ1, ds, st1, _, R1, h1, hq⟩
  | false =>
    rw [if_neg Bool.false_ne_true] at h1 ⊢
    exact hq _ _ _ _ h1 R1
theorem at_or (ha : PT X a (lT X.K t)) (hb : PW X (.BoolOp .Or (b :: es) pos) (lT X.K u)) : PW X (.BoolOp .Or (a :: b :: es) pos) (lT X.K (wtOr t u)) := by
  refine PW.of (pw_or ha hb) ?_
  rintro σ H Q ⟨g, ρ, ds, st, P, R, hw, hq⟩
  refine ⟨g, ρ, ds, st, _, R, hw, fun c st1 H1 ρ1 h1 R1 => ?_⟩
  cases c with
  | false =>
    rw [if_neg Bool.false_ne_true] at h1 ⊢
    exact ⟨g, ρ1, ds, st1, _, R1, h1, hq⟩
  | true =>
    rw [if_pos rfl] at h1 ⊢
    exact hq _ _ _ _ h1 R1
theorem at_not (ha : PT X a (lT X.K t)) : PT X (.UnaryOp .Not a pos) (lT X.K (wtNot t)) := by
  refine PT.of (pt_not ha) ?_
  rintro σ H Q ⟨g, ρ, ds, st, P, R, hw, hq⟩
  exact ⟨g, ρ, ds, st, _, R, hw, fun c st1 H1 ρ1 h1 R1 => hq _ _ _ _ h1 R1⟩
theorem ae_one {op : BoolOp} (h : PE X e (lE X.K wa)) : PE X (.BoolOp op [e] pos) (lE X.K wa) := pe_one h
theorem ae_and (ha : PE X a (lE X.K wa)) (hb : PE X (.BoolOp .And (b :: es) pos) (lE X.K wb)) : PE X (.BoolOp .And (a :: b :: es) pos) (lE X.K (wAndV wa wb)) := by
  refine PE.of (pe_and ha hb) ?_
  rintro σ H Q ⟨g, ρ, ds, st, P, R, hw, hq⟩
  refine ⟨g, ρ, ds, st, _, R, hw, fun m st1 v H1 ρ1 h1 R1 r1 => ?_⟩
  obtain ⟨c, rfl, h1⟩ := h1
  refine ⟨c, r1, ?_⟩
  cases c with
  | true =>
    rw [if_pos rfl] at h1 ⊢
    exact ⟨g, ρ1, ds, st1, _, R1, h1, hq⟩
  | false =>
    rw [if_neg Bool.false_ne_true] at h1 ⊢
    exact hq _ _ _ _ _ h1 R1 rfl
theorem ae_or (ha : PE X a (lE X.K wa)) (hb : PE X (.BoolOp .Or (b :: es) pos) (lE X.K wb)) : PE X (.BoolOp .Or (a :: b :: es) pos) (lE X.K (wOrV wa wb)) := by
  refine PE.of (pe_or ha hb) ?_
  rintro σ H Q ⟨g, ρ, ds, st, P, R, hw, hq⟩
  refine ⟨g, ρ, ds, st, _, R, hw, fun m st1 v H1 ρ1 h1 R1 r1 => ?_⟩
  obtain ⟨c, rfl, h1⟩ := h1
  refine ⟨c, r1, ?_⟩
  cases c with
  | false =>
    rw [if_neg Bool.false_ne_true] at h1 ⊢
    exact ⟨g, ρ1, ds, st1, _, R1, h1, hq⟩
  | true =>
    rw [if_pos rfl] at h1 ⊢
    exact hq _ _ _ _ _ h1 R1 rfl
theorem ae_not (ha : PE X a (lE X.K wa)) : PE X (.UnaryOp .Not a pos) (lE X.K (wNotV wa)) := by
  refine PE.of (pe_not ha) ?_
  rintro σ H Q ⟨g, ρ, ds, st, P, R, hw, hq⟩
  refine ⟨g, ρ, ds, st, _, R, hw, fun m st1 v H1 ρ1 h1 R1 r1 => ?_⟩
  obtain ⟨c, rfl, h1⟩ := h1
  exact ⟨c, r1, hq _ _ _ _ _ h1 R1 rfl⟩
theorem ae_if (hc : PT X c (lT X.K t)) (ha : PE X a (lE X.K wa)) (hb : PE X b (lE X.K wb)) : PE X (.IfExp c a b pos) (lE X.K (wIfE t wa wb)) := by
  refine PE.of (pe_ifExp hc ha hb) ?_
  rintro σ H Q ⟨g, ρ, ds, st, P, R, hw, hq⟩
  refine ⟨g, ρ, ds, st, _, R, hw, fun c st1 H1 ρ1 h1 R1 => ?_⟩
  cases c with
  | true =>
    rw [if_pos rfl] at h1 ⊢
    exact ⟨g, ρ1, ds, st1, _, R1, h1, hq⟩
  | false =>
    rw [if_neg Bool.false_ne_true] at h1 ⊢
    exact ⟨g, ρ1, ds, st1, _, R1, h1, hq⟩
theorem ae_neg (ha : PE X a (lE X.K wa)) : PE X (.UnaryOp .USub a pos) (lE X.K (wU fNeg wa)) := by
  refine PE.of (pe_un un_neg ha) ?_
  rintro σ H Q ⟨g, ρ, ds, st, P, R, hw, hq⟩
  refine ⟨g, ρ, ds, st, _, R, hw, fun m st1 v H1 ρ1 h1 R1 r1 => ?_⟩
  obtain ⟨d, hd, hp⟩ := h1
  unfold fNeg at hd
  split at hd
  · cases hd
    exact ⟨_, int_of r1, hq _ _ _ _ _ hp R1 rfl⟩
  · cases hd
end
end PP

/-! Mrl4: arguments, displays, calls of built-ins, slices, methods of lists, freezing. -/
namespace PP
open PySem PySem.Spec PyProof.Rows L2
section
variable {K : PySem.W.Frag} {g : G} {ρ : List Addr} {σ : L2.St} {H : Hp} {ds : Sl} {st : Sto} {F : Hp}
theorem asDs_ok {F : Hp} : ∀ {ms : List M} {es : List D} {vs : List V}, repMs K F ρ ms vs → asDs ms = some es → reps K F es vs
  | [], es, vs, h, e => by
    simp only [asDs, Option.some.injEq] at e
    subst e
    exact h
  | .dat d :: ms, es, vs, ⟨v, ws, h1, h2, h3⟩, e => by
    simp only [asDs] at e
    cases e2 : asDs ms with
    | none =>
      rw [e2] at e
      cases e
    | some r =>
      rw [e2] at e
      simp only [Option.some.injEq] at e
      subst e
      exact ⟨v, ws, h1, h2, asDs_ok h3 e2⟩
  | .ref i :: ms, _, _, _, e => by cases e
/-- a new list -/
theorem newL_ok (R : Rel K g ρ σ H ds st) {es : List D} {vs : List V} (r : reps K (fr g ρ st H) es vs) {cell : Bool} {P : M → Sto → Prop} {Q : VK} (h : newL cell es st P)
    (k : ∀ m st' v H' ρ', P m st' → Rel K g ρ' σ H' ds st' → repM K (fr g ρ' st' H') ρ' m v → Q v H') : ∀ p, H p = none → Q (.ref p) (upd H p (.lst vs)) := fun p hp => by
  cases cell with
  | false =>
    have R' := R.grow (Ex.new (o := .lst vs) hp)
    refine k _ _ _ _ ρ h R' ⟨p, vs, rfl, ?_, reps.mono (fr_ex (Ex.new hp)) _ _ r⟩
    show mask _ _ _ = _
    rw [mask_out (R.freshL hp)]
    exact upd_same
  | true =>
    obtain ⟨R', e⟩ := R.alloc (o := .lst vs) (c := .lst es) hp rfl fun F' ρ' e _ => ⟨vs, upd_same, reps.mono e _ _ r⟩
    refine k _ _ _ _ (ρ ++ [p]) h ⟨R', R.slots.mono e (List.prefix_append _ _)⟩ ⟨p, ?_, rfl⟩
    rw [← R.len]
    simp
/-- a new tuple -/
theorem newT_ok (R : Rel K g ρ σ H ds st) {es : List D} {vs : List V} (r : reps K (fr g ρ st H) es vs) {P : M → Sto → Prop} {Q : VK} (h : P (.dat (.tup es)) st)
    (k : ∀ m st' v H' ρ', P m st' → Rel K g ρ' σ H' ds st' → repM K (fr g ρ' st' H') ρ' m v → Q v H') : ∀ p, H p = none → Q (.ref p) (upd H p (.tup vs)) := fun p hp => by
  have R' := R.grow (Ex.new (o := .tup vs) hp)
  refine k _ _ _ _ ρ h R' ⟨p, vs, rfl, ?_, reps.mono (fr_ex (Ex.new hp)) _ _ r⟩
  show mask _ _ _ = _
  rw [mask_out (R.freshL hp)]
  exact upd_same
/-- a cell's list is changed -/
theorem setL_ok (R : Rel K g ρ σ H ds st) {i : Nat} {a : Addr} {d : Cell} {es : List D} {vs : List V} (ha : ρ[i]? = some a) (hi : st[i]? = some d) (hd : d.live = true) (r : reps K (fr g ρ st H) es vs) : Rel K g ρ σ (upd H a (.lst vs)) ds (st.set i (.lst es)) ∧ Ex (fr g ρ st H) (fr g ρ (st.set i (.lst es)) (upd H a (.lst vs))) := by
  obtain ⟨R', e⟩ := R.write (o := .lst vs) (c := .lst es) ha hi hd rfl fun F' e => ⟨vs, upd_same, reps.mono e _ _ r⟩
  exact ⟨⟨R', R.slots.mono e List.prefix_rfl⟩, e⟩
end
section
variable {X : Cx} {a b c e o : Expr} {es : List Expr} {pos p2 : Pos} {wa wb wc wo : WE} {wr : WA} {t u : WT}
theorem aa_nil : PA X [] (lA X.K waNil) := by
  refine PA.of pa_nil ?_
  rintro σ H Q ⟨g, ρ, ds, st, P, R, hp, hq⟩
  exact hq _ _ _ _ _ hp R rfl
theorem aa_cons (ha : PE X e (lE X.K wa)) (hr : PA X es (lA X.K wr)) (hs : starEach (e :: es) X.env = (false, eval e X.env) :: starEach es X.env := by rfl) : PA X (e :: es) (lA X.K (waCons wa wr)) := by
  refine PA.of (pa_cons ha hr hs) ?_
  rintro σ H Q ⟨g, ρ, ds, st, P, R, hw, hq⟩
  refine ⟨g, ρ, ds, st, _, R, hw, fun m st1 v H1 ρ1 h1 R1 r1 => ?_⟩
  refine ⟨_, ρ1, ds, st1, _, R1.now, h1, fun ms st2 vs H2 ρ2 h2 R2 r2 => ?_⟩
  exact hq _ _ _ _ _ h2 (R2.back R1.ext R1.pre) ⟨v, vs, rfl, r1.mono R2.ext R2.pre, r2⟩
theorem ae_tup {k : ExprContext} (h : PA X es (lA X.K wr)) : True := trivial
theorem ae_tup' {x1} (h : PA X es (lA X.K wr)) : PE X (.Tuple es x1 pos) (lE X.K (wTup wr)) := by
  refine PE.of (pe_tup h) ?_
  rintro σ H Q ⟨g, ρ, ds, st, P, R, hw, hq⟩
  refine ⟨g, ρ, ds, st, _, R, hw, fun ms st1 vs H1 ρ1 h1 R1 r1 => ?_⟩
  obtain ⟨hl, es, he, hp⟩ := h1
  exact ⟨by rw [line_eq, ← repMs.length r1]; exact hl, newT_ok R1 (asDs_ok r1 he) hp hq⟩
theorem ae_lst (cell : Bool) (h : PA X es (lA X.K wr)) : PE X (.List es pos) (lE X.K (wLst cell wr)) := by
  refine PE.of (pe_lst h) ?_
  rintro σ H Q ⟨g, ρ, ds, st, P, R, hw, hq⟩
  refine ⟨g, ρ, ds, st, _, R, hw, fun ms st1 vs H1 ρ1 h1 R1 r1 => ?_⟩
  obtain ⟨hl, es, he, hp⟩ := h1
  exact ⟨by rw [line_eq, ← repMs.length r1]; exact hl, newL_ok R1 (asDs_ok r1 he) hp hq⟩
/-! ### list + list, list * int -/
def ABL (X : Cx) (F : Value → Value → Sem Value) (f : Sto → M → M → Option (List D)) : Prop := ∃ r : R2, OpR X F r ∧ ∀ (g : G) (ρ : List Addr) (H : Hp) (st : Sto) (x y : M) (vx vy : V) (es : List D) (Q : VK), Core X.K g ρ H st →
  repM X.K (fr g ρ st H) ρ x vx → repM X.K (fr g ρ st H) ρ y vy → f st x y = some es → (∀ vs, reps X.K (fr g ρ st H) es vs → ∀ p, H p = none → Q (.ref p) (upd H p (.lst vs))) → r vx vy H Q
theorem ae_BL {op : Operator} {f : Sto → M → M → Option (List D)} (cell : Bool) (oo : ABL X (binaryOp op) f) (ha : PE X a (lE X.K wa)) (hb : PE X b (lE X.K wb)) : PE X (.BinOp a op b pos) (lE X.K (wBL cell f wa wb)) := by
  obtain ⟨r, oo, k⟩ := oo
  refine PE.of (pe_op oo ha hb) ?_
  rintro σ H Q ⟨g, ρ, ds, st, P, R, hw, hq⟩
  refine ⟨g, ρ, ds, st, _, R, hw, fun x st1 vx H1 ρ1 h1 R1 r1 => ?_⟩
  refine ⟨_, ρ1, ds, st1, _, R1.now, h1, fun y st2 vy H2 ρ2 h2 R2 r2 => ?_⟩
  obtain ⟨es, he, hp⟩ := h2
  have R2' := R2.back R1.ext R1.pre
  exact k _ ρ2 H2 st2 x y vx vy es Q R2.toCore (r1.mono R2.ext R2.pre) r2 he fun vs rs => newL_ok R2' rs hp hq
theorem ab_cat : ABL X (binaryOp .Add) fCat := ⟨_, op_cat, fun g ρ H st x y vx vy es Q R rx ry e q => by
  unfold fCat at e
  split at e
  · rename_i xs ys hx hy
    split at e
    · rename_i hl
      cases e
      obtain ⟨a, vs, rfl, h1, h2⟩ := R.lstX rx hx
      obtain ⟨b, ws, rfl, h3, h4⟩ := R.lstX ry hy
      exact ⟨a, b, vs, ws, rfl, rfl, h1, h3, by rw [line_eq, ← reps.length h2, ← reps.length h4]; exact hl, q _ (reps.append h2 h4)⟩
    · cases e
  · cases e⟩
theorem reps.replic {K : PySem.W.Frag} {F : Hp} {es : List D} {vs : List V} (r : reps K F es vs) : ∀ k : Nat, reps K F (List.replicate k es).flatten (List.replicate k vs).flatten
  | 0 => rfl
  | k + 1 => by
    rw [List.replicate_succ, List.replicate_succ, List.flatten_cons, List.flatten_cons]
    exact reps.append r (reps.replic r k)
theorem ab_rep : ABL X (binaryOp .Mult) fRep := ⟨_, op_rep, fun g ρ H st x y vx vy es Q R rx ry e q => by
  unfold fRep at e
  split at e
  · rename_i xs k hx
    split at e
    · rename_i hl
      cases e
      obtain ⟨h12, h3⟩ := Bool.and_eq_true_iff.mp hl
      obtain ⟨h1, h2⟩ := Bool.and_eq_true_iff.mp h12
      have h1 := of_decide_eq_true h1
      have h2 := of_decide_eq_true h2
      have h3 := of_decide_eq_true h3
      obtain ⟨a, vs, rfl, q1, q2⟩ := R.lstX rx hx
      exact ⟨a, k, vs, rfl, int_of ry, q1, by omega, by omega, by rw [line_eq, ← reps.length q2]; exact h3, q _ (reps.replic q2 _)⟩
    · cases e
  · cases e⟩
/-! ### calls of built-ins -/
def AC (X : Cx) (f : Value) (w : Sto → List M → Option D) : Prop := ∃ r, CallR X f r ∧ ∀ (g : G) (ρ : List Addr) (H : Hp) (st : Sto) (ms : List M) (vs : List V) (d : D) (Q : VK), Core X.K g ρ H st →
  repMs X.K (fr g ρ st H) ρ ms vs → w st ms = some d → (∀ v, rep X.K (fr g ρ st H) d v → Q v H) → r vs H Q
def ACL (X : Cx) (f : Value) (w : Sto → List M → Option (List D)) : Prop := ∃ r, CallR X f r ∧ ∀ (g : G) (ρ : List Addr) (H : Hp) (st : Sto) (ms : List M) (vs : List V) (es : List D) (Q : VK), Core X.K g ρ H st →
  repMs X.K (fr g ρ st H) ρ ms vs → w st ms = some es → (∀ ws, reps X.K (fr g ρ st H) es ws → ∀ p, H p = none → Q (.ref p) (upd H p (.lst ws))) → r vs H Q
def ACT (X : Cx) (f : Value) (w : Sto → List M → Option (List D)) : Prop := ∃ r, CallR X f r ∧ ∀ (g : G) (ρ : List Addr) (H : Hp) (st : Sto) (ms : List M) (vs : List V) (es : List D) (Q : VK), Core X.K g ρ H st →
  repMs X.K (fr g ρ st H) ρ ms vs → w st ms = some es → (∀ ws, reps X.K (fr g ρ st H) es ws → ∀ p, H p = none → Q (.ref p) (upd H p (.tup ws))) → r vs H Q
theorem cb_go {w : Sto → List M → Option D} {r : List V → Hp → VK → Prop} (k : ∀ (g : G) (ρ : List Addr) (H : Hp) (st : Sto) (ms : List M) (vs : List V) (d : D) (Q : VK), Core X.K g ρ H st →
    repMs X.K (fr g ρ st H) ρ ms vs → w st ms = some d → (∀ v, rep X.K (fr g ρ st H) d v → Q v H) → r vs H Q) {σ : L2.St} {H : Hp} {Q : VK} (h : lE X.K (wCB w wr) σ H Q) : tCB r (lA X.K wr) σ H Q := by
  obtain ⟨g, ρ, ds, st, P, R, hw, hq⟩ := h
  refine ⟨g, ρ, ds, st, _, R, hw, fun ms st1 vs H1 ρ1 h1 R1 r1 => ?_⟩
  obtain ⟨d, hd, hp⟩ := h1
  exact k g ρ1 H1 st1 ms vs d Q R1.toCore r1 hd fun v rv => hq _ _ _ _ _ hp R1 rv
theorem cl_go (cell : Bool) {w : Sto → List M → Option (List D)} {r : List V → Hp → VK → Prop} (k : ∀ (g : G) (ρ : List Addr) (H : Hp) (st : Sto) (ms : List M) (vs : List V) (es : List D) (Q : VK), Core X.K g ρ H st →
    repMs X.K (fr g ρ st H) ρ ms vs → w st ms = some es → (∀ ws, reps X.K (fr g ρ st H) es ws → ∀ p, H p = none → Q (.ref p) (upd H p (.lst ws))) → r vs H Q) {σ : L2.St} {H : Hp} {Q : VK} (h : lE X.K (wCBL cell w wr) σ H Q) : tCB r (lA X.K wr) σ H Q := by
  obtain ⟨g, ρ, ds, st, P, R, hw, hq⟩ := h
  refine ⟨g, ρ, ds, st, _, R, hw, fun ms st1 vs H1 ρ1 h1 R1 r1 => ?_⟩
  obtain ⟨es, he, hp⟩ := h1
  exact k g ρ1 H1 st1 ms vs es Q R1.toCore r1 he fun ws rs => newL_ok R1 rs hp hq
theorem ct_go {w : Sto → List M → Option (List D)} {r : List V → Hp → VK → Prop} (k : ∀ (g : G) (ρ : List Addr) (H : Hp) (st : Sto) (ms : List M) (vs : List V) (es : List D) (Q : VK), Core X.K g ρ H st →
    repMs X.K (fr g ρ st H) ρ ms vs → w st ms = some es → (∀ ws, reps X.K (fr g ρ st H) es ws → ∀ p, H p = none → Q (.ref p) (upd H p (.tup ws))) → r vs H Q) {σ : L2.St} {H : Hp} {Q : VK} (h : lE X.K (wCBT w wr) σ H Q) : tCB r (lA X.K wr) σ H Q := by
  obtain ⟨g, ρ, ds, st, P, R, hw, hq⟩ := h
  refine ⟨g, ρ, ds, st, _, R, hw, fun ms st1 vs H1 ρ1 h1 R1 r1 => ?_⟩
  obtain ⟨es, he, hp⟩ := h1
  exact k g ρ1 H1 st1 ms vs es Q R1.toCore r1 he fun ws rs => newT_ok R1 rs hp hq
section
variable {x : Str} {p : Pos} {T id : String} {w : Sto → List M → Option D} {wl : Sto → List M → Option (List D)}
theorem ae_cB (hc : AC X (.builtin id) w) (hg : Gl X x) (hm : X.mg x = none) (hv : bootBuiltins x = some (.builtin id)) (ha : PA X (e :: es) (lA X.K wr)) (hn : x ≠ "__name__" := by decide) (hdb : (x == ("__debug__" : Str)) = false := by decide)
    (he : starEach (e :: es) X.env = (false, eval e X.env) :: starEach es X.env := by rfl) (hpl : (backTo pos (starEach es X.env)).any (·.1) = false := by rfl) : PE X (.Call (.Name x p) (e :: es) [] pos) (lE X.K (wCB w wr)) := by
  obtain ⟨r, hc, k⟩ := hc
  exact PE.of (pe_callB hc hg hm hv ha hn hdb he hpl) fun σ H Q h => cb_go k h
theorem ae_cT (hc : AC X (.type T) w) (hg : Gl X x) (hm : X.mg x = none) (hv : bootBuiltins x = some (.type T)) (ha : PA X (e :: es) (lA X.K wr)) (hn : x ≠ "__name__" := by decide) (hdb : (x == ("__debug__" : Str)) = false := by decide)
    (he : starEach (e :: es) X.env = (false, eval e X.env) :: starEach es X.env := by rfl) (hpl : (backTo pos (starEach es X.env)).any (·.1) = false := by rfl) : PE X (.Call (.Name x p) (e :: es) [] pos) (lE X.K (wCB w wr)) := by
  obtain ⟨r, hc, k⟩ := hc
  exact PE.of (pe_callTy hc hg hm hv ha hn hdb he hpl) fun σ H Q h => cb_go k h
theorem ae_cTL (cell : Bool) (hc : ACL X (.type T) wl) (hg : Gl X x) (hm : X.mg x = none) (hv : bootBuiltins x = some (.type T)) (ha : PA X (e :: es) (lA X.K wr)) (hn : x ≠ "__name__" := by decide) (hdb : (x == ("__debug__" : Str)) = false := by decide)
    (he : starEach (e :: es) X.env = (false, eval e X.env) :: starEach es X.env := by rfl) (hpl : (backTo pos (starEach es X.env)).any (·.1) = false := by rfl) : PE X (.Call (.Name x p) (e :: es) [] pos) (lE X.K (wCBL cell wl wr)) := by
  obtain ⟨r, hc, k⟩ := hc
  exact PE.of (pe_callTy hc hg hm hv ha hn hdb he hpl) fun σ H Q h => cl_go cell k h
theorem ae_cBL (cell : Bool) (hc : ACL X (.builtin id) wl) (hg : Gl X x) (hm : X.mg x = none) (hv : bootBuiltins x = some (.builtin id)) (ha : PA X (e :: es) (lA X.K wr)) (hn : x ≠ "__name__" := by decide) (hdb : (x == ("__debug__" : Str)) = false := by decide)
    (he : starEach (e :: es) X.env = (false, eval e X.env) :: starEach es X.env := by rfl) (hpl : (backTo pos (starEach es X.env)).any (·.1) = false := by rfl) : PE X (.Call (.Name x p) (e :: es) [] pos) (lE X.K (wCBL cell wl wr)) := by
  obtain ⟨r, hc, k⟩ := hc
  exact PE.of (pe_callB hc hg hm hv ha hn hdb he hpl) fun σ H Q h => cl_go cell k h
theorem ae_cTT (hc : ACT X (.type T) wl) (hg : Gl X x) (hm : X.mg x = none) (hv : bootBuiltins x = some (.type T)) (ha : PA X (e :: es) (lA X.K wr)) (hn : x ≠ "__name__" := by decide) (hdb : (x == ("__debug__" : Str)) = false := by decide)
    (he : starEach (e :: es) X.env = (false, eval e X.env) :: starEach es X.env := by rfl) (hpl : (backTo pos (starEach es X.env)).any (·.1) = false := by rfl) : PE X (.Call (.Name x p) (e :: es) [] pos) (lE X.K (wCBT wl wr)) := by
  obtain ⟨r, hc, k⟩ := hc
  exact PE.of (pe_callTy hc hg hm hv ha hn hdb he hpl) fun σ H Q h => ct_go k h
end
theorem one_of {K : PySem.W.Frag} {F : Hp} {ρ : List Addr} {m : M} {vs : List V} (r : repMs K F ρ [m] vs) : ∃ v, vs = [v] ∧ repM K F ρ m v := by
  obtain ⟨v, ws, rfl, h1, h2⟩ := r
  rw [show ws = [] from h2]
  exact ⟨v, rfl, h1⟩
theorem two_of {K : PySem.W.Frag} {F : Hp} {ρ : List Addr} {m n : M} {vs : List V} (r : repMs K F ρ [m, n] vs) : ∃ v w, vs = [v, w] ∧ repM K F ρ m v ∧ repM K F ρ n w := by
  obtain ⟨v, ws, rfl, h1, h2⟩ := r
  obtain ⟨w, rfl, h3⟩ := one_of h2
  exact ⟨v, w, rfl, h1, h3⟩
theorem CallR.or' {f : Value} {r r' : List V → Hp → VK → Prop} (h : CallR X f r) (h' : CallR X f r') : CallR X f (fun xs H Q => r xs H Q ∨ r' xs H Q) := CallR.or h h'
theorem ac_len : AC X (.builtin "len") cLen := ⟨_, CallR.or call_len_str call_len_seq, fun g ρ H st ms vs d Q R rs e q => by
  unfold cLen at e
  split at e
  · split at e
    · rename_i z hl
      cases e
      obtain ⟨v, rfl, r1⟩ := one_of rs
      exact .inl ⟨z, by rw [str_of r1], by rw [line_eq]; exact hl, q _ rfl⟩
    · cases e
  · split at e
    · rename_i es he
      cases e
      obtain ⟨v, rfl, r1⟩ := one_of rs
      obtain ⟨a, vs, rfl, h1, h2⟩ := R.seqOf r1 he
      refine .inr ⟨a, vs, rfl, h1, ?_⟩
      rw [← reps.length h2]
      exact q _ rfl
    · cases e
  · cases e⟩
theorem ac_int : AC X (.type "int") cInt := ⟨_, call_int1, fun g ρ H st ms vs d Q R rs e q => by
  unfold cInt at e
  split at e
  · cases e
    obtain ⟨v, rfl, r1⟩ := one_of rs
    exact .inl ⟨_, by rw [int_of r1], q _ rfl⟩
  · cases e
    obtain ⟨v, rfl, r1⟩ := one_of rs
    exact .inr ⟨_, by rw [bl_of r1], q _ rfl⟩
  · cases e⟩
theorem ac_list : ACL X (.type "list") cList := ⟨_, call_list_of, fun g ρ H st ms vs es Q R rs e q => by
  unfold cList at e
  split at e
  · obtain ⟨v, rfl, r1⟩ := one_of rs
    obtain ⟨a, vs, rfl, h1, h2⟩ := R.seqOf r1 e
    exact ⟨a, vs, rfl, h1, q vs h2⟩
  · cases e⟩
/-- tuple(a list) -/
theorem ac_tupL : ACT X (.type "tuple") cTupL := ⟨_, call_tuple_of, fun g ρ H st ms vs es Q R rs e q => by
  unfold cTupL at e
  split at e
  · obtain ⟨v, rfl, r1⟩ := one_of rs
    obtain ⟨a, vs, rfl, h1, h2⟩ := R.listOf r1 e
    exact ⟨a, vs, rfl, .inl ⟨h1, q vs h2⟩⟩
  · cases e⟩
/-! ### slices -/
def lO (K : PySem.W.Frag) (w : WO) : TO := fun σ H Q => ∃ g ρ ds st P, Rel K g ρ σ H ds st ∧ w ds st P ∧ ∀ o st' H' ρ', P o st' → Rel K g ρ' σ H' ds st' → Q o H'
theorem PO.of {X : Cx} {e : Option Expr} {t t' : TO} (h : PO X e t) (i : ∀ σ H Q, t' σ H Q → t σ H Q) : PO X e t' := ⟨fun pins s σ H Q I q => h.run pins s σ H Q I (i σ H Q q)⟩
theorem ao_none : PO X none (lO X.K woNone) := by
  refine PO.of po_none ?_
  rintro σ H Q ⟨g, ρ, ds, st, P, R, hp, hq⟩
  exact hq _ _ _ _ hp R
theorem ao_some (h : PE X e (lE X.K wa)) : PO X (some e) (lO X.K (woSome wa)) := by
  refine PO.of (po_some h) ?_
  rintro σ H Q ⟨g, ρ, ds, st, P, R, hw, hq⟩
  refine ⟨g, ρ, ds, st, _, R, hw, fun m st1 v H1 ρ1 h1 R1 r1 => ?_⟩
  obtain ⟨i, rfl, hp⟩ := h1
  exact ⟨i, int_of r1, hq _ _ _ _ hp R1⟩
theorem cutP_eq {α : Type} (xs : List V) (lo hi : Option Int) : cutP xs lo hi = cutV xs lo hi := rfl
theorem reps.cut {K : PySem.W.Frag} {F : Hp} {es : List D} {vs : List V} (r : reps K F es vs) (lo hi : Option Int) : reps K F (cutP es lo hi) (cutV vs lo hi) := by
  show reps K F ((es.drop _).take _) ((vs.drop _).take _)
  rw [← reps.length r]
  exact reps.take _ (reps.drop _ r)
theorem ae_slL (cell : Bool) {lo hi : Option Expr} {wl wh : WO} (ha : PE X a (lE X.K wa)) (hl : PO X lo (lO X.K wl)) (hh : PO X hi (lO X.K wh)) : PE X (.Subscript a (.Slice lo hi none p2) pos) (lE X.K (wSlL cell wa wl wh)) := by
  refine PE.of (pe_slice sl_list ha hl hh) ?_
  rintro σ H Q ⟨g, ρ, ds, st, P, R, hw, hq⟩
  refine ⟨g, ρ, ds, st, _, R, hw, fun x st1 vx H1 ρ1 h1 R1 r1 => ?_⟩
  refine ⟨_, ρ1, ds, st1, _, R1.now, h1, fun l st2 H2 ρ2 h2 R2 => ?_⟩
  refine ⟨_, ρ2, ds, st2, _, R2.now, h2, fun h st3 H3 ρ3 h3 R3 => ?_⟩
  obtain ⟨xs, hx, hp⟩ := h3
  have R3' := (R3.back R2.ext R2.pre).back R1.ext R1.pre
  have r1' := (r1.mono R2.ext R2.pre).mono R3.ext R3.pre
  obtain ⟨p, vs, rfl, q1, q2⟩ := R3'.toCore.listOf r1' hx
  exact ⟨p, vs, rfl, q1, newL_ok R3' (reps.cut q2 l h) hp hq⟩
/-! ### methods of lists -/
theorem ref_of {K : PySem.W.Frag} {F : Hp} {ρ : List Addr} {i : Nat} {v : V} (h : repM K F ρ (.ref i) v) : ∃ a, ρ[i]? = some a ∧ v = .ref a := h
section
variable {apos cpos : Pos}
theorem ae_append (ho : PE X o (lE X.K wo)) (ha : PE X e (lE X.K wa))
    (hbase : attributeBase o "append" X.env (eval o X.env) = eval o X.env := by rfl)
    (hfew : ((backTo cpos (starEach [e] X.env)).all (fun x => !x.1) && (backToKw cpos (keywordEach [] X.env)).all (fun x => x.1.isSome)
      && decide ([e].length + ([] : List Keyword).length + (if ([] : List Keyword).isEmpty then 0 else 1) < 30)) = true := by rfl)
    (hline : (apos.endLine == cpos.line) = true := by rfl) (hs : starEach [e] X.env = (false, eval e X.env) :: starEach [] X.env := by rfl) (hplain : (backTo cpos (starEach [] X.env)).any (·.1) = false := by rfl) :
    PE X (.Call (.Attribute o "append" apos) [e] [] cpos) (lE X.K (wAppend wo wa)) := by
  refine PE.of (pe_bm PySem.F.plainAttrs_list PySem.F.slot_list_append PySem.F.type_list_append mt_append ho (pa_cons ha pa_nil hs) hbase hfew hline hs hplain) ?_
  rintro σ H Q ⟨g, ρ, ds, st, P, R, hw, hq⟩
  refine ⟨g, ρ, ds, st, _, R, hw, fun x st1 vx H1 ρ1 h1 R1 r1 => ?_⟩
  obtain ⟨⟨ys, hy⟩, h1⟩ := h1
  obtain ⟨p, vs, rfl, q1, q2⟩ := R1.toCore.listOf r1 hy
  refine ⟨.inl ⟨rfl, _, q1⟩, _, ρ1, ds, st1, _, R1.now, h1, fun y st2 vy H2 ρ2 h2 R2 r2 => ?_⟩
  obtain ⟨i, xs, d, rfl, hi, rfl, hl, hp⟩ := h2
  have R2' := R2.back R1.ext R1.pre
  obtain ⟨a', ha', hv⟩ := ref_of (r1.mono R2.ext R2.pre)
  cases hv
  obtain ⟨ws, h3, h4⟩ := R2'.cells i _ _ ha' hi
  obtain ⟨R3, e3⟩ := setL_ok R2' ha' hi rfl (reps.append h4 (reps.one (rep_of_dat r2)))
  exact ⟨_, ws, vy, rfl, rfl, h3, by rw [line_eq, ← reps.length h4]; exact hl, hq _ _ _ _ ρ2 hp R3 rfl⟩
theorem ae_extend (ho : PE X o (lE X.K wo)) (ha : PE X e (lE X.K wa))
    (hbase : attributeBase o "extend" X.env (eval o X.env) = eval o X.env := by rfl)
    (hfew : ((backTo cpos (starEach [e] X.env)).all (fun x => !x.1) && (backToKw cpos (keywordEach [] X.env)).all (fun x => x.1.isSome)
      && decide ([e].length + ([] : List Keyword).length + (if ([] : List Keyword).isEmpty then 0 else 1) < 30)) = true := by rfl)
    (hline : (apos.endLine == cpos.line) = true := by rfl) (hs : starEach [e] X.env = (false, eval e X.env) :: starEach [] X.env := by rfl) (hplain : (backTo cpos (starEach [] X.env)).any (·.1) = false := by rfl) :
    PE X (.Call (.Attribute o "extend" apos) [e] [] cpos) (lE X.K (wExtend wo wa)) := by
  refine PE.of (pe_bm PySem.F.plainAttrs_list PySem.F.slot_list_extend PySem.F.type_list_extend mt_extend ho (pa_cons ha pa_nil hs) hbase hfew hline hs hplain) ?_
  rintro σ H Q ⟨g, ρ, ds, st, P, R, hw, hq⟩
  refine ⟨g, ρ, ds, st, _, R, hw, fun x st1 vx H1 ρ1 h1 R1 r1 => ?_⟩
  obtain ⟨⟨ys, hy⟩, h1⟩ := h1
  obtain ⟨p, vs, rfl, q1, q2⟩ := R1.toCore.listOf r1 hy
  refine ⟨.inl ⟨rfl, _, q1⟩, _, ρ1, ds, st1, _, R1.now, h1, fun y st2 vy H2 ρ2 h2 R2 r2 => ?_⟩
  obtain ⟨i, xs, zs, rfl, hi, hz, hl, hp⟩ := h2
  have R2' := R2.back R1.ext R1.pre
  obtain ⟨a', ha', hv⟩ := ref_of (r1.mono R2.ext R2.pre)
  cases hv
  obtain ⟨ws, h3, h4⟩ := R2'.cells i _ _ ha' hi
  obtain ⟨b, us, rfl, h5, h6⟩ := R2'.toCore.lstX r2 hz
  obtain ⟨R3, e3⟩ := setL_ok R2' ha' hi rfl (reps.append h4 h6)
  exact ⟨_, b, ws, us, rfl, rfl, h3, h5, by rw [line_eq, ← reps.length h4, ← reps.length h6]; exact hl, hq _ _ _ _ ρ2 hp R3 rfl⟩
theorem reps.last {K : PySem.W.Frag} {F : Hp} {es : List D} {d : D} {vs : List V} (r : reps K F (es ++ [d]) vs) : ∃ ws v, vs = ws ++ [v] ∧ reps K F es ws ∧ rep K F d v := by
  induction es generalizing vs with
  | nil =>
    obtain ⟨v, ws, rfl, h1, h2⟩ := r
    rw [show ws = [] from h2]
    exact ⟨[], v, rfl, rfl, h1⟩
  | cons x es ih =>
    obtain ⟨v, ws, rfl, h1, h2⟩ := r
    obtain ⟨us, u, rfl, h3, h4⟩ := ih h2
    exact ⟨v :: us, u, rfl, ⟨v, us, rfl, h1, h3⟩, h4⟩
theorem ae_pop (ho : PE X o (lE X.K wo)) (hbase : attributeBase o "pop" X.env (eval o X.env) = eval o X.env := by rfl) (hline : (apos.endLine == cpos.line) = true := by rfl) :
    PE X (.Call (.Attribute o "pop" apos) [] [] cpos) (lE X.K (wPop wo)) := by
  refine PE.of (pe_bm0 PySem.F.plainAttrs_list PySem.F.slot_list_pop PySem.F.type_list_pop mt_pop ho hbase hline) ?_
  rintro σ H Q ⟨g, ρ, ds, st, P, R, hw, hq⟩
  refine ⟨g, ρ, ds, st, _, R, hw, fun x st1 vx H1 ρ1 h1 R1 r1 => ?_⟩
  obtain ⟨i, xs, d, rfl, hi, hp⟩ := h1
  obtain ⟨a', ha', rfl⟩ := ref_of r1
  obtain ⟨ws, h3, h4⟩ := R1.cells i _ _ ha' hi
  obtain ⟨us, u, rfl, h5, h6⟩ := reps.last h4
  obtain ⟨R3, e3⟩ := setL_ok R1 ha' hi rfl h5
  refine ⟨.inl ⟨rfl, _, SqL.of h3⟩, a', us ++ [u], u, rfl, rfl, h3, by simp, ?_⟩
  rw [List.dropLast_concat]
  exact hq _ _ _ _ ρ1 hp R3 (rep.mono e3 _ _ h6)
theorem ae_reverse (ho : PE X o (lE X.K wo)) (hbase : attributeBase o "reverse" X.env (eval o X.env) = eval o X.env := by rfl) (hline : (apos.endLine == cpos.line) = true := by rfl) :
    PE X (.Call (.Attribute o "reverse" apos) [] [] cpos) (lE X.K (wReverse wo)) := by
  refine PE.of (pe_bm0 PySem.F.plainAttrs_list PySem.F.slot_list_reverse PySem.F.type_list_reverse mt_reverse ho hbase hline) ?_
  rintro σ H Q ⟨g, ρ, ds, st, P, R, hw, hq⟩
  refine ⟨g, ρ, ds, st, _, R, hw, fun x st1 vx H1 ρ1 h1 R1 r1 => ?_⟩
  obtain ⟨i, xs, rfl, hi, hp⟩ := h1
  obtain ⟨a', ha', rfl⟩ := ref_of r1
  obtain ⟨ws, h3, h4⟩ := R1.cells i _ _ ha' hi
  obtain ⟨R3, e3⟩ := setL_ok R1 ha' hi rfl (reps.reverse h4)
  exact ⟨.inl ⟨rfl, _, SqL.of h3⟩, a', ws, rfl, rfl, h3, hq _ _ _ _ ρ1 hp R3 rfl⟩
end
/-! ### a cell is frozen: nothing is done -/
theorem ae_frz (ha : PE X e (lE X.K wa)) : PE X e (lE X.K (wFrz wa)) := by
  refine PE.of ha ?_
  rintro σ H Q ⟨g, ρ, ds, st, P, R, hw, hq⟩
  refine ⟨g, ρ, ds, st, _, R, hw, fun x st1 vx H1 ρ1 h1 R1 r1 => ?_⟩
  obtain ⟨i, rfl, h1⟩ := h1
  obtain ⟨a', ha', rfl⟩ := ref_of r1
  rcases h1 with ⟨xs, hi, hp⟩ | ⟨kvs, hi, hp⟩ | ⟨kvs, hi, hp⟩
  · obtain ⟨ws, h3, h4⟩ := R1.cells i _ _ ha' hi
    obtain ⟨R3, e3, r3⟩ := R1.freeze (x := .lst xs) ha' hi fun F' e q => ⟨a', ws, rfl, by rw [q]; exact h3, reps.mono e _ _ h4⟩
    exact hq _ _ _ _ ρ1 hp ⟨R3, R1.slots.mono e3 List.prefix_rfl⟩ r3
  · obtain ⟨ws, h3, h4⟩ := R1.cells i _ _ ha' hi
    obtain ⟨R3, e3, r3⟩ := R1.freeze (x := .dic kvs) ha' hi fun F' e q => ⟨a', ws, rfl, .inl (by rw [q]; exact h3), repK.mono e _ _ h4⟩
    exact hq _ _ _ _ ρ1 hp ⟨R3, R1.slots.mono e3 List.prefix_rfl⟩ r3
  · obtain ⟨ws, h3, h4⟩ := R1.cells i _ _ ha' hi
    obtain ⟨R3, e3, r3⟩ := R1.freeze (x := .dit kvs) ha' hi fun F' e q => ⟨a', ws, rfl, .inl (by rw [q]; exact h3), repT.mono e _ _ h4⟩
    exact hq _ _ _ _ ρ1 hp ⟨R3, R1.slots.mono e3 List.prefix_rfl⟩ r3
end
end PP

/-! Mrl5: statements, targets, loops. -/
namespace PP
open PySem PySem.Spec PyProof.Rows L2
section
variable {K : PySem.W.Frag} {g : G} {ρ : List Addr} {σ : L2.St} {H : Hp} {ds : Sl} {st : Sto} {F : Hp}
theorem Slots.set (h : Slots K F ρ ds σ) {i : Nat} {m : M} {v : V} (hi : i < σ.length) (r : repM K F ρ m v) : Slots K F ρ (ds.set i (some m)) (σ.set i (some v)) := ⟨by rw [List.length_set, List.length_set, h.1], fun j n hj => by
  by_cases e : j = i
  · subst e
    rw [List.getElem?_set_self (by rw [h.1]; exact hi)] at hj
    simp only [Option.some.injEq] at hj
    subst hj
    exact ⟨v, List.getElem?_set_self hi, r⟩
  · rw [List.getElem?_set_ne (Ne.symm e)] at hj ⊢
    exact h.2 j n hj⟩
end
section
variable {X : Cx} {a b c e o : Expr} {es : List Expr} {pos p2 : Pos} {wa wb wc wo : WE} {wr : WA} {t u : WT} {st : Stmt} {sts : List Stmt} {s s' : WS}
theorem as_nil : PSs X [] (lS X.K wsNext) := by
  refine PSs.of pss_nil ?_
  rintro D σ H ⟨g, ρ, ds, st, W, R, hw, h1, h2, h3, h4⟩
  exact h1 _ _ _ _ _ hw R
theorem as_one (h : PS X st (lS X.K s)) : PSs X [st] (lS X.K s) := pss_one h
theorem as_cons (h : PS X st (lS X.K s)) (h' : PSs X sts (lS X.K s')) : PSs X (st :: sts) (lS X.K (wsSeq s s')) := by
  refine PSs.of (pss_cons h h') ?_
  rintro D σ H ⟨g, ρ, ds, st, W, R, hw, h1, h2, h3, h4⟩
  exact ⟨g, ρ, ds, st, { W with nx := s' W }, R, hw, fun ds' st' σ' H' ρ' q R' => ⟨g, ρ', ds', st', W, R', q, h1, h2, h3, h4⟩, h2, h3, h4⟩
theorem as_pass : PS X (.Pass pos) (lS X.K wsNext) := by
  refine PS.of ps_pass ?_
  rintro D σ H ⟨g, ρ, ds, st, W, R, hw, h1, h2, h3, h4⟩
  exact h1 _ _ _ _ _ hw R
theorem as_break : PS X (.Break pos) (lS X.K wsBreak) := by
  refine PS.of ps_break ?_
  rintro D σ H ⟨g, ρ, ds, st, W, R, hw, h1, h2, h3, h4⟩
  exact h2 _ _ _ _ _ hw R
theorem as_cont : PS X (.Continue pos) (lS X.K wsCont) := by
  refine PS.of ps_continue ?_
  rintro D σ H ⟨g, ρ, ds, st, W, R, hw, h1, h2, h3, h4⟩
  exact h3 _ _ _ _ _ hw R
theorem as_never : PS X st (lS X.K wsNever) := by
  refine PS.of ps_never ?_
  rintro D σ H ⟨g, ρ, ds, st, W, R, hw, h1, h2, h3, h4⟩
  exact hw.elim
theorem as_expr (he : PE X e (lE X.K wa)) (hs : swapsWith e none pos.line X.env = pure false := by rfl) : PS X (.Expr e pos) (lS X.K (wsDrop wa)) := by
  refine PS.of (ps_expr he hs) ?_
  rintro D σ H ⟨g, ρ, ds, st, W, R, hw, h1, h2, h3, h4⟩
  exact ⟨g, ρ, ds, st, _, R, hw, fun m st1 v H1 ρ1 q R1 _ => h1 _ _ _ _ _ q R1⟩
theorem as_ret (he : PE X e (lE X.K wa)) : PS X (.Return (some e) pos) (lS X.K (wsRet wa)) := by
  refine PS.of (ps_ret he) ?_
  rintro D σ H ⟨g, ρ, ds, st, W, R, hw, h1, h2, h3, h4⟩
  exact ⟨g, ρ, ds, st, _, R, hw, fun m st1 v H1 ρ1 q R1 r1 => h4 _ _ _ _ _ q R1.toCore r1⟩
theorem as_retN : PS X (.Return none pos) (lS X.K wsRetN) := by
  refine PS.of ps_retN ?_
  rintro D σ H ⟨g, ρ, ds, st, W, R, hw, h1, h2, h3, h4⟩
  exact h4 _ _ _ _ _ hw R.toCore rfl
theorem as_if {c : Expr} {x y : List Stmt} (hc : PT X c (lT X.K t)) (hx : PSs X x (lS X.K s)) (hy : PSs X y (lS X.K s')) : PS X (.If c x y pos) (lS X.K (wsIf t s s')) := by
  refine PS.of (ps_if hc hx hy) ?_
  rintro D σ H ⟨g, ρ, ds, st, W, R, hw, h1, h2, h3, h4⟩
  refine ⟨g, ρ, ds, st, _, R, hw, fun b st1 H1 ρ1 q R1 => ?_⟩
  cases b with
  | true =>
    rw [if_pos rfl] at q ⊢
    exact ⟨g, ρ1, ds, st1, W, R1, q, h1, h2, h3, h4⟩
  | false =>
    rw [if_neg Bool.false_ne_true] at q ⊢
    exact ⟨g, ρ1, ds, st1, W, R1, q, h1, h2, h3, h4⟩
/-! ### targets -/
def lG (K : PySem.W.Frag) (w : WG) : TG := fun v σ H Q => ∃ g ρ ds st m P, Rel K g ρ σ H ds st ∧ repM K (fr g ρ st H) ρ m v ∧ w m ds st P ∧ ∀ ds' st' σ' H' ρ', P ds' st' → Rel K g ρ' σ' H' ds' st' → Q σ' H'
def lGs (K : PySem.W.Frag) (w : WGs) : TGs := fun vs σ H Q => ∃ g ρ ds st ms P, Rel K g ρ σ H ds st ∧ repMs K (fr g ρ st H) ρ ms vs ∧ w ms ds st P ∧ ∀ ds' st' σ' H' ρ', P ds' st' → Rel K g ρ' σ' H' ds' st' → Q σ' H'
theorem PG.of {X : Cx} {e : Expr} {t t' : TG} (h : PG X e t) (i : ∀ v σ H Q, t' v σ H Q → t v σ H Q) : PG X e t' := ⟨fun pins s σ H v u Q I r q => h.run pins s σ H v u Q I r (i v σ H Q q)⟩
theorem PGs.of {X : Cx} {e : List Expr} {t t' : TGs} (h : PGs X e t) (i : ∀ v σ H Q, t' v σ H Q → t v σ H Q) : PGs X e t' := ⟨fun pins s σ H v u Q I r q => h.run pins s σ H v u Q I r (i v σ H Q q)⟩
variable {gw : WG} {gs : WGs}
theorem ag_name (i : Nat) {x : Str} (hN : X.N.Nodup) (hi : X.N[i]? = some x) (hx : Loc X.env.scope x) (hlen : Nat.blt i X.N.length = true := by rfl) (hf : X.fn x = true ∨ X.env.scope.names.lookup x = some .local := by first | exact .inl rfl | exact .inr rfl | assumption) : PG X (.Name x pos) (lG X.K (wgName i)) := by
  refine ⟨fun pins s σ H v u Q I r h => ?_⟩
  refine (pg_name hN hi hx hf).run pins s σ H v u Q I r ?_
  obtain ⟨g, ρ, ds, st, m, P, R, rm, hp, hq⟩ := h
  exact hq _ _ _ _ _ hp ⟨R.toCore, R.slots.set (by rw [I.len]; exact Nat.le_of_ble_eq_true hlen) rm⟩
theorem ags_nil : PGs X [] (lGs X.K wgsNil) := by
  refine PGs.of pgs_nil ?_
  rintro v σ H Q ⟨g, ρ, ds, st, ms, P, R, rm, ⟨rfl, hp⟩, hq⟩
  exact ⟨rm, hq _ _ _ _ _ hp R⟩
theorem ags_cons (h1 : PG X e (lG X.K gw)) (h2 : PGs X es (lGs X.K gs)) (hs : (assignEach (e :: es) X.env).map (·.2) = assign e X.env :: (assignEach es X.env).map (·.2) := by rfl) : PGs X (e :: es) (lGs X.K (wgsCons gw gs)) := by
  refine PGs.of (pgs_cons h1 h2 hs) ?_
  rintro vs σ H Q ⟨g, ρ, ds, st, ms, P, R, rm, hp, hq⟩
  cases ms with
  | nil => exact hp.elim
  | cons m rest =>
  obtain ⟨v, ws, rfl, r1, r2⟩ := rm
  refine ⟨v, ws, rfl, _, ρ, ds, st, m, _, R.now, r1, hp, fun ds1 st1 σ1 H1 ρ1 hp1 R1 => ?_⟩
  exact ⟨g, ρ1, ds1, st1, rest, P, R1.back R.ext R.pre, r2.mono R1.ext R1.pre, hp1, hq⟩
theorem ag_tup {k : Nat} {n : Nat} (hc : X.calm = true) (h : PGs X es (lGs X.K gs)) (hn : (assignEach es X.env).length = n := by rfl) (hst : (assignEach es X.env).findIdx? (·.1) = none := by rfl) : PG X (.Tuple es k pos) (lG X.K (wgTup n gs)) := by
  refine PG.of (pg_tup hc h hn hst) ?_
  rintro v σ H Q ⟨g, ρ, ds, st, m, P, R, rm, ⟨zs, hz, hl, hp⟩, hq⟩
  obtain ⟨a, vs, rfl, h1, h2⟩ := R.toCore.tupOf rm hz
  exact ⟨a, vs, rfl, h1, by rw [← reps.length h2]; exact hl, g, ρ, ds, st, _, P, R, repMs.dat.mpr h2, hp, hq⟩
theorem as_asg {tg : Expr} (he : PE X e (lE X.K wa)) (hg : PG X tg (lG X.K gw)) (hs : swapsWithSole [tg] e pos.line X.env = pure false := by rfl) (hw : swappedStores [tg] e X.env = pure none := by rfl)
    (h1 : (assignEach [tg] X.env).map (·.2) = [assign tg X.env] := by rfl) : PS X (.Assign [tg] e pos) (lS X.K (wsAsg wa gw)) := by
  refine PS.of (ps_asg he hg hs hw h1) ?_
  rintro D σ H ⟨g, ρ, ds, st, W, R, hw, h1, h2, h3, h4⟩
  exact ⟨g, ρ, ds, st, _, R, hw, fun m st1 v H1 ρ1 q R1 r1 => ⟨g, ρ1, ds, st1, m, _, R1, r1, q, h1⟩⟩
theorem as_set (i : Nat) {x : Str} {pos' : Pos} (hN : X.N.Nodup) (hi : X.N[i]? = some x) (hx : Loc X.env.scope x) (he : PE X e (lE X.K wa)) (hlen : Nat.blt i X.N.length = true := by rfl) (hs : swapsWith e (some (.Name x pos')) pos.line X.env = pure false := by rfl) (hf : X.fn x = true ∨ X.env.scope.names.lookup x = some .local := by first | exact .inl rfl | exact .inr rfl | assumption) :
    PS X (.Assign [.Name x pos'] e pos) (lS X.K (wsAsg wa (wgName i))) := by
  refine ⟨fun pins s σ H D I h => ?_⟩
  refine (ps_set hN hi hx he hs hf).run pins s σ H D I ?_
  obtain ⟨g, ρ, ds, st, W, R, hw, h1, h2, h3, h4⟩ := h
  exact ⟨g, ρ, ds, st, _, R, hw, fun m st1 v H1 ρ1 q R1 r1 => h1 _ _ _ _ _ q ⟨R1.toCore, R1.slots.set (by rw [I.len]; exact Nat.le_of_ble_eq_true hlen) r1⟩⟩
/-- name op= e -/
def APB (X : Cx) (op : Operator) (f : Sto → M → M → Option D) : Prop := ∃ r : TIp, PIp X op r ∧ ∀ (g : G) (ρ : List Addr) (H : Hp) (st : Sto) (x y : M) (vx vy : V) (d : D) (Q : VK), Core X.K g ρ H st →
  repM X.K (fr g ρ st H) ρ x vx → repM X.K (fr g ρ st H) ρ y vy → f st x y = some d → (∀ v, rep X.K (fr g ρ st H) d v → Q v H) → r vx vy H Q
theorem ap_add : APB X .Add fAddI := ⟨_, ip_add, fun g ρ H st x y vx vy d Q R rx ry e q => by
  unfold fAddI at e
  split at e
  · cases e
    exact ⟨_, _, int_of rx, int_of ry, q _ rfl⟩
  · cases e⟩
theorem as_aug (i : Nat) {x : Str} {op : Operator} {f : Sto → M → M → Option D} {pos' : Pos} (hN : X.N.Nodup) (hi : X.N[i]? = some x) (hx : Loc X.env.scope x) (he : PE X e (lE X.K wa)) (ho : APB X op f) (hlen : Nat.blt i X.N.length = true := by rfl) (hf : X.fn x = true ∨ X.env.scope.names.lookup x = some .local := by first | exact .inl rfl | exact .inr rfl | assumption) :
    PS X (.AugAssign (.Name x pos') op e pos) (lS X.K (wsAug i f wa)) := by
  obtain ⟨r, ho, k⟩ := ho
  refine ⟨fun pins s σ H D I h => ?_⟩
  refine (ps_aug hN hi hx he ho hf).run pins s σ H D I ?_
  obtain ⟨g, ρ, ds, st, W, R, ⟨m, hm, hw⟩, h1, h2, h3, h4⟩ := h
  obtain ⟨v, e1, r1⟩ := R.slots.2 i m hm
  refine ⟨v, e1, _, ρ, ds, st, _, R.now, hw, fun y st1 vy H1 ρ1 q R1 r2 => ?_⟩
  obtain ⟨d, hd, hp⟩ := q
  have R1' := R1.back R.ext R.pre
  exact k _ ρ1 H1 st1 m y v vy d _ R1.toCore (r1.mono R1.ext R1.pre) r2 hd fun z rz => h1 _ _ _ _ _ hp ⟨R1'.toCore, R1'.slots.set (by rw [I.len]; exact Nat.le_of_ble_eq_true hlen) rz⟩
/-! ### loops -/
theorem as_while {c : Expr} {x : List Stmt} (hp : PassesOwn (model X.prog X.w) X.A X.env X.xe) (hc : PT X c (lT X.K t)) (hx : PSs X x (lS X.K s)) : PS X (.While c x [] pos) (lS X.K (wsWhile t s)) := by
  refine PS.of (ps_while hp hc hx) ?_
  rintro D σ H ⟨g, ρ, ds, st, W, R, ⟨I, ⟨n0, i0⟩, turn⟩, h1, h2, h3, h4⟩
  refine ⟨fun n σ' H' => ∃ ρ' ds' st', Rel X.K g ρ' σ' H' ds' st' ∧ I n ds' st', ⟨n0, ρ, ds, st, R, i0⟩, ?_⟩
  rintro n σ' H' ⟨ρ', ds', st', R', i'⟩
  refine ⟨g, ρ', ds', st', _, R', turn n ds' st' i', fun b st1 H1 ρ1 q R1 => ?_⟩
  cases b with
  | true =>
    rw [if_pos rfl] at q ⊢
    refine ⟨fun σ2 H2 => ∃ ρ2 ds2 st2, Rel X.K g ρ2 σ2 H2 ds2 st2 ∧ ∃ n', n' < n ∧ I n' ds2 st2, ?_, g, ρ1, ds', st1, _, R1, q, ?_, ?_, ?_, h4⟩
    · rintro σ2 H2 ⟨ρ2, ds2, st2, R2, n', hn, i2⟩
      exact ⟨n', hn, ρ2, ds2, st2, R2, i2⟩
    · exact fun ds2 st2 σ2 H2 ρ2 q R2 => ⟨ρ2, ds2, st2, R2, q⟩
    · exact fun ds2 st2 σ2 H2 ρ2 q R2 => h1 _ _ _ _ _ q R2
    · exact fun ds2 st2 σ2 H2 ρ2 q R2 => ⟨ρ2, ds2, st2, R2, q⟩
  | false =>
    rw [if_neg Bool.false_ne_true] at q ⊢
    exact h1 _ _ _ _ _ q R1
/-- how the walked thing J gives the items xs while stab holds -/
structure GenI (K : PySem.W.Frag) (g : G) (J : It) (xs : List M) (stab : Sto → Prop) : Prop where
  go : ∀ (i : Nat) (ρ : List Addr) (H : Hp) (st : Sto), i < xs.length → Core K g ρ H st → stab st → J.go i H
  stop : ∀ (ρ : List Addr) (H : Hp) (st : Sto), Core K g ρ H st → stab st → J.stop xs.length H
  yld : ∀ (i : Nat) (ρ : List Addr) (H : Hp) (st : Sto) (x : M) (v : V) (H' : Hp), xs[i]? = some x → Core K g ρ H st → stab st → J.yld i H v H' → Ex H H' ∧ repM K (fr g ρ st H') ρ x v
def lI (K : PySem.W.Frag) (w : WI) : TI := fun σ H R => ∃ g ρ ds st P, Rel K g ρ σ H ds st ∧ w ds st P ∧ ∀ xs stab st' H' ρ' J, P xs stab st' → Rel K g ρ' σ H' ds st' → GenI K (g.now (fr g ρ' st' H') ρ') J xs stab → R J H'
theorem PI.of {X : Cx} {tg e : Expr} {t t' : TI} (h : PI X tg e t) (i : ∀ σ H R, t' σ H R → t σ H R) : PI X tg e t' := ⟨fun pins s σ H R I q => h.run pins s σ H R I (i σ H R q)⟩
variable {tg : Expr} {wi : WI}
/-- over a list -/
theorem ai_lst (ha : PE X e (lE X.K wa)) : PI X tg e (lI X.K (wiLst wa)) := by
  refine PI.of (pi_list ha) ?_
  rintro σ H Rr ⟨g, ρ, ds, st, P, R, hw, hq⟩
  refine ⟨g, ρ, ds, st, _, R, hw, fun m st1 v H1 ρ1 h1 R1 r1 => ?_⟩
  obtain ⟨xs, hx, hp⟩ := h1
  obtain ⟨a, vs, rfl, q1, q2⟩ := R1.toCore.listOf r1 hx
  refine ⟨a, rfl, ⟨vs, q1⟩, hq _ _ _ _ ρ1 _ hp R1 ⟨fun i ρ' H' st' hi C hs => ?_, fun ρ' H' st' C hs => ?_, fun i ρ' H' st' x v H2 hi C hs y => ?_⟩⟩
  · obtain ⟨a', us, e1, s1, s2⟩ := C.listOf (r1.mono C.ext C.pre) hs
    cases e1
    have hl := reps.length s2
    rw [List.length_map] at hi
    exact ⟨us, us[i]'(by omega), s1, List.getElem?_eq_getElem _⟩
  · obtain ⟨a', us, e1, s1, s2⟩ := C.listOf (r1.mono C.ext C.pre) hs
    cases e1
    exact ⟨us, s1, by rw [List.length_map, reps.length s2]; exact Nat.le_refl _⟩
  · obtain ⟨rfl, y⟩ := y
    obtain ⟨a', us, e1, s1, s2⟩ := C.listOf (r1.mono C.ext C.pre) hs
    cases e1
    refine ⟨Ex.refl _, ?_⟩
    rw [List.getElem?_map, Option.map_eq_some_iff] at hi
    obtain ⟨d, hd, rfl⟩ := hi
    obtain ⟨u, hu, ru⟩ := reps.get s2 hd
    have e2 := y us s1
    rw [hu] at e2
    cases e2
    exact ru
theorem ai_tup (ha : PE X e (lE X.K wa)) : PI X tg e (lI X.K (wiTup wa)) := by
  refine PI.of (pi_tup ha) ?_
  rintro σ H Rr ⟨g, ρ, ds, st, P, R, hw, hq⟩
  refine ⟨g, ρ, ds, st, _, R, hw, fun m st1 v H1 ρ1 h1 R1 r1 => ?_⟩
  obtain ⟨xs, hx, hp⟩ := h1
  obtain ⟨a, vs, rfl, q1, q2⟩ := R1.toCore.tupOf r1 hx
  refine ⟨a, rfl, ⟨vs, q1⟩, hq _ _ _ _ ρ1 _ hp R1 ⟨fun i ρ' H' st' hi C hs => ?_, fun ρ' H' st' C hs => ?_, fun i ρ' H' st' x v H2 hi C hs y => ?_⟩⟩
  · obtain ⟨a', us, e1, s1, s2⟩ := C.tupOf (r1.mono C.ext C.pre) hx
    cases e1
    have hl := reps.length s2
    rw [List.length_map] at hi
    exact ⟨us, us[i]'(by omega), s1, List.getElem?_eq_getElem _⟩
  · obtain ⟨a', us, e1, s1, s2⟩ := C.tupOf (r1.mono C.ext C.pre) hx
    cases e1
    exact ⟨us, s1, by rw [List.length_map, reps.length s2]; exact Nat.le_refl _⟩
  · obtain ⟨rfl, y⟩ := y
    obtain ⟨a', us, e1, s1, s2⟩ := C.tupOf (r1.mono C.ext C.pre) hx
    cases e1
    refine ⟨Ex.refl _, ?_⟩
    rw [List.getElem?_map, Option.map_eq_some_iff] at hi
    obtain ⟨d, hd, rfl⟩ := hi
    obtain ⟨u, hu, ru⟩ := reps.get s2 hd
    have e2 := y us s1
    rw [hu] at e2
    cases e2
    exact ru
theorem rng_gen (K : PySem.W.Frag) (g : G) (lo c : Int) (n : Nat) : GenI K g (Itc lo c n) (rngItems lo c n) (fun _ => True) := ⟨fun i ρ H st hi C _ => by
    have h : i < (rngItems lo c n).length := hi
    unfold rngItems at h
    rw [List.length_map, List.length_range] at h
    exact h, fun ρ H st C _ => by
    show n ≤ (rngItems lo c n).length
    unfold rngItems
    rw [List.length_map, List.length_range]
    exact Nat.le_refl _, fun i ρ H st x v H' hi C _ y => by
    obtain ⟨rfl, rfl⟩ := y
    refine ⟨Ex.refl _, ?_⟩
    unfold rngItems at hi
    rw [List.getElem?_map, Option.map_eq_some_iff] at hi
    obtain ⟨j, hj, rfl⟩ := hi
    have e : j = i := by
      obtain ⟨h1, h2⟩ := List.getElem?_eq_some_iff.mp hj
      rw [List.getElem_range] at h2
      exact h2.symm
    subst e
    rfl⟩
theorem itr_itc (lo : Int) (n : Nat) : Itr lo n = Itc lo 1 n := by
  unfold Itr Itc
  congr 1
  funext i H x H'
  rw [Int.mul_one]
theorem bnd_of {i : Int} (h : bnd62 i = true) : -(2 ^ 62) ≤ i ∧ i < 2 ^ 62 := by
  unfold bnd62 at h
  simp at h
  omega
section
variable {p : Pos}
theorem ai_rng1 (hg : Gl X "range") (hm : X.mg "range" = none) (ha : PA X [a] (lA X.K wr)) (hs : starEach [a] X.env = [(false, eval a X.env)] := by rfl) : PI X tg (.Call (.Name "range" p) [a] [] pos) (lI X.K (wiRng rng1 wr)) := by
  refine PI.of (pi_range1 hg hm ha hs) ?_
  rintro σ H Rr ⟨g, ρ, ds, st, P, R, hw, hq⟩
  refine ⟨g, ρ, ds, st, _, R, hw, fun ms st1 vs H1 ρ1 h1 R1 r1 => ?_⟩
  obtain ⟨lo, c, n, hr, hp⟩ := h1
  unfold rng1 at hr
  split at hr
  · split at hr
    · rename_i hi hb
      cases hr
      obtain ⟨v, rfl, rv⟩ := one_of r1
      refine ⟨hi, by rw [int_of rv], (bnd_of hb).1, (bnd_of hb).2, ?_⟩
      rw [itr_itc]
      exact hq _ _ _ _ ρ1 _ hp R1 (rng_gen _ _ _ _ _)
    · cases hr
  · cases hr
theorem ai_rng2 (hg : Gl X "range") (hm : X.mg "range" = none) (ha : PA X [a, b] (lA X.K wr)) (hs : starEach [a, b] X.env = [(false, eval a X.env), (false, eval b X.env)] := by rfl) (hs2 : starEach [b] X.env = [(false, eval b X.env)] := by rfl) :
    PI X tg (.Call (.Name "range" p) [a, b] [] pos) (lI X.K (wiRng rng2 wr)) := by
  refine PI.of (pi_range2 hg hm ha hs hs2) ?_
  rintro σ H Rr ⟨g, ρ, ds, st, P, R, hw, hq⟩
  refine ⟨g, ρ, ds, st, _, R, hw, fun ms st1 vs H1 ρ1 h1 R1 r1 => ?_⟩
  obtain ⟨lo, c, n, hr, hp⟩ := h1
  unfold rng2 at hr
  split at hr
  · split at hr
    · rename_i lo hi hb
      cases hr
      obtain ⟨v, w, rfl, rv, rw'⟩ := two_of r1
      obtain ⟨b1, b2⟩ := Bool.and_eq_true_iff.mp hb
      refine ⟨lo, hi, by rw [int_of rv, int_of rw'], ⟨(bnd_of b1).1, (bnd_of b1).2, (bnd_of b2).1, (bnd_of b2).2⟩, ?_⟩
      rw [itr_itc]
      exact hq _ _ _ _ ρ1 _ hp R1 (rng_gen _ _ _ _ _)
    · cases hr
  · cases hr
theorem three_of {K : PySem.W.Frag} {F : Hp} {ρ : List Addr} {m n k : M} {vs : List V} (r : repMs K F ρ [m, n, k] vs) : ∃ v w u, vs = [v, w, u] ∧ repM K F ρ m v ∧ repM K F ρ n w ∧ repM K F ρ k u := by
  obtain ⟨v, ws, rfl, h1, h2⟩ := r
  obtain ⟨w, u, rfl, h3, h4⟩ := two_of h2
  exact ⟨v, w, u, rfl, h1, h3, h4⟩
theorem rgC_up {i j c : Int} (hi : -(2 ^ 62) ≤ i ∧ i < 2 ^ 62) (hj : -(2 ^ 62) ≤ j ∧ j < 2 ^ 62) (hc : 0 < c) (hc2 : c < 1048576) : RgC i j c (if i < j then (j - i - 1) / c + 1 else 0).toNat := by
  have e : Builtin.Range.rangeSize i j c = if i < j then (j - i - 1) / c + 1 else 0 := by
    unfold Builtin.Range.rangeSize
    rw [if_pos hc]
  have hn : 0 ≤ (if i < j then (j - i - 1) / c + 1 else 0) := by
    split
    · have := Int.ediv_nonneg (show 0 ≤ j - i - 1 by omega) (Int.le_of_lt hc)
      omega
    · exact Int.le_refl _
  refine ⟨by omega, by omega, ?_, by rw [e, Int.toNat_of_nonneg hn]⟩
  unfold Builtin.Range.small
  rw [e]
  have hd : i < j → (j - i - 1) / c ≤ j - i - 1 := fun h => Int.ediv_le_self _ (by omega)
  have hp : i < j → 0 ≤ (j - i - 1) / c := fun h => Int.ediv_nonneg (by omega) (Int.le_of_lt hc)
  simp only [Builtin.Range.rangeFitsLong, Bool.and_eq_true, Bool.or_eq_true, decide_eq_true_eq, beq_iff_eq, if_pos (show c > 0 from hc)]
  by_cases hij : i < j
  · have h2 := hd hij
    have h3 := hp hij
    simp only [if_pos hij]
    omega
  · simp only [if_neg hij]
    omega
theorem ai_rng3 (hg : Gl X "range") (hm : X.mg "range" = none) (ha : PA X [a, b, c] (lA X.K wr)) (hs : starEach [a, b, c] X.env = (false, eval a X.env) :: starEach [b, c] X.env := by rfl) (hpl : (backTo pos (starEach [b, c] X.env)).any (·.1) = false := by rfl) :
    PI X tg (.Call (.Name "range" p) [a, b, c] [] pos) (lI X.K (wiRng rng3 wr)) := by
  refine PI.of (pi_range3 hg hm ha hs hpl) ?_
  rintro σ H Rr ⟨g, ρ, ds, st, P, R, hw, hq⟩
  refine ⟨g, ρ, ds, st, _, R, hw, fun ms st1 vs H1 ρ1 h1 R1 r1 => ?_⟩
  obtain ⟨lo, c, n, hr, hp⟩ := h1
  unfold rng3 at hr
  split at hr
  · split at hr
    · rename_i lo hi c hb
      cases hr
      obtain ⟨v, w, u, rfl, rv, rw', ru⟩ := three_of r1
      obtain ⟨b12, b3⟩ := Bool.and_eq_true_iff.mp hb
      obtain ⟨b1, b2⟩ := Bool.and_eq_true_iff.mp b12
      obtain ⟨b3, b4⟩ := Bool.and_eq_true_iff.mp b3
      exact ⟨lo, hi, c, _, by rw [int_of rv, int_of rw', int_of ru], rgC_up (bnd_of b1) (bnd_of b2) (of_decide_eq_true b3) (of_decide_eq_true b4), hq _ _ _ _ ρ1 _ hp R1 (rng_gen _ _ _ _ _)⟩
    · cases hr
  · cases hr
end
/-- the loop -/
theorem as_for {iter : Expr} {x : List Stmt} (hp : PassesOwn (model X.prog X.w) X.A X.env X.xe) (hc : X.calm = true) (hi : PI X tg iter (lI X.K wi)) (hg : PG X tg (lG X.K gw)) (hx : PSs X x (lS X.K s))
    (hs : ∀ x, foldedSetIterable iter X.env x = pure x := by intro _; rfl) : PS X (.For tg iter x [] pos) (lS X.K (wsFor wi gw s)) := by
  refine PS.of (ps_for hp hc hi hg hx hs) ?_
  rintro D σ H ⟨g, ρ, ds, st, W, R, hw, h1, h2, h3, h4⟩
  refine ⟨g, ρ, ds, st, _, R, hw, fun xs stab st1 H1 ρ1 J q R1 GJ => ?_⟩
  obtain ⟨I, i0, turn, done⟩ := q
  have e1 := R1.ext
  have p1 := R1.pre
  refine ⟨fun i m σ' H' => m = xs.length - i ∧ i ≤ xs.length ∧ ∃ ρ' ds' st', Rel X.K (g.now (fr g ρ1 st1 H1) ρ1) ρ' σ' H' ds' st' ∧ I (xs.take i) ds' st', ⟨xs.length, by simp, Nat.zero_le _, ρ1, ds, st1, R1.now, i0⟩, ?_⟩
  rintro i m σ' H' ⟨rfl, hi, ρ', ds', st', R', i'⟩
  by_cases hlt : i < xs.length
  · have ex : xs = xs.take i ++ xs[i] :: xs.drop (i + 1) := by
      rw [← List.drop_eq_getElem_cons hlt, List.take_append_drop]
    have et : xs.take i ++ [xs[i]] = xs.take (i + 1) := by rw [List.take_add_one, List.getElem?_eq_getElem hlt]; rfl
    obtain ⟨hst, ht⟩ := turn _ _ _ ds' st' ex i'
    refine .inr ⟨GJ.go i ρ' H' st' hlt R'.toCore hst, fun σ2 H2 => ∃ ρ2 ds2 st2, Rel X.K (g.now (fr g ρ1 st1 H1) ρ1) ρ2 σ2 H2 ds2 st2 ∧ I (xs.take (i + 1)) ds2 st2, ?_, ?_⟩
    · rintro σ2 H2 ⟨ρ2, ds2, st2, R2, i2⟩
      exact ⟨_, by omega, rfl, hlt, ρ2, ds2, st2, R2, i2⟩
    · intro v H2 y
      obtain ⟨hk, rv⟩ := GJ.yld i ρ' H' st' _ v H2 (List.getElem?_eq_getElem hlt) R'.toCore hst y
      refine ⟨_, ρ', ds', st', _, _, R'.grow hk, rv, ht, fun ds3 st3 σ3 H3 ρ3 q3 R3 => ?_⟩
      rw [et] at q3
      exact ⟨_, ρ3, ds3, st3, _, R3, q3, fun ds4 st4 σ4 H4 ρ4 q4 R4 => ⟨ρ4, ds4, st4, R4, q4⟩, fun ds4 st4 σ4 H4 ρ4 q4 R4 => h1 _ _ _ _ _ q4 (R4.back e1 p1), fun ds4 st4 σ4 H4 ρ4 q4 R4 => ⟨ρ4, ds4, st4, R4, q4⟩,
        fun m st4 v4 H4 ρ4 q4 R4 r4 => h4 _ _ _ _ _ q4 (R4.back e1 p1) r4⟩
  · have e : i = xs.length := by omega
    subst e
    rw [List.take_length] at i'
    obtain ⟨hst, hn⟩ := done ds' st' i'
    exact .inl ⟨GJ.stop ρ' H' st' R'.toCore hst, h1 _ _ _ _ _ hn (R'.back e1 p1)⟩
end
end PP

/-! Mrl6: objects, calls with a part of the cells, defs. -/
namespace PP
open PySem PySem.Spec PyProof.Rows L2
/-! ### fields -/
section
variable {K : PySem.W.Frag} {g : G} {ρ ρ' : List Addr} {σ : L2.St} {H : Hp} {ds : Sl} {st : Sto} {F : Hp}
theorem repF.get {f : Str} : ∀ {fs : List (Str × M)} {vs : List (Str × V)} {m : M}, repF K F ρ fs vs → fs.lookup f = some m → ∃ v, vs.lookup f = some v ∧ repM K F ρ m v
  | [], _, _, _, e => by cases e
  | (x, n) :: fs, _, m, ⟨v, ws, h1, h2, h3⟩, e => by
    subst h1
    rw [List.lookup_cons] at e ⊢
    cases q : f == x with
    | true =>
      rw [q] at e
      cases e
      exact ⟨v, rfl, h2⟩
    | false =>
      rw [q] at e
      exact repF.get h3 e
theorem repF.put {f : Str} {m : M} {v : V} (r : repM K F ρ m v) : ∀ {fs : List (Str × M)} {vs : List (Str × V)}, repF K F ρ fs vs → repF K F ρ (putF' f m fs) (putF f v vs)
  | [], _, h => by
    rw [show _ = [] from h]
    exact ⟨v, [], rfl, r, rfl⟩
  | (x, n) :: fs, _, ⟨w, ws, h1, h2, h3⟩ => by
    subst h1
    unfold putF' putF
    by_cases e : x = f
    · rw [if_pos e, if_pos e]
      subst e
      exact ⟨v, ws, rfl, r, h3⟩
    · rw [if_neg e, if_neg e]
      exact ⟨w, _, rfl, h2, repF.put r h3⟩
theorem repF.no {f : Str} : ∀ {fs : List (Str × M)} {vs : List (Str × V)}, repF K F ρ fs vs → fs.lookup f = none → vs.lookup f = none
  | [], _, h, _ => by rw [show _ = [] from h]; rfl
  | (y, n) :: fs, _, ⟨w, ws, h1, h2, h3⟩, e => by
    subst h1
    rw [List.lookup_cons] at e ⊢
    cases q : f == y with
    | true =>
      rw [q] at e
      cases e
    | false =>
      rw [q] at e
      exact repF.no h3 e
theorem repF.length : ∀ {fs : List (Str × M)} {vs : List (Str × V)}, repF K F ρ fs vs → fs.length = vs.length
  | [], _, h => by rw [show _ = [] from h]; rfl
  | (x, n) :: fs, _, ⟨w, ws, h1, h2, h3⟩ => by
    subst h1
    rw [List.length_cons, List.length_cons, repF.length h3]
end
section
variable {X : Cx} {a b c e o : Expr} {es : List Expr} {pos p2 pos' tpos : Pos} {wa wb wc wo : WE} {wr : WA} {t u : WT} {f cl : Str}
theorem ae_fld (hc : Cls X.K (He.ga X.K cl)) (hn : NoAttr X.K (He.ga X.K cl) f) (he : PE X e (lE X.K wa)) (hb : attributeBase e f X.env (eval e X.env) = eval e X.env := by rfl) : PE X (.Attribute e f pos) (lE X.K (wFld cl f wa)) := by
  refine PE.of (pe_fld he hb) ?_
  rintro σ H Q ⟨g, ρ, ds, st, P, R, hw, hq⟩
  refine ⟨g, ρ, ds, st, _, R, hw, fun m st1 v H1 ρ1 h1 R1 r1 => ?_⟩
  obtain ⟨i, fs, n, rfl, hi, hl, hp⟩ := h1
  obtain ⟨a', ha', rfl⟩ := ref_of r1
  obtain ⟨dx, vs, h3, h4⟩ := R1.cells i _ _ ha' hi
  obtain ⟨u, hu, ru⟩ := repF.get h4 hl
  exact ⟨a', _, dx, vs, u, rfl, h3, hc, hn, hu, hq _ _ _ _ ρ1 hp R1 ru⟩
theorem as_fld (hc : Cls X.K (He.ga X.K cl)) (hn : NoAttr X.K (He.ga X.K cl) f) (ho : PE X o (lE X.K wo)) (he : PE X e (lE X.K wa)) (hs : swapsWith e (some (.Attribute o f pos')) pos.line X.env = pure false := by rfl) : PS X (.Assign [.Attribute o f pos'] e pos) (lS X.K (wsFld cl f wo wa)) := by
  refine PS.of (ps_fld ho he hs) ?_
  rintro D σ H ⟨g, ρ, ds, st, W, R, hw, h1, h2, h3, h4⟩
  refine ⟨g, ρ, ds, st, _, R, hw, fun m st1 v H1 ρ1 q1 R1 r1 => ?_⟩
  refine ⟨_, ρ1, ds, st1, _, R1.now, q1, fun x st2 vx H2 ρ2 q2 R2 r2 => ?_⟩
  obtain ⟨i, fs, rfl, hi, hl, hp⟩ := q2
  have R2' := R2.back R1.ext R1.pre
  obtain ⟨a', ha', rfl⟩ := ref_of r2
  obtain ⟨dx, vs, h5, h6⟩ := R2'.cells i _ _ ha' hi
  obtain ⟨R3, e3⟩ := R2'.write (o := .ins (He.ga X.K cl) dx (putF f v vs)) (c := .obj cl (putF' f m fs)) ha' hi rfl rfl fun F' e => ⟨dx, _, upd_same, repF.put ((r1.mono R2.ext R2.pre).mono e List.prefix_rfl) (repF.mono e List.prefix_rfl h6)⟩
  exact ⟨a', _, dx, vs, rfl, h5, hc, hn, by rw [← repF.length h6]; exact hl, h1 _ _ _ _ _ hp ⟨R3, R2'.slots.mono e3 List.prefix_rfl⟩⟩
/-- o.f op= e -/
def AIO (X : Cx) (op : Operator) (f : Sto → M → M → Option D) : Prop := ∃ r : V → V → Hp → VK → Prop, InOp X op r ∧ ∀ (g : G) (ρ : List Addr) (H : Hp) (st : Sto) (x y : M) (vx vy : V) (d : D) (Q : VK), Core X.K g ρ H st →
  repM X.K (fr g ρ st H) ρ x vx → repM X.K (fr g ρ st H) ρ y vy → f st x y = some d → (∀ v, rep X.K (fr g ρ st H) d v → Q v H) → r vx vy H Q
theorem aio_add : AIO X .Add fAddI := ⟨_, in_add, fun g ρ H st x y vx vy d Q R rx ry e q => by
  unfold fAddI at e
  split at e
  · cases e
    exact ⟨_, _, int_of rx, int_of ry, q _ rfl⟩
  · cases e⟩
theorem as_fldaug {op : Operator} {fo : Sto → M → M → Option D} (hc : Cls X.K (He.ga X.K cl)) (hn : NoAttr X.K (He.ga X.K cl) f) (ho : PE X o (lE X.K wo)) (he : PE X e (lE X.K wa)) (hop : AIO X op fo) : PS X (.AugAssign (.Attribute o f tpos) op e pos) (lS X.K (wsFldAug cl f fo wo wa)) := by
  obtain ⟨r, hop, k⟩ := hop
  refine PS.of (ps_fldaug ho he hop) ?_
  rintro D σ H ⟨g, ρ, ds, st, W, R, hw, h1, h2, h3, h4⟩
  refine ⟨g, ρ, ds, st, _, R, hw, fun x st1 vx H1 ρ1 q1 R1 r1 => ?_⟩
  obtain ⟨i, fs, n, rfl, hi, hl, q1⟩ := q1
  obtain ⟨a', ha', rfl⟩ := ref_of r1
  obtain ⟨dx, vs, h5, h6⟩ := R1.cells i _ _ ha' hi
  obtain ⟨u, hu, ru⟩ := repF.get h6 hl
  refine ⟨a', _, dx, vs, u, rfl, h5, hc, hn, hu, _, ρ1, ds, st1, _, R1.now, q1, fun y st2 vy H2 ρ2 q2 R2 r2 => ?_⟩
  obtain ⟨d, fs', hd, hi', hl', hp⟩ := q2
  have R2' := R2.back R1.ext R1.pre
  have ha2 := pre_get R2.pre ha'
  refine k _ ρ2 H2 st2 n y u vy d _ R2'.toCore (ru.mono R2.ext R2.pre) r2 hd fun z rz => ?_
  obtain ⟨dx', vs', h7, h8⟩ := R2'.cells i _ _ ha2 hi'
  obtain ⟨R3, e3⟩ := R2'.write (o := .ins (He.ga X.K cl) dx' (putF f z vs')) (c := .obj cl (putF' f (.dat d) fs')) ha2 hi' rfl rfl fun F' e => ⟨dx', _, upd_same, repF.put (m := .dat d) (rep.mono e _ _ rz) (repF.mono e List.prefix_rfl h8)⟩
  exact ⟨dx', vs', h7, by rw [← repF.length h8]; exact hl', h1 _ _ _ _ _ hp ⟨R3, R2'.slots.mono e3 List.prefix_rfl⟩⟩
end
/-! ### a def's contract as its promise -/
def spC (K : PySem.W.Frag) (C : Ct) : Sp := fun vs H Q _ => ∃ g ρ ms st P, Rel K g ρ (vs.map some) H (ms.map some) st ∧ g.H0 = H ∧ g.R0 = ρ ∧ C ms st P ∧
  ∀ m st' v H' ρ', P m st' → Core K g ρ' H' st' → repM K (fr g ρ' st' H') ρ' m v → Q v H'
section
variable {K : PySem.W.Frag} {g : G} {ρ ρ' : List Addr} {σ : L2.St} {H H' : Hp} {ds : Sl} {st st' st'' : Sto} {F : Hp} {js : List Nat}
theorem merge_len_aux (φ : Nat → Nat) : ∀ (l : List (Nat × Cell)) (st : Sto), (l.foldl (fun acc p => acc.set p.1 (renC φ p.2)) st).length = st.length
  | [], _ => rfl
  | p :: l, st => by rw [List.foldl_cons, merge_len_aux φ l, List.length_set]
theorem merge_get_aux (φ : Nat → Nat) : ∀ (js : List Nat) (cs : List Cell) (st : Sto), js.Nodup → (∀ j ∈ js, j < st.length) → js.length ≤ cs.length → ∀ i, ((js.zip cs).foldl (fun acc p => acc.set p.1 (renC φ p.2)) st)[i]? = match js.findIdx? (· == i) with
    | some j => (cs[j]?).map (renC φ)
    | none => st[i]?
  | [], cs, st, _, _, _, i => rfl
  | j :: js, [], st, _, _, h, i => by simp at h
  | j :: js, c :: cs, st, hn, hl, hc, i => by
    rw [List.zip_cons_cons, List.foldl_cons]
    rw [merge_get_aux φ js cs _ (List.nodup_cons.mp hn).2 (fun k hk => by rw [List.length_set]; exact hl k (List.mem_cons_of_mem _ hk)) (by simpa using hc) i]
    rw [List.findIdx?_cons]
    by_cases e : j = i
    · subst e
      have hno : js.findIdx? (· == j) = none := by
        rw [List.findIdx?_eq_none_iff]
        intro x hx
        have : x ≠ j := fun z => (List.nodup_cons.mp hn).1 (z ▸ hx)
        simpa using this
      rw [hno]
      simp [hl j List.mem_cons_self]
    · have e2 : (j == i) = false := by simpa using e
      rw [e2]
      cases q : js.findIdx? (· == i) with
      | none => simp [List.getElem?_set_ne e]
      | some k => simp
theorem findIdx_js : ∀ {js : List Nat}, js.Nodup → ∀ {j i : Nat}, js[j]? = some i → js.findIdx? (· == i) = some j
  | [], _, _, _, h => by simp at h
  | x :: js, hn, 0, i, h => by
    simp at h
    subst h
    simp [List.findIdx?_cons]
  | x :: js, hn, j + 1, i, h => by
    simp at h
    have : x ≠ i := fun z => (List.nodup_cons.mp hn).1 (z ▸ List.mem_of_getElem? h)
    have e2 : (x == i) = false := by simpa using this
    rw [List.findIdx?_cons, e2, findIdx_js (List.nodup_cons.mp hn).2 h]
    rfl
theorem findIdx_some {js : List Nat} {i j : Nat} (h : js.findIdx? (· == i) = some j) : js[j]? = some i := by
  rw [List.findIdx?_eq_some_iff_getElem] at h
  obtain ⟨hl, h1, _⟩ := h
  rw [List.getElem?_eq_getElem hl]
  simpa using h1
/-- what the call asks of js -/
structure Pick (js : List Nat) (st : Sto) (st' : Sto) : Prop where
  nd : js.Nodup
  len : js.length = st'.length
  at_ : ∀ (j i : Nat), js[j]? = some i → ∃ c, st'[j]? = some c ∧ st[i]? = some (renC (phi js st.length) c)
theorem pick_of (hn : js.Nodup) (h : js.map (fun j => st[j]?) = st'.map (fun c => some (renC (phi js st.length) c))) : Pick js st st' := by
  have hl : js.length = st'.length := by simpa using congrArg List.length h
  refine ⟨hn, hl, fun j i hj => ?_⟩
  have hlt : j < st'.length := by
    rw [← hl]
    exact (List.getElem?_eq_some_iff.mp hj).1
  refine ⟨st'[j], List.getElem?_eq_getElem hlt, ?_⟩
  have e := congrArg (fun l => l[j]?) h
  simp only [List.getElem?_map, hj, List.getElem?_eq_getElem hlt, Option.map_some, Option.some.injEq] at e
  exact e
theorem Pick.lt (P : Pick js st st') {j : Nat} (h : j ∈ js) : j < st.length := by
  obtain ⟨k, hk⟩ := List.getElem?_of_mem h
  obtain ⟨c, _, h2⟩ := P.at_ k j hk
  exact (List.getElem?_eq_some_iff.mp h2).1
theorem renC_live (φ : Nat → Nat) (c : Cell) : (renC φ c).live = c.live := by cases c <;> rfl
/-- the addresses of the callee's cells -/
def pickA (js : List Nat) (ρ : List Addr) : List Addr := js.map fun j => ρ.getD j 0
theorem pickA_get {j i : Nat} (h : js[j]? = some i) (hi : i < ρ.length) : (pickA js ρ)[j]? = ρ[i]? := by
  unfold pickA
  rw [List.getElem?_map, h, Option.map_some, List.getD_eq_getElem?_getD, List.getElem?_eq_getElem hi]
  rfl
theorem pickA_mem (P : Pick js st st') (hl : ρ.length = st.length) {a : Addr} : a ∈ pickA js ρ ↔ ∃ (j i : Nat), js[j]? = some i ∧ ρ[i]? = some a := by
  constructor
  · intro h
    obtain ⟨j, hj⟩ := List.getElem?_of_mem h
    have hjl : j < js.length := by
      have := (List.getElem?_eq_some_iff.mp hj).1
      simpa [pickA] using this
    have h1 := List.getElem?_eq_getElem hjl
    have h2 := P.lt (List.mem_of_getElem? h1)
    rw [pickA_get h1 (by omega)] at hj
    exact ⟨j, _, h1, hj⟩
  · rintro ⟨j, i, h1, h2⟩
    have h3 := P.lt (List.mem_of_getElem? h1)
    rw [← pickA_get h1 (by omega)] at h2
    exact List.mem_of_getElem? h2
theorem pickA_nd0 (hn : ρ.Nodup) : ∀ {js : List Nat}, js.Nodup → (∀ j ∈ js, j < ρ.length) → (pickA js ρ).Nodup
  | [], _, _ => List.nodup_nil
  | j :: js, hd, hl => by
    show (ρ.getD j 0 :: pickA js ρ).Nodup
    refine List.nodup_cons.mpr ⟨fun h => ?_, pickA_nd0 hn (List.nodup_cons.mp hd).2 fun k hk => hl k (List.mem_cons_of_mem _ hk)⟩
    obtain ⟨k, hk, e⟩ := List.mem_map.mp h
    have h1 := hl j List.mem_cons_self
    have h2 := hl k (List.mem_cons_of_mem _ hk)
    have e1 : ρ[k]? = some (ρ.getD j 0) := by
      rw [← e, List.getD_eq_getElem?_getD, List.getElem?_eq_getElem h2]
      rfl
    have e2 : ρ[j]? = some (ρ.getD j 0) := by
      rw [List.getD_eq_getElem?_getD, List.getElem?_eq_getElem h1]
      rfl
    exact (List.nodup_cons.mp hd).1 (get_inj hn e1 e2 ▸ hk)
theorem pickA_nd (P : Pick js st st') (hl : ρ.length = st.length) (hn : ρ.Nodup) : (pickA js ρ).Nodup := pickA_nd0 hn P.nd fun j hj => by
  have := P.lt hj
  omega
theorem repM_down (P : Pick js st st') (hl : ρ.length = st.length) : ∀ {m : M} {v : V}, repM K F ρ (renM (phi js st.length) m) v → repM K F (pickA js ρ) m v
  | .dat d, v, h => h
  | .ref j, v, ⟨a, h1, h2⟩ => by
    refine ⟨a, ?_, h2⟩
    unfold phi at h1
    cases e : js[j]? with
    | none =>
      rw [e] at h1
      have h2 : st.length + (j - js.length) < ρ.length := (List.getElem?_eq_some_iff.mp h1).1
      omega
    | some i =>
      rw [e] at h1
      rw [pickA_get e (by have := P.lt (List.mem_of_getElem? e); omega)]
      exact h1
theorem repMs_down (P : Pick js st st') (hl : ρ.length = st.length) : ∀ {ms : List M} {vs : List V}, repMs K F ρ (ms.map (renM (phi js st.length))) vs → repMs K F (pickA js ρ) ms vs
  | [], _, h => h
  | m :: ms, _, ⟨v, ws, h1, h2, h3⟩ => ⟨v, ws, h1, repM_down P hl h2, repMs_down P hl h3⟩
theorem repF_down (P : Pick js st st') (hl : ρ.length = st.length) : ∀ {ms : List (Str × M)} {vs : List (Str × V)}, repF K F ρ (ms.map fun p => (p.1, renM (phi js st.length) p.2)) vs → repF K F (pickA js ρ) ms vs
  | [], _, h => h
  | (x, m) :: ms, _, ⟨v, ws, h1, h2, h3⟩ => ⟨v, ws, h1, repM_down P hl h2, repF_down P hl h3⟩
theorem repR_down (P : Pick js st st') (hl : ρ.length = st.length) : ∀ {ms : List (Key × M)} {vs : List (Key × V)}, repR K F ρ (ms.map fun p => (p.1, renM (phi js st.length) p.2)) vs → repR K F (pickA js ρ) ms vs
  | [], _, h => h
  | (x, m) :: ms, _, ⟨v, ws, h1, h2, h3⟩ => ⟨v, ws, h1, repM_down P hl h2, repR_down P hl h3⟩
theorem cell_down (P : Pick js st st') (hl : ρ.length = st.length) {a : Addr} : ∀ {c : Cell}, cellOk K F ρ H a (renC (phi js st.length) c) → cellOk K F (pickA js ρ) H a c
  | .lst _, h => h
  | .lsm _, ⟨vs, h1, h2⟩ => ⟨vs, h1, repMs_down P hl h2⟩
  | .dic _, h => h
  | .dit _, h => h
  | .rcd _, ⟨vs, h1, h2⟩ => ⟨vs, h1, repR_down P hl h2⟩
  | .obj _ _, ⟨dx, vs, h1, h2⟩ => ⟨dx, vs, h1, repF_down P hl h2⟩
  | .frz _, h => h
/-! back up -/
theorem get_up {ρ2 ρ3 : List Addr} (P : Pick js st st') (hl : ρ.length = st.length) (hp : pickA js ρ <+: ρ2) (h3 : ρ3 = ρ ++ ρ2.drop js.length) {j : Nat} {a : Addr} (h : ρ2[j]? = some a) : ρ3[phi js st.length j]? = some a := by
  subst h3
  unfold phi
  cases e : js[j]? with
  | some i =>
    have hi := P.lt (List.mem_of_getElem? e)
    have h2 := pickA_get (ρ := ρ) e (by omega)
    have hpl : j < (pickA js ρ).length := by
      unfold pickA
      rw [List.length_map]
      exact (List.getElem?_eq_some_iff.mp e).1
    have h4 := pre_get hp (List.getElem?_eq_getElem hpl)
    rw [h] at h4
    show (ρ ++ List.drop js.length ρ2)[i]? = some a
    rw [List.getElem?_append_left (by omega), ← h2, List.getElem?_eq_getElem hpl]
    exact h4.symm
  | none =>
    have hj : js.length ≤ j := List.getElem?_eq_none_iff.mp e
    show (ρ ++ List.drop js.length ρ2)[st.length + (j - js.length)]? = some a
    rw [← hl, List.getElem?_append_right (by omega), List.getElem?_drop]
    rw [show js.length + (ρ.length + (j - js.length) - ρ.length) = j by omega]
    exact h
theorem repM_up {ρ2 ρ3 : List Addr} (P : Pick js st st') (hl : ρ.length = st.length) (hp : pickA js ρ <+: ρ2) (h3 : ρ3 = ρ ++ ρ2.drop js.length) : ∀ {m : M} {v : V}, repM K F ρ2 m v → repM K F ρ3 (renM (phi js st.length) m) v
  | .dat d, v, h => h
  | .ref j, v, ⟨a, h1, h2⟩ => ⟨a, get_up P hl hp h3 h1, h2⟩
theorem repMs_up {ρ2 ρ3 : List Addr} (P : Pick js st st') (hl : ρ.length = st.length) (hp : pickA js ρ <+: ρ2) (h3 : ρ3 = ρ ++ ρ2.drop js.length) : ∀ {ms : List M} {vs : List V}, repMs K F ρ2 ms vs → repMs K F ρ3 (ms.map (renM (phi js st.length))) vs
  | [], _, h => h
  | m :: ms, _, ⟨v, ws, h1, h2, h4⟩ => ⟨v, ws, h1, repM_up P hl hp h3 h2, repMs_up P hl hp h3 h4⟩
theorem repF_up {ρ2 ρ3 : List Addr} (P : Pick js st st') (hl : ρ.length = st.length) (hp : pickA js ρ <+: ρ2) (h3 : ρ3 = ρ ++ ρ2.drop js.length) : ∀ {ms : List (Str × M)} {vs : List (Str × V)}, repF K F ρ2 ms vs → repF K F ρ3 (ms.map fun p => (p.1, renM (phi js st.length) p.2)) vs
  | [], _, h => h
  | (x, m) :: ms, _, ⟨v, ws, h1, h2, h4⟩ => ⟨v, ws, h1, repM_up P hl hp h3 h2, repF_up P hl hp h3 h4⟩
theorem repR_up {ρ2 ρ3 : List Addr} (P : Pick js st st') (hl : ρ.length = st.length) (hp : pickA js ρ <+: ρ2) (h3 : ρ3 = ρ ++ ρ2.drop js.length) : ∀ {ms : List (Key × M)} {vs : List (Key × V)}, repR K F ρ2 ms vs → repR K F ρ3 (ms.map fun p => (p.1, renM (phi js st.length) p.2)) vs
  | [], _, h => h
  | (x, m) :: ms, _, ⟨v, ws, h1, h2, h4⟩ => ⟨v, ws, h1, repM_up P hl hp h3 h2, repR_up P hl hp h3 h4⟩
theorem cell_up {ρ2 ρ3 : List Addr} (P : Pick js st st') (hl : ρ.length = st.length) (hp : pickA js ρ <+: ρ2) (h3 : ρ3 = ρ ++ ρ2.drop js.length) {a : Addr} : ∀ {c : Cell}, cellOk K F ρ2 H a c → cellOk K F ρ3 H a (renC (phi js st.length) c)
  | .lst _, h => h
  | .lsm _, ⟨vs, h1, h2⟩ => ⟨vs, h1, repMs_up P hl hp h3 h2⟩
  | .dic _, h => h
  | .dit _, h => h
  | .rcd _, ⟨vs, h1, h2⟩ => ⟨vs, h1, repR_up P hl hp h3 h2⟩
  | .obj _ _, ⟨dx, vs, h1, h2⟩ => ⟨dx, vs, h1, repF_up P hl hp h3 h2⟩
  | .frz _, h => h
theorem merge_len (h : js.length ≤ st''.length) : (merge js st st'').length = st.length + (st''.length - js.length) := by
  unfold merge
  rw [List.length_append, merge_len_aux, List.length_map, List.length_drop]
theorem merge_get (P : Pick js st st') (h : js.length ≤ st''.length) (i : Nat) : (merge js st st'')[i]? = if i < st.length then (match js.findIdx? (· == i) with
    | some j => (st''[j]?).map (renC (phi js st.length))
    | none => st[i]?) else (st''[js.length + (i - st.length)]?).map (renC (phi js st.length)) := by
  unfold merge
  by_cases hi : i < st.length
  · rw [if_pos hi, List.getElem?_append_left (by rw [merge_len_aux]; exact hi)]
    exact merge_get_aux _ js st'' st P.nd (fun j hj => P.lt hj) h i
  · rw [if_neg hi, List.getElem?_append_right (by rw [merge_len_aux]; omega), merge_len_aux, List.getElem?_map, List.getElem?_drop]
/-- the callee's ghost -/
def subG (g : G) (js : List Nat) (ρ : List Addr) (st : Sto) (H : Hp) : G := { Z := g.Z ++ (lives ρ st).filter fun a => decide (a ∉ pickA js ρ), R0 := pickA js ρ, H0 := H, F0 := fr g ρ st H, P0 := pickA js ρ }
theorem sub_mem (R : Core K g ρ H st) (P : Pick js st st') (a : Addr) : a ∈ (subG g js ρ st H).Z ++ lives (pickA js ρ) st' ↔ a ∈ g.Z ++ lives ρ st := by
  have hl := R.len
  simp only [subG, List.mem_append, List.mem_filter, decide_eq_true_eq]
  constructor
  · rintro ((h | ⟨h, _⟩) | h)
    · exact .inl h
    · exact .inr h
    · obtain ⟨j, c, h1, h2, h3⟩ := mem_lives.mp h
      have hj : j < js.length := by
        rw [P.len]
        exact (List.getElem?_eq_some_iff.mp h2).1
      have e := List.getElem?_eq_getElem hj
      obtain ⟨c', q1, q2⟩ := P.at_ j _ e
      rw [h2] at q1
      cases q1
      rw [pickA_get e (by have := P.lt (List.mem_of_getElem? e); omega)] at h1
      exact .inr (mem_lives.mpr ⟨_, _, h1, q2, by rw [renC_live]; exact h3⟩)
  · rintro (h | h)
    · exact .inl (.inl h)
    · by_cases hp : a ∈ pickA js ρ
      · obtain ⟨j, i, h1, h2⟩ := (pickA_mem P hl).mp hp
        obtain ⟨k, c, h3, h4, h5⟩ := mem_lives.mp h
        have : k = i := get_inj R.nd h3 h2
        subst this
        obtain ⟨c', q1, q2⟩ := P.at_ j k h1
        rw [h4] at q2
        cases q2
        rw [renC_live] at h5
        exact .inr (mem_lives.mpr ⟨j, c', by rw [pickA_get h1 (by have := P.lt (List.mem_of_getElem? h1); omega)]; exact h2, q1, h5⟩)
      · exact .inl (.inr ⟨h, hp⟩)
theorem sub_fr (R : Core K g ρ H st) (P : Pick js st st') (H' : Hp) : mask ((subG g js ρ st H).Z ++ lives (pickA js ρ) st') H' = mask (g.Z ++ lives ρ st) H' := mask_congr (sub_mem R P) H'
theorem sub_core (R : Core K g ρ H st) (P : Pick js st st') : Core K (subG g js ρ st H) (pickA js ρ) H st' := by
  have hl := R.len
  have hF : fr (subG g js ρ st H) (pickA js ρ) st' H = fr g ρ st H := sub_fr R P H
  refine ⟨by simp [pickA, P.len], pickA_nd P hl R.nd, fun a h z => ?_, fun a h => ?_, fun j a c h1 h2 => ?_, fun a o h _ => h, fun a h => .inl h, ?_, List.prefix_rfl, fun a h => ?_, fun a h => h⟩
  · obtain ⟨j, i, h1, h2⟩ := (pickA_mem P hl).mp h
    rcases List.mem_append.mp z with z | z
    · exact R.zd a (List.mem_of_getElem? h2) z
    · exact (of_decide_eq_true (List.mem_filter.mp z).2) h
  · rcases List.mem_append.mp h with z | z
    · refine ⟨R.hz z, fun q => ?_⟩
      obtain ⟨j, i, h1, h2⟩ := (pickA_mem P hl).mp q
      exact R.zd a (List.mem_of_getElem? h2) z
    · obtain ⟨i, c, h1, _, _⟩ := mem_lives.mp (List.mem_filter.mp z).1
      exact ⟨R.some_ a (List.mem_of_getElem? h1), of_decide_eq_true (List.mem_filter.mp z).2⟩
  · rw [hF]
    have hj : j < js.length := by
      rw [P.len]
      exact (List.getElem?_eq_some_iff.mp h2).1
    have e := List.getElem?_eq_getElem hj
    obtain ⟨c', q1, q2⟩ := P.at_ j _ e
    rw [h2] at q1
    cases q1
    rw [pickA_get e (by have := P.lt (List.mem_of_getElem? e); omega)] at h1
    exact cell_down P hl (R.cells _ a _ h1 q2)
  · rw [hF]
    exact Ex.refl _
  · obtain ⟨j, i, h1, h2⟩ := (pickA_mem P hl).mp h
    exact R.some_ a (List.mem_of_getElem? h2)
/-- behind the call -/
theorem back_core (R : Core K g ρ H st) (P : Pick js st st') {ρ2 : List Addr} (C : Core K (subG g js ρ st H) ρ2 H' st'') : Core K g (ρ ++ ρ2.drop js.length) H' (merge js st st'') ∧ fr g (ρ ++ ρ2.drop js.length) (merge js st st'') H' = fr (subG g js ρ st H) ρ2 st'' H' := by
  have hl := R.len
  have hp : pickA js ρ <+: ρ2 := C.pre
  have hpl : (pickA js ρ).length = js.length := by simp [pickA]
  have hlen2 : js.length ≤ ρ2.length := by
    obtain ⟨t, rfl⟩ := hp
    rw [List.length_append, hpl]
    omega
  have hst : js.length ≤ st''.length := by rw [← C.len]; exact hlen2
  have memD : ∀ {a : Addr}, a ∈ ρ2.drop js.length → a ∈ ρ2 ∧ H a = none := fun {a} h => by
    have h1 := List.mem_of_mem_drop h
    refine ⟨h1, ?_⟩
    rcases C.new a h1 with q | q
    · obtain ⟨t, rfl⟩ := hp
      rw [← hpl, List.drop_left] at h
      have := List.nodup_append.mp C.nd
      exact absurd rfl (this.2.2 a q a h)
    · exact q
  have hmem : ∀ a, a ∈ g.Z ++ lives (ρ ++ ρ2.drop js.length) (merge js st st'') ↔ a ∈ (subG g js ρ st H).Z ++ lives ρ2 st'' := fun a => by
    simp only [subG, List.mem_append, List.mem_filter, decide_eq_true_eq]
    constructor
    · rintro (h | h)
      · exact .inl (.inl h)
      · obtain ⟨i, c, h1, h2, h3⟩ := mem_lives.mp h
        rw [merge_get P hst] at h2
        by_cases hi : i < st.length
        · rw [if_pos hi] at h2
          rw [List.getElem?_append_left (by omega)] at h1
          cases q : js.findIdx? (· == i) with
          | some j =>
            rw [q] at h2
            obtain ⟨c', q1, rfl⟩ := Option.map_eq_some_iff.mp h2
            rw [renC_live] at h3
            have e := findIdx_some q
            have h4 := pickA_get (ρ := ρ) e (by omega)
            rw [h1] at h4
            exact .inr (mem_lives.mpr ⟨j, c', pre_get hp h4, q1, h3⟩)
          | none =>
            rw [q] at h2
            refine .inl (.inr ⟨mem_lives.mpr ⟨i, c, h1, h2, h3⟩, fun z => ?_⟩)
            obtain ⟨j, k, h5, h6⟩ := (pickA_mem P hl).mp z
            have : i = k := get_inj R.nd h1 h6
            subst this
            rw [findIdx_js P.nd h5] at q
            cases q
        · rw [if_neg hi] at h2
          rw [List.getElem?_append_right (by omega), List.getElem?_drop] at h1
          obtain ⟨c', q1, rfl⟩ := Option.map_eq_some_iff.mp h2
          rw [renC_live] at h3
          rw [hl] at h1
          exact .inr (mem_lives.mpr ⟨_, c', h1, q1, h3⟩)
    · rintro ((h | ⟨h, hno⟩) | h)
      · exact .inl h
      · obtain ⟨i, c, h1, h2, h3⟩ := mem_lives.mp h
        have hi := (List.getElem?_eq_some_iff.mp h2).1
        refine .inr (mem_lives.mpr ⟨i, c, by rw [List.getElem?_append_left (by omega)]; exact h1, ?_, h3⟩)
        rw [merge_get P hst, if_pos hi]
        cases q : js.findIdx? (· == i) with
        | none => exact h2
        | some j => exact absurd ((pickA_mem P hl).mpr ⟨j, i, findIdx_some q, h1⟩) hno
      · obtain ⟨j, c, h1, h2, h3⟩ := mem_lives.mp h
        refine .inr (mem_lives.mpr ⟨phi js st.length j, renC (phi js st.length) c, get_up P hl hp rfl h1, ?_, by rw [renC_live]; exact h3⟩)
        rw [merge_get P hst]
        unfold phi
        cases e : js[j]? with
        | some i =>
          have hi := P.lt (List.mem_of_getElem? e)
          show (if i < st.length then _ else _) = _
          rw [if_pos hi, findIdx_js P.nd e]
          show Option.map _ (st''[j]?) = _
          rw [h2]
          rfl
        | none =>
          have hj : js.length ≤ j := List.getElem?_eq_none_iff.mp e
          show (if st.length + (j - js.length) < st.length then _ else _) = _
          rw [if_neg (by omega), show js.length + (st.length + (j - js.length) - st.length) = j by omega, h2]
          rfl
  have hF : fr g (ρ ++ ρ2.drop js.length) (merge js st st'') H' = fr (subG g js ρ st H) ρ2 st'' H' := mask_congr hmem H'
  have e1 : Ex (fr g ρ st H) (fr g (ρ ++ ρ2.drop js.length) (merge js st st'') H') := by
    rw [hF]
    exact C.ext
  refine ⟨⟨?_, ?_, fun a h => ?_, R.zh, fun i a c h1 h2 => ?_, fun a o h n => ?_, fun a h => ?_, R.ext.trans e1, R.pre.trans (List.prefix_append _ _), fun a h => ?_, fun a h => List.mem_append_left _ (R.r0 a h)⟩, hF⟩
  · rw [List.length_append, List.length_drop, merge_len hst, hl, C.len]
  · refine List.nodup_append.mpr ⟨R.nd, C.nd.sublist (List.drop_sublist _ _), fun a ha b hb e => ?_⟩
    subst e
    exact R.freshP (memD hb).2 ha
  · rcases List.mem_append.mp h with h | h
    · exact R.zd a h
    · exact fun z => C.zd a (memD h).1 (List.mem_append_left _ z)
  · rw [hF]
    by_cases hi : i < st.length
    · rw [merge_get P hst, if_pos hi] at h2
      have h1' := h1
      rw [List.getElem?_append_left (by omega)] at h1'
      cases q : js.findIdx? (· == i) with
      | some j =>
        rw [q] at h2
        obtain ⟨c', q1, rfl⟩ := Option.map_eq_some_iff.mp h2
        have e := findIdx_some q
        have h4 := pickA_get (ρ := ρ) e (by omega)
        rw [h1'] at h4
        exact cell_up P hl hp rfl (C.cells j a c' (pre_get hp h4) q1)
      | none =>
        rw [q] at h2
        have hk := R.cells i a c h1' h2
        refine hk.mono (by rw [← hF]; exact e1) (List.prefix_append _ _) fun _ o ho => C.keep a o ho fun z => ?_
        obtain ⟨j, k, h5, h6⟩ := (pickA_mem P hl).mp z
        have : i = k := get_inj R.nd h1' h6
        subst this
        rw [findIdx_js P.nd h5] at q
        cases q
    · rw [merge_get P hst, if_neg hi] at h2
      rw [List.getElem?_append_right (by omega), List.getElem?_drop, hl] at h1
      obtain ⟨c', q1, rfl⟩ := Option.map_eq_some_iff.mp h2
      exact cell_up P hl hp rfl (C.cells _ a c' h1 q1)
  · by_cases z : a ∈ pickA js ρ
    · obtain ⟨j, k, h5, h6⟩ := (pickA_mem P hl).mp z
      rcases R.new a (List.mem_of_getElem? h6) with q | q
      · exact absurd q n
      · rw [q] at h
        cases h
    · exact C.keep a o (R.keep a o h n) z
  · rcases List.mem_append.mp h with h | h
    · exact R.new a h
    · exact .inr (R.fresh0 (memD h).2)
  · rcases List.mem_append.mp h with h | h
    · by_cases z : a ∈ pickA js ρ
      · exact C.some_ a (hp.subset z)
      · obtain ⟨o, e⟩ := R.some_ a h
        exact ⟨o, C.keep a o e z⟩
    · exact C.some_ a (memD h).1
/-- a call's reading -/
theorem callL_ok {C : Ct} {ms : List M} {vs : List V} {P : M → Sto → Prop} {Q : VK} {E : XK} (R : Rel K g ρ σ H ds st) (rs : repMs K (fr g ρ st H) ρ ms vs) (h : CallL C ms st P)
    (k : ∀ m st' v H' ρ', P m st' → Rel K g ρ' σ H' ds st' → repM K (fr g ρ' st' H') ρ' m v → Q v H') : spC K C vs H Q E := by
  obtain ⟨js, ms', st', hnd, rfl, hjs, hc⟩ := h
  have Pk := pick_of hnd hjs
  have hl := R.len
  have hF : fr (subG g js ρ st H) (pickA js ρ) st' H = fr g ρ st H := sub_fr R.toCore Pk H
  refine ⟨subG g js ρ st H, pickA js ρ, ms', st', _, ⟨sub_core R.toCore Pk, ?_⟩, rfl, rfl, hc, fun m st2 v H2 ρ2 hp C2 r2 => ?_⟩
  · rw [hF]
    have rd := repMs_down Pk hl rs
    refine ⟨by rw [List.length_map, List.length_map]; exact repMs.length rd, fun i m hi => ?_⟩
    rw [List.getElem?_map, Option.map_eq_some_iff] at hi
    obtain ⟨m', h1, h2⟩ := hi
    cases h2
    obtain ⟨v, h3, h4⟩ := repMs.get rd h1
    exact ⟨v, by rw [List.getElem?_map, h3]; rfl, h4⟩
  · obtain ⟨C3, hF3⟩ := back_core R.toCore Pk C2
    refine k _ _ _ _ _ hp ⟨C3, R.slots.mono ?_ (List.prefix_append _ _)⟩ ?_
    · rw [hF3]
      exact C2.ext
    · rw [hF3]
      exact repM_up Pk hl C2.pre rfl r2
theorem callW_ok {C : Ct} {ms : List M} {vs : List V} {P : M → Sto → Prop} {Q : VK} {E : XK} (R : Rel K g ρ σ H ds st) (rs : repMs K (fr g ρ st H) ρ ms vs) (h : CallW C ms st P)
    (k : ∀ m st' v H' ρ', P m st' → Rel K g ρ' σ H' ds st' → repM K (fr g ρ' st' H') ρ' m v → Q v H') : spC K C vs H Q E := by
  refine ⟨{ Z := g.Z, R0 := ρ, H0 := H, F0 := fr g ρ st H, P0 := ρ }, ρ, ms, st, P, ⟨⟨R.len, R.nd, R.zd, fun a h => ⟨R.hz h, fun z => R.zd a z h⟩, R.cells, fun a o h _ => h, fun a h => .inl h, Ex.refl _, List.prefix_rfl, R.some_, fun a h => h⟩, ?_⟩, rfl, rfl, h, fun m st2 v H2 ρ2 hp C2 r2 => ?_⟩
  · refine ⟨by rw [List.length_map, List.length_map]; exact repMs.length rs, fun i m hi => ?_⟩
    rw [List.getElem?_map, Option.map_eq_some_iff] at hi
    obtain ⟨m', h1, h2⟩ := hi
    cases h2
    obtain ⟨v, h3, h4⟩ := repMs.get rs h1
    exact ⟨v, by rw [List.getElem?_map, h3]; rfl, h4⟩
  · refine k _ _ _ _ ρ2 hp ⟨⟨C2.len, C2.nd, C2.zd, R.zh, C2.cells, fun a o h n => ?_, fun a h => ?_, R.ext.trans C2.ext, R.pre.trans C2.pre, C2.some_, fun a h => C2.pre.subset (R.r0 a h)⟩, R.slots.mono C2.ext C2.pre⟩ r2
    · refine C2.keep a o (R.keep a o h n) fun z => ?_
      rcases R.new a z with q | q
      · exact n q
      · rw [q] at h
        cases h
    · rcases C2.new a h with q | q
      · exact R.new a q
      · exact .inr (R.fresh0 q)
theorem callX_ok {l : Bool} {C : Ct} {ms : List M} {vs : List V} {P : M → Sto → Prop} {Q : VK} {E : XK} (R : Rel K g ρ σ H ds st) (rs : repMs K (fr g ρ st H) ρ ms vs) (h : CallX l C ms st P)
    (k : ∀ m st' v H' ρ', P m st' → Rel K g ρ' σ H' ds st' → repM K (fr g ρ' st' H') ρ' m v → Q v H') : spC K C vs H Q E := by
  cases l with
  | true => exact callL_ok R rs h k
  | false => exact callW_ok R rs h k
end
end PP

/-! Mrl7: calls of one's own defs, methods, classes; a def keeps its contract. -/
namespace PP
open PySem PySem.Spec PyProof.Rows L2
/-- a def of the module that may be called: its contract, its defaults -/
structure Cal (P : Program) (w : World) (K : PySem.W.Frag) (mg : Str → Option Value) (base : Heap) (k : Nat) (x : Str) (C : Ct) (dms : List M) : Prop where
  ex : ∃ (f : Addr) (fd : FuncData) (ps : List Str) (dvs : List V) (ds : List Value), FnOk P w K mg base CX0 k f fd ps (spC K C) ∧ mg x = some (.ref f) ∧ PySem.W.keepIn K (.ref f) = true ∧ Binds K fd ps ds ∧ Vals dvs ds ∧ ∀ F ρ, repMs K F ρ dms dvs
/-- .. called with keywords ks -/
structure CalK (P : Program) (w : World) (K : PySem.W.Frag) (mg : Str → Option Value) (base : Heap) (k : Nat) (x : Str) (C : Ct) (n : Nat) (ks : List Str) (gm : List M → List M → List M) : Prop where
  ex : ∃ (f : Addr) (fd : FuncData) (ps : List Str) (g : List Value → List Value → List Value) (gV : List V → List V → List V), FnOk P w K mg base CX0 k f fd ps (spC K C) ∧ mg x = some (.ref f) ∧ PySem.W.keepIn K (.ref f) = true ∧ KBn K fd ps n ks g gV ∧
    ∀ F ρ ms vs zs us, repMs K F ρ ms vs → repMs K F ρ zs us → repMs K F ρ (gm ms zs) (gV vs us)
structure CalM (P : Program) (w : World) (K : PySem.W.Frag) (mg : Str → Option Value) (base : Heap) (k : Nat) (c m : Str) (C : Ct) (dms : List M) : Prop where
  ex : ∃ (f : Addr) (fd : FuncData) (ps : List Str) (dvs : List V) (ds : List Value), FnOk P w K mg base CX0 k f fd ps (spC K C) ∧ Cls K (He.ga K c) ∧ Meth K (He.ga K c) m f ∧ Binds K fd ps ds ∧ Vals dvs ds ∧ ∀ F ρ, repMs K F ρ dms dvs
structure CalMK (P : Program) (w : World) (K : PySem.W.Frag) (mg : Str → Option Value) (base : Heap) (k : Nat) (c m : Str) (C : Ct) (n : Nat) (ks : List Str) (gm : List M → List M → List M) : Prop where
  ex : ∃ (f : Addr) (fd : FuncData) (ps : List Str) (g : List Value → List Value → List Value) (gV : List V → List V → List V), FnOk P w K mg base CX0 k f fd ps (spC K C) ∧ Cls K (He.ga K c) ∧ Meth K (He.ga K c) m f ∧ KBn K fd ps (n + 1) ks g gV ∧
    ∀ F ρ ms vs zs us, repMs K F ρ ms vs → repMs K F ρ zs us → repMs K F ρ (gm ms zs) (gV vs us)
structure CalC (P : Program) (w : World) (K : PySem.W.Frag) (mg : Str → Option Value) (base : Heap) (k : Nat) (c : Str) (C : Ct) (dms : List M) : Prop where
  ex : ∃ (f : Addr) (fd : FuncData) (ps : List Str) (dvs : List V) (ds : List Value), FnOk P w K mg base CX0 k f fd ps (spC K C) ∧ mg c = some (.ref (He.ga K c)) ∧ Mk K (He.ga K c) f ∧ Binds K fd ps ds ∧ Vals dvs ds ∧ ∀ F ρ, repMs K F ρ dms dvs
structure CalCK (P : Program) (w : World) (K : PySem.W.Frag) (mg : Str → Option Value) (base : Heap) (k : Nat) (c : Str) (C : Ct) (n : Nat) (ks : List Str) (gm : List M → List M → List M) : Prop where
  ex : ∃ (f : Addr) (fd : FuncData) (ps : List Str) (g : List Value → List Value → List Value) (gV : List V → List V → List V), FnOk P w K mg base CX0 k f fd ps (spC K C) ∧ mg c = some (.ref (He.ga K c)) ∧ Mk K (He.ga K c) f ∧ KBn K fd ps (n + 1) ks g gV ∧
    ∀ F ρ ms vs zs us, repMs K F ρ ms vs → repMs K F ρ zs us → repMs K F ρ (gm ms zs) (gV vs us)
section
variable {K : PySem.W.Frag} {F : Hp} {ρ : List Addr}
theorem Cx.passes0 {X : Cx} : Passes CX0 X E0 := fun _ _ _ _ _ _ _ h => h.elim
end
section
variable {l : Bool} {X : Cx} {a b c e o : Expr} {es : List Expr} {pos p p2 pos' apos : Pos} {wa wb wc wo : WE} {wr wk : WA} {C : Ct} {dms : List M} {k : Nat} {x m cl : Str} {ks : List Str} {gm : List M → List M → List M} {kws : List Keyword}
theorem call_go {σ : L2.St} {H : Hp} {Q : VK} {dvs : List V} (hd : ∀ F ρ, repMs X.K F ρ dms dvs) (h : lE X.K (wCall l C dms wr) σ H Q) : tCall (spC X.K C) dvs E0 (lA X.K wr) σ H Q := by
  obtain ⟨g, ρ, ds, st, P, R, hw, hq⟩ := h
  refine ⟨g, ρ, ds, st, _, R, hw, fun ms st1 vs H1 ρ1 h1 R1 r1 => ?_⟩
  have r2 := repMs.append r1 (hd (fr g ρ1 st1 H1) ρ1)
  exact callX_ok (E := E0) R1 r2 h1 hq
theorem ae_call (cal : Cal X.prog X.w X.K X.mg X.base k x C dms) (hr : Room k X.A) (hg : Gl X x) (ha : PA X (e :: es) (lA X.K wr)) (hdb : (x == ("__debug__" : Str)) = false := by decide) (he : starEach (e :: es) X.env = (false, eval e X.env) :: starEach es X.env := by rfl)
    (hpl : (backTo pos (starEach es X.env)).any (·.1) = false := by rfl) : PE X (.Call (.Name x p) (e :: es) [] pos) (lE X.K (wCall l C dms wr)) := by
  obtain ⟨f, fd, ps, dvs, ds, F, hm, hk, hb, hd, hd2⟩ := cal.ex
  exact PE.of (pe_call F hr hg hm hk hb hd Cx.passes0 ha hdb he hpl) fun σ H Q h => call_go hd2 h
theorem ae_call0 (cal : Cal X.prog X.w X.K X.mg X.base k x C dms) (hr : Room k X.A) (hg : Gl X x) (hdb : (x == ("__debug__" : Str)) = false := by decide) : PE X (.Call (.Name x p) [] [] pos) (lE X.K (wCall l C dms waNil)) := by
  obtain ⟨f, fd, ps, dvs, ds, F, hm, hk, hb, hd, hd2⟩ := cal.ex
  refine PE.of (pe_call0 F hr hg hm hk hb hd Cx.passes0 hdb) fun σ H Q h => ?_
  obtain ⟨g, ρ, ds, st, P, R, h1, hq⟩ := h
  have r2 := hd2 (fr g ρ st H) ρ
  exact callX_ok (E := E0) R r2 h1 hq
def lK (K : PySem.W.Frag) (w : WA) : TA := lA K w
theorem PK.of {X : Cx} {e : List Keyword} {t t' : TA} (h : PK X e t) (i : ∀ σ H Q, t' σ H Q → t σ H Q) : PK X e t' := ⟨fun pos pins s σ H Q I q => h.run pos pins s σ H Q I (i σ H Q q)⟩
theorem ak_nil : PK X [] (lA X.K waNil) := by
  refine PK.of pk_nil ?_
  rintro σ H Q ⟨g, ρ, ds, st, P, R, hp, hq⟩
  exact hq _ _ _ _ _ hp R rfl
theorem ak_cons {nm : Option Str} {kpos : Pos} (ha : PE X e (lE X.K wa)) (hr : PK X kws (lA X.K wr)) : PK X (⟨nm, e, kpos⟩ :: kws) (lA X.K (waCons wa wr)) := by
  refine PK.of (pk_cons ha hr) ?_
  rintro σ H Q ⟨g, ρ, ds, st, P, R, hw, hq⟩
  refine ⟨g, ρ, ds, st, _, R, hw, fun m st1 v H1 ρ1 h1 R1 r1 => ?_⟩
  refine ⟨_, ρ1, ds, st1, _, R1.now, h1, fun ms st2 vs H2 ρ2 h2 R2 r2 => ?_⟩
  exact hq _ _ _ _ _ h2 (R2.back R1.ext R1.pre) ⟨v, vs, rfl, r1.mono R2.ext R2.pre, r2⟩
theorem ae_callK {n : Nat} (cal : CalK X.prog X.w X.K X.mg X.base k x C n ks gm) (hr : Room k X.A) (hg : Gl X x) (ha : PA X (e :: es) (lA X.K wr)) (hkw : PK X kws (lA X.K wk)) (hall : (backToKw pos (keywordEach kws X.env)).all (·.1.isSome) = true := by rfl) (hks : (backToKw pos (keywordEach kws X.env)).filterMap (·.1) = ks := by rfl)
    (hdb : (x == ("__debug__" : Str)) = false := by decide) (he : starEach (e :: es) X.env = (false, eval e X.env) :: starEach es X.env := by rfl)
    (hpl : ((backTo pos (starEach (e :: es) X.env)).any (·.1) || (backToKw pos (keywordEach kws X.env)).any (·.1.isNone)) = false := by rfl) : PE X (.Call (.Name x p) (e :: es) kws pos) (lE X.K (wCallK l C n ks.length gm wr wk)) := by
  obtain ⟨f, fd, ps, g, gV, F, hm, hk, hb, hd⟩ := cal.ex
  refine PE.of (pe_callN F hr hg hm hk hb Cx.passes0 ha hkw hall hks hdb he hpl) fun σ H Q h => ?_
  obtain ⟨g, ρ, ds, st, P, R, h1, hq⟩ := h
  refine ⟨g, ρ, ds, st, _, R, h1, fun ms st1 vs H1 ρ1 h1 R1 r1 => ?_⟩
  refine ⟨_, ρ1, ds, st1, _, R1.now, h1, fun zs st2 us H2 ρ2 h2 R2 r2 => ?_⟩
  have R2' := R2.back R1.ext R1.pre
  have r3 := hd _ _ _ _ _ _ (r1.mono R2.ext R2.pre) r2
  obtain ⟨l1, l2, h2⟩ := h2
  refine ⟨by rw [← repMs.length (r1.mono R2.ext R2.pre)]; exact l1, by rw [← repMs.length r2]; exact l2, ?_⟩
  exact callX_ok (E := E0) R2' r3 h2 hq
/-! ### methods -/
theorem meth_go {σ : L2.St} {H : Hp} {Q : VK} {dvs : List V} (hd : ∀ F ρ, repMs X.K F ρ dms dvs) (h : lE X.K (wMeth l cl m C dms wo wr) σ H Q) : tMeth (He.ga X.K cl) m (spC X.K C) dvs E0 (lE X.K wo) (lA X.K wr) σ H Q := by
  obtain ⟨g, ρ, ds, st, P, R, hw, hq⟩ := h
  refine ⟨g, ρ, ds, st, _, R, hw, fun y st1 v H1 ρ1 h1 R1 r1 => ?_⟩
  obtain ⟨i, fs, rfl, hi, hl, h1⟩ := h1
  obtain ⟨a', ha', rfl⟩ := ref_of r1
  obtain ⟨dx, vs, h3, h4⟩ := R1.cells i _ _ ha' hi
  have hl2 : vs.lookup m = none := repF.no h4 hl
  refine ⟨a', dx, vs, rfl, h3, hl2, _, ρ1, ds, st1, _, R1.now, h1, fun ms st2 us H2 ρ2 h2 R2 r2 => ?_⟩
  have R2' := R2.back R1.ext R1.pre
  have r3 := repMs.append r2 (hd (fr g ρ2 st2 H2) ρ2)
  have r4 : repMs X.K (fr g ρ2 st2 H2) ρ2 (.ref i :: (ms ++ dms)) (.ref a' :: (us ++ dvs)) := ⟨_, _, rfl, ⟨a', pre_get R2.pre ha', rfl⟩, r3⟩
  exact callX_ok (E := E0) R2' r4 h2 hq
theorem ae_meth {pl : Sem Bool} (cal : CalM X.prog X.w X.K X.mg X.base k cl m C dms) (hr : Room k X.A) (ho : PE X o (lE X.K wo)) (ha : PA X (e :: es) (lA X.K wr)) (hst : starEach (e :: es) X.env = (false, eval e X.env) :: starEach es X.env := by rfl) (hpl : (backTo pos (starEach es X.env)).any (·.1) = false := by rfl)
    (ht : eval (.Call (.Attribute o m apos) (e :: es) [] pos) X.env = (do
      let ov ← eval o X.env
      standAt apos.atName
      let (f, first) ← holding [ov] (getMethod ov m pl)
      callWith pos f first (backTo pos (starEach (e :: es) X.env)) (backToKw pos (keywordEach [] X.env))) := by rfl) : PE X (.Call (.Attribute o m apos) (e :: es) [] pos) (lE X.K (wMeth l cl m C dms wo wr)) := by
  obtain ⟨f, fd, ps, dvs, ds, F, hc, hm, hb, hd, hd2⟩ := cal.ex
  exact PE.of (pe_meth ho hc hm F hr hb hd Cx.passes0 ha hst hpl ht) fun σ H Q h => meth_go hd2 h
theorem ae_meth0 {pl : Sem Bool} (cal : CalM X.prog X.w X.K X.mg X.base k cl m C dms) (hr : Room k X.A) (ho : PE X o (lE X.K wo))
    (ht : eval (.Call (.Attribute o m apos) [] [] pos) X.env = (do
      let ov ← eval o X.env
      standAt apos.atName
      let (f, first) ← holding [ov] (getMethod ov m pl)
      callWith pos f first (backTo pos (starEach [] X.env)) (backToKw pos (keywordEach [] X.env))) := by rfl) : PE X (.Call (.Attribute o m apos) [] [] pos) (lE X.K (wMeth l cl m C dms wo waNil)) := by
  obtain ⟨f, fd, ps, dvs, ds, F, hc, hm, hb, hd, hd2⟩ := cal.ex
  refine PE.of (pe_meth0 ho hc hm F hr hb hd Cx.passes0 ht) fun σ H Q h => ?_
  have h2 : tMeth (He.ga X.K cl) m (spC X.K C) dvs E0 (lE X.K wo) (lA X.K waNil) σ H Q := meth_go hd2 h
  obtain ⟨g, ρ, ds, st, P, R, hw, hq⟩ := h2
  refine ⟨g, ρ, ds, st, P, R, hw, fun y st1 v H1 ρ1 h1 R1 r1 => ?_⟩
  obtain ⟨a, dx, fs, e1, e2, e3, g2, ρ2, ds2, st2, P2, R2, hp2, hq2⟩ := hq y st1 v H1 ρ1 h1 R1 r1
  exact ⟨a, dx, fs, e1, e2, e3, hq2 [] _ [] _ _ hp2 R2 rfl⟩
/-- o.m(k = v, ..) -/
def tMethK (C : Addr) (m : Str) (l : Nat) (sp : Sp) (gV : List V → List V → List V) (E : XK) (ta : TE) (tk : TA) : TE := fun σ H Q => ta σ H fun x H1 => ∃ a dx fs, x = .ref a ∧ H1 a = some (.ins C dx fs) ∧ fs.lookup m = none ∧
  tk σ H1 fun zs H2 => zs.length = l ∧ sp (gV [x] zs) H2 Q E
theorem pe_methK0 {C : Addr} {f : Addr} {fd : FuncData} {ps : List Str} {sp : Sp} {E : XK} {ta tk : TE} {tkw : TA} {g : List Value → List Value → List Value} {gV : List V → List V → List V} {pl : Sem Bool} (he : PE X o ta) (c : Cls X.K C) (hm : Meth X.K C m f) (F : FnOk X.prog X.w X.K X.mg X.base CX0 k f fd ps sp) (hr : Room k X.A) (hb : KBn X.K fd ps 1 ks g gV)
    (hkw : PK X kws tkw) (hall : (backToKw pos (keywordEach kws X.env)).all (·.1.isSome) = true := by rfl) (hks : (backToKw pos (keywordEach kws X.env)).filterMap (·.1) = ks := by rfl) (hpl : ((backTo pos (starEach [] X.env)).any (·.1) || (backToKw pos (keywordEach kws X.env)).any (·.1.isNone)) = false := by rfl)
    (ht : eval (.Call (.Attribute o m apos) [] kws pos) X.env = (do
      let ov ← eval o X.env
      standAt apos.atName
      let (f, first) ← holding [ov] (getMethod ov m pl)
      callWith pos f first (backTo pos (starEach [] X.env)) (backToKw pos (keywordEach kws X.env))) := by rfl) : PE X (.Call (.Attribute o m apos) [] kws pos) (tMethK C m ks.length sp gV E0 ta tkw) := by
  refine ⟨fun pins s σ H Q I h => ?_⟩
  refine PySem.W.methodCall_KW (pl := pl) (thn (he.run pins s σ H _ I h) fun u s1 ⟨x, H1, I1, rx, a, dx, fs, ex, ea, l, q⟩ => ?_) ht
  subst ex
  obtain rfl : u = Value.ref a := rx
  refine getmeth_ok I1 ea c hm l ?_
  refine PySem.W.callWith_KW0 (first := [.ref a]) (h₀ := X.base) I1.ok.mod.kin hm.kp hall (thn (hkw.run pos pins s1 σ H1 _ I1 q) fun ws s2 ⟨zs, H2, I2, rz, l2, q2⟩ => ⟨I2.kIn, ?_⟩) hpl
  rw [hks]
  exact run_fnN (us := [.ref a]) (vs := [.ref a]) F hr hb Cx.passes0 I2 (.cons rfl .nil) rz rfl l2 q2
theorem ae_methK {pl : Sem Bool} (cal : CalMK X.prog X.w X.K X.mg X.base k cl m C 0 ks gm) (hr : Room k X.A) (ho : PE X o (lE X.K wo)) (hkw : PK X kws (lA X.K wk)) (hall : (backToKw pos (keywordEach kws X.env)).all (·.1.isSome) = true := by rfl) (hks : (backToKw pos (keywordEach kws X.env)).filterMap (·.1) = ks := by rfl)
    (hpl : ((backTo pos (starEach [] X.env)).any (·.1) || (backToKw pos (keywordEach kws X.env)).any (·.1.isNone)) = false := by rfl)
    (ht : eval (.Call (.Attribute o m apos) [] kws pos) X.env = (do
      let ov ← eval o X.env
      standAt apos.atName
      let (f, first) ← holding [ov] (getMethod ov m pl)
      callWith pos f first (backTo pos (starEach [] X.env)) (backToKw pos (keywordEach kws X.env))) := by rfl) : PE X (.Call (.Attribute o m apos) [] kws pos) (lE X.K (wMethK l cl m C 0 ks.length gm wo waNil wk)) := by
  obtain ⟨f, fd, ps, g, gV, F, hc, hm, hb, hd⟩ := cal.ex
  refine PE.of (pe_methK0 (tk := lE X.K wo) (E := E0) ho hc hm F hr hb hkw hall hks hpl ht) fun σ H Q h => ?_
  obtain ⟨g, ρ, ds, st, P, R, hw, hq⟩ := h
  refine ⟨g, ρ, ds, st, _, R, hw, fun y st1 v H1 ρ1 h1 R1 r1 => ?_⟩
  obtain ⟨i, fs, rfl, hi, hl, h1⟩ := h1
  obtain ⟨a', ha', rfl⟩ := ref_of r1
  obtain ⟨dx, vs, h3, h4⟩ := R1.cells i _ _ ha' hi
  have hl2 : vs.lookup m = none := repF.no h4 hl
  refine ⟨a', dx, vs, rfl, h3, hl2, _, ρ1, ds, st1, _, R1.now, h1, fun zs st2 us H2 ρ2 h2 R2 r2 => ?_⟩
  have R2' := R2.back R1.ext R1.pre
  have r3 := hd _ _ [.ref i] [.ref a'] _ _ ⟨_, _, rfl, ⟨a', pre_get R2.pre ha', rfl⟩, rfl⟩ r2
  obtain ⟨_, l2, h2⟩ := h2
  refine ⟨by rw [← repMs.length r2]; exact l2, ?_⟩
  exact callX_ok (E := E0) R2' r3 h2 hq
/-! ### new instances -/
theorem made {g : G} {ρ : List Addr} {σ : L2.St} {H : Hp} {ds : Sl} {st : Sto} (R : Rel X.K g ρ σ H ds st) {x dx : Addr} (hx : H x = none) (hdx : H dx = none) (ne : dx ≠ x) :
    Rel X.K g (ρ ++ [x]) σ (upd (upd H dx (.own x)) x (.ins (He.ga X.K cl) dx [])) ds (st ++ [.obj cl []]) ∧ Ex (fr g ρ st H) (fr g (ρ ++ [x]) (st ++ [.obj cl []]) (upd (upd H dx (.own x)) x (.ins (He.ga X.K cl) dx []))) := by
  have R1 := R.grow (Ex.new (o := .own x) hdx)
  have hx1 : upd H dx (.own x) x = none := by rw [upd_ne (Ne.symm ne)]; exact hx
  obtain ⟨R2, e2⟩ := R1.alloc (o := .ins (He.ga X.K cl) dx []) (c := .obj cl []) hx1 rfl fun F' ρ' _ _ => ⟨dx, [], upd_same, rfl⟩
  exact ⟨⟨R2, R1.slots.mono e2 (List.prefix_append _ _)⟩, (fr_ex (Ex.new hdx)).trans e2⟩
theorem make_go {σ : L2.St} {H : Hp} {Q : VK} {dvs : List V} (hd : ∀ F ρ, repMs X.K F ρ dms dvs) (h : lE X.K (wMake l cl C dms wr) σ H Q) : tMake (He.ga X.K cl) (spC X.K C) dvs E0 (lA X.K wr) σ H Q := by
  obtain ⟨g, ρ, ds, st, P, R, hw, hq⟩ := h
  refine ⟨g, ρ, ds, st, _, R, hw, fun ms st1 vs H1 ρ1 h1 R1 r1 => fun x dx hx hdx ne => ?_⟩
  obtain ⟨R2, e2⟩ := made (cl := cl) R1 hx hdx ne
  have hat : (ρ1 ++ [x])[st1.length]? = some x := by rw [← R1.len]; simp
  have r2 : repMs X.K (fr g (ρ1 ++ [x]) (st1 ++ [.obj cl []]) _) (ρ1 ++ [x]) (.ref st1.length :: (ms ++ dms)) (.ref x :: (vs ++ dvs)) := ⟨_, _, rfl, ⟨x, hat, rfl⟩, repMs.append (r1.mono e2 (List.prefix_append _ _)) (hd _ _)⟩
  have kk : ∀ m st' v H' ρ', (m = M.dat .non ∧ P (.ref st1.length) st') → Rel X.K (g.now (fr g (ρ1 ++ [x]) (st1 ++ [.obj cl []]) (upd (upd H1 dx (.own x)) x (.ins (He.ga X.K cl) dx []))) (ρ1 ++ [x])) ρ' σ H' ds st' → repM X.K (fr g ρ' st' H') ρ' m v → v = .non ∧ Q (.ref x) H' := by
    rintro m st' v H' ρ' ⟨rfl, hp⟩ R' r'
    exact ⟨r', hq _ _ _ _ ρ' hp (R'.back R2.ext R2.pre) ⟨x, pre_get R'.pre hat, rfl⟩⟩
  exact callX_ok (E := E0) R2.now r2 h1 kk
theorem ae_make (cal : CalC X.prog X.w X.K X.mg X.base k cl C dms) (hr : Room (k + 1) X.A) (hg : Gl X cl) (ha : PA X (e :: es) (lA X.K wr)) (hdb : (cl == ("__debug__" : Str)) = false := by decide) (he : starEach (e :: es) X.env = (false, eval e X.env) :: starEach es X.env := by rfl)
    (hpl : (backTo pos (starEach es X.env)).any (·.1) = false := by rfl) : PE X (.Call (.Name cl p) (e :: es) [] pos) (lE X.K (wMake l cl C dms wr)) := by
  obtain ⟨f, fd, ps, dvs, ds, F, hm, hk, hb, hd, hd2⟩ := cal.ex
  exact PE.of (pe_make hk F hr hg hm hb hd Cx.passes0 ha hdb he hpl) fun σ H Q h => make_go hd2 h
theorem ae_make0 (cal : CalC X.prog X.w X.K X.mg X.base k cl C dms) (hr : Room (k + 1) X.A) (hg : Gl X cl) (hdb : (cl == ("__debug__" : Str)) = false := by decide) : PE X (.Call (.Name cl p) [] [] pos) (lE X.K (wMake l cl C dms waNil)) := by
  obtain ⟨f, fd, ps, dvs, ds, F, hm, hk, hb, hd, hd2⟩ := cal.ex
  refine PE.of (pe_make0 hk F hr hg hm hb hd Cx.passes0 hdb) fun σ H Q h => ?_
  have h2 : tMake (He.ga X.K cl) (spC X.K C) dvs E0 (lA X.K waNil) σ H Q := make_go hd2 h
  obtain ⟨g, ρ, ds, st, P, R, hp, hq⟩ := h2
  exact hq [] _ [] _ _ hp R rfl
theorem ae_makeK0 (cal : CalCK X.prog X.w X.K X.mg X.base k cl C 0 ks gm) (hr : Room (k + 1) X.A) (hg : Gl X cl) (hkw : PK X kws (lA X.K wk)) (hall : (backToKw pos (keywordEach kws X.env)).all (·.1.isSome) = true := by rfl) (hks : (backToKw pos (keywordEach kws X.env)).filterMap (·.1) = ks := by rfl) (hdb : (cl == ("__debug__" : Str)) = false := by decide)
    (hpl : ((backTo pos (starEach [] X.env)).any (·.1) || (backToKw pos (keywordEach kws X.env)).any (·.1.isNone)) = false := by rfl) : PE X (.Call (.Name cl p) [] kws pos) (lE X.K (wMakeK l cl C 0 ks.length gm waNil wk)) := by
  obtain ⟨f, fd, ps, g, gV, F, hm, hk, hb, hd⟩ := cal.ex
  refine PE.of (pe_makeK0 (CX := CX0) (E := E0) hk F hr hg hm hb Cx.passes0 hkw hall hks hdb hpl) fun σ H Q h => ?_
  obtain ⟨g, ρ, ds, st, P, R, hw, hq⟩ := h
  refine ⟨g, ρ, ds, st, _, R, hw, fun zs st1 vs H1 ρ1 h1 R1 r1 => ?_⟩
  obtain ⟨hl1, hl2, h1⟩ := h1
  refine ⟨rfl, by rw [← repMs.length r1]; exact hl2, fun x dx hx hdx ne => ?_⟩
  obtain ⟨R2, e2⟩ := made (cl := cl) R1 hx hdx ne
  have hat : (ρ1 ++ [x])[st1.length]? = some x := by rw [← R1.len]; simp
  have r2 := hd (fr g (ρ1 ++ [x]) (st1 ++ [.obj cl []]) (upd (upd H1 dx (.own x)) x (.ins (He.ga X.K cl) dx []))) (ρ1 ++ [x]) [.ref st1.length] [.ref x] zs vs ⟨_, _, rfl, ⟨x, hat, rfl⟩, rfl⟩ (r1.mono e2 (List.prefix_append _ _))
  have kk : ∀ m st' v H' ρ', (m = M.dat .non ∧ P (.ref st1.length) st') → Rel X.K (g.now (fr g (ρ1 ++ [x]) (st1 ++ [.obj cl []]) (upd (upd H1 dx (.own x)) x (.ins (He.ga X.K cl) dx []))) (ρ1 ++ [x])) ρ' σ H' ds st' → repM X.K (fr g ρ' st' H') ρ' m v → v = .non ∧ Q (.ref x) H' := by
    rintro m st' v H' ρ' ⟨rfl, hp⟩ R' r'
    exact ⟨r', hq _ _ _ _ ρ' hp (R'.back R2.ext R2.pre) ⟨x, pre_get R'.pre hat, rfl⟩⟩
  exact callX_ok (E := E0) R2.now r2 h1 kk
/-- a call of what a local holds -/
theorem ae_callV (i : Nat) {S : Str → Option Ct} (A : ∀ y C, S y = some C → Held X.prog X.w X.K X.mg X.base k (He.ga X.K y) (spC X.K C)) (hr : Room k X.A) (ha : PA X (e :: es) (lA X.K wr)) (hN : X.N[i]? = some x := by rfl)
    (hv : Vis X.env.scope x := by first | exact Or.inl rfl | exact Or.inr (Or.inl rfl) | exact Or.inr (Or.inr rfl)) (hdb : (x == ("__debug__" : Str)) = false := by decide) (hcd : (x == ("__classdict__" : Str)) = false := by decide)
    (he : starEach (e :: es) X.env = (false, eval e X.env) :: starEach es X.env := by rfl) (hpl : (backTo pos (starEach es X.env)).any (·.1) = false := by rfl) : PE X (.Call (.Name x p) (e :: es) [] pos) (lE X.K (wCallV l i S wr)) := by
  refine ⟨fun pins s σ H Q I h => ?_⟩
  obtain ⟨g, ρ, ds, st, P, R, ⟨y, C, hy, hS, hw⟩, hq⟩ := h
  obtain ⟨v, hv1, rv⟩ := R.slots.2 i _ hy
  have ev : v = .ref (He.ga X.K y) := rv
  subst ev
  obtain ⟨fd, ps, F, hk, hb⟩ := (A y C hS).ex
  refine (pe_callL (i := i) (f := He.ga X.K y) (sp := spC X.K C) (dvs := []) (E := E0) F hr hN hv hk hb .nil Cx.passes0 ha hdb hcd he hpl).run pins s σ H Q I ⟨hv1, g, ρ, ds, st, _, R, hw, fun ms st1 vs H1 ρ1 h1 R1 r1 => ?_⟩
  show spC X.K C (vs ++ []) H1 Q E0
  rw [List.append_nil]
  exact callX_ok (E := E0) R1 r1 h1 hq
end
/-! ### a def keeps its contract -/
section
variable {P : Program} {w0 : World} {K : PySem.W.Frag} {mg : Str → Option Value} {base : Heap} {x qual : Str} {params : Arguments} {body : List Stmt} {scope : Scope} {dvs : List V} {kws : List (Str × V)} {f : Addr} {fd : FuncData} {N ps : List Str} {k : Nat}
theorem fn_okC (F : FunD K x qual params body scope dvs kws f fd) (S : FnScope N ps scope) {C : Ct} {w : WS}
    (hbody : ∀ (cdv : Value) (A : Around) (outer : List Env) (s : Shared) (H : Hp) (E : XK), Room k (A.deeper (envOfC qual scope s.heap.objs.size f cdv)) → PSs (cxOf CX0 P w0 K mg base N qual scope f cdv A outer s H E).nox body (lS K w))
    (hpure : ∀ ms st Po, C ms st Po → ms.length = ps.length ∧ w { nx := fun _ st => Po (.dat .non) st, rt := Po } (ms.map some ++ List.replicate (N.length - ms.length) none) st) : FnOk P w0 K mg base CX0 (k + 1) f fd ps (spC K C) := by
  have hl : ∀ vs H Q E, spC K C vs H Q E → vs.length = ps.length := by
    rintro vs H Q E ⟨g, ρ, ms, st, Po, R, _, _, hC, _⟩
    have := R.slots.1
    rw [List.length_map, List.length_map] at this
    rw [← this]
    exact (hpure ms st Po hC).1
  refine F.ok S hl fun cdv A outer s H vs Q E hr h => ⟨lS K w, (hbody cdv A outer s H E hr).nox, ?_⟩
  obtain ⟨g, ρ, ms, st, Po, R, _, _, hC, hq⟩ := h
  have hlen := R.slots.1
  rw [List.length_map, List.length_map] at hlen
  refine ⟨g, ρ, _, st, _, ⟨R.toCore, ?_, fun i m hi => ?_⟩, (hpure ms st Po hC).2, fun ds' st' σ' H' ρ' q R' => hq _ _ _ _ ρ' q R'.toCore rfl, fun _ _ _ _ _ q _ => q.elim, fun _ _ _ _ _ q _ => q.elim, fun m st' v H' ρ' q C' r' => hq _ _ _ _ ρ' q C' r'⟩
  · unfold L2.start
    simp [hlen]
  · unfold L2.start
    by_cases hlt : i < ms.length
    · rw [List.getElem?_append_left (by simpa using hlt)] at hi
      obtain ⟨v, h1, h2⟩ := R.slots.2 i m hi
      exact ⟨v, by rw [List.getElem?_append_left (by simp; omega)]; exact h1, h2⟩
    · rw [List.getElem?_append_right (by simp; omega), List.getElem?_replicate] at hi
      split at hi <;> cases hi
end
end PP

/-! Mrl8: dicts. -/
namespace PP
open PySem PySem.Spec PyProof.Rows L2
section
variable {K : PySem.W.Frag} {F F' : Hp} {g : G} {ρ : List Addr} {H : Hp} {st : Sto}
/-! ### pairs -/
theorem getP_val {κ : Type} [DecidableEq κ] (kvs : List (κ × V)) (k : κ) : getP kvs k = valV kvs k := rfl
theorem putP_val {κ : Type} [DecidableEq κ] (kvs : List (κ × V)) (k : κ) (v : V) : putP kvs k v = putK kvs k v := rfl
theorem getP_cons {κ α : Type} [DecidableEq κ] (p : κ × α) (r : List (κ × α)) (k : κ) : getP (p :: r) k = if p.1 = k then some p.2 else getP r k := by
  unfold getP
  rw [List.find?_cons]
  by_cases e : p.1 = k
  · simp [e]
  · simp [e]
def RelOD (K : PySem.W.Frag) (F : Hp) : Option D → Option V → Prop
  | some d, some v => rep K F d v
  | none, none => True
  | _, _ => False
theorem repK.get : ∀ {kvs : List (Key × D)} {vs : List (Key × V)} (k : Key), repK K F kvs vs → RelOD K F (getP kvs k) (valV vs k)
  | [], _, k, h => by
    rw [show _ = [] from h]
    exact trivial
  | (j, d) :: r, _, k, ⟨v, ws, h1, h2, h3⟩ => by
    subst h1
    rw [← getP_val, getP_cons, getP_cons]
    by_cases e : j = k
    · rw [if_pos e, if_pos e]
      exact h2
    · rw [if_neg e, if_neg e]
      exact repK.get k h3
theorem repT.get : ∀ {kvs : List (List Key × D)} {vs : List (List Key × V)} (k : List Key), repT K F kvs vs → RelOD K F (getP kvs k) (valV vs k)
  | [], _, k, h => by
    rw [show _ = [] from h]
    exact trivial
  | (j, d) :: r, _, k, ⟨v, ws, h1, h2, h3⟩ => by
    subst h1
    rw [← getP_val, getP_cons, getP_cons]
    by_cases e : j = k
    · rw [if_pos e, if_pos e]
      exact h2
    · rw [if_neg e, if_neg e]
      exact repT.get k h3
theorem repK.length : ∀ {kvs : List (Key × D)} {vs : List (Key × V)}, repK K F kvs vs → kvs.length = vs.length
  | [], _, h => by rw [show _ = [] from h]; rfl
  | _ :: _, _, ⟨_, _, h1, _, h3⟩ => by rw [h1, List.length_cons, List.length_cons, repK.length h3]
theorem repT.length : ∀ {kvs : List (List Key × D)} {vs : List (List Key × V)}, repT K F kvs vs → kvs.length = vs.length
  | [], _, h => by rw [show _ = [] from h]; rfl
  | _ :: _, _, ⟨_, _, h1, _, h3⟩ => by rw [h1, List.length_cons, List.length_cons, repT.length h3]
theorem repK.any (k : Key) : ∀ {kvs : List (Key × D)} {vs : List (Key × V)}, repK K F kvs vs → (kvs.any fun kv => decide (kv.1 = k)) = (vs.any fun kv => decide (kv.1 = k))
  | [], _, h => by rw [show _ = [] from h]; rfl
  | _ :: _, _, ⟨_, _, h1, _, h3⟩ => by rw [h1, List.any_cons, List.any_cons, repK.any k h3]
theorem repT.any (k : List Key) : ∀ {kvs : List (List Key × D)} {vs : List (List Key × V)}, repT K F kvs vs → (kvs.any fun kv => decide (kv.1 = k)) = (vs.any fun kv => decide (kv.1 = k))
  | [], _, h => by rw [show _ = [] from h]; rfl
  | _ :: _, _, ⟨_, _, h1, _, h3⟩ => by rw [h1, List.any_cons, List.any_cons, repT.any k h3]
theorem repK.map {d : D} {v : V} (r : rep K F d v) (k : Key) : ∀ {kvs : List (Key × D)} {vs : List (Key × V)}, repK K F kvs vs → repK K F (kvs.map fun kv => if kv.1 = k then (kv.1, d) else kv) (vs.map fun kv => if kv.1 = k then (kv.1, v) else kv)
  | [], _, h => by rw [show _ = [] from h]; exact rfl
  | (j, e) :: _, _, ⟨u, _, h1, h2, h3⟩ => by
    subst h1
    rw [List.map_cons, List.map_cons]
    by_cases q : j = k
    · simp only [q, if_true]
      exact ⟨_, _, rfl, r, repK.map r k h3⟩
    · simp only [q, if_false]
      exact ⟨_, _, rfl, h2, repK.map r k h3⟩
theorem repT.map {d : D} {v : V} (r : rep K F d v) (k : List Key) : ∀ {kvs : List (List Key × D)} {vs : List (List Key × V)}, repT K F kvs vs → repT K F (kvs.map fun kv => if kv.1 = k then (kv.1, d) else kv) (vs.map fun kv => if kv.1 = k then (kv.1, v) else kv)
  | [], _, h => by rw [show _ = [] from h]; exact rfl
  | (j, e) :: _, _, ⟨u, _, h1, h2, h3⟩ => by
    subst h1
    rw [List.map_cons, List.map_cons]
    by_cases q : j = k
    · simp only [q, if_true]
      exact ⟨_, _, rfl, r, repT.map r k h3⟩
    · simp only [q, if_false]
      exact ⟨_, _, rfl, h2, repT.map r k h3⟩
theorem repK.snoc {d : D} {v : V} (r : rep K F d v) (k : Key) : ∀ {kvs : List (Key × D)} {vs : List (Key × V)}, repK K F kvs vs → repK K F (kvs ++ [(k, d)]) (vs ++ [(k, v)])
  | [], _, h => by rw [show _ = [] from h]; exact ⟨_, _, rfl, r, rfl⟩
  | (j, e) :: _, _, ⟨u, _, h1, h2, h3⟩ => by
    subst h1
    exact ⟨_, _, rfl, h2, repK.snoc r k h3⟩
theorem repT.snoc {d : D} {v : V} (r : rep K F d v) (k : List Key) : ∀ {kvs : List (List Key × D)} {vs : List (List Key × V)}, repT K F kvs vs → repT K F (kvs ++ [(k, d)]) (vs ++ [(k, v)])
  | [], _, h => by rw [show _ = [] from h]; exact ⟨_, _, rfl, r, rfl⟩
  | (j, e) :: _, _, ⟨u, _, h1, h2, h3⟩ => by
    subst h1
    exact ⟨_, _, rfl, h2, repT.snoc r k h3⟩
theorem repK.put {d : D} {v : V} (r : rep K F d v) (k : Key) {kvs : List (Key × D)} {vs : List (Key × V)} (h : repK K F kvs vs) : repK K F (putP kvs k d) (putK vs k v) := by
  unfold putP putK
  rw [repK.any k h]
  split
  · exact repK.map r k h
  · exact repK.snoc r k h
theorem repT.put {d : D} {v : V} (r : rep K F d v) (k : List Key) {kvs : List (List Key × D)} {vs : List (List Key × V)} (h : repT K F kvs vs) : repT K F (putP kvs k d) (putK vs k v) := by
  unfold putP putK
  rw [repT.any k h]
  split
  · exact repT.map r k h
  · exact repT.snoc r k h
theorem dkey_ok {d : D} {k : Key} {v : V} (h : dkey d = some k) (r : rep K F d v) : v = kV k := by
  cases d with
  | int i => cases h; exact r
  | str x => cases h; exact r
  | _ => cases h
theorem dkeys_ok : ∀ {ds : List D} {ks : List Key} {vs : List V}, dkeys ds = some ks → reps K F ds vs → vs = ks.map kV
  | [], ks, _, h, r => by
    cases h
    exact r
  | d :: ds, ks, _, h, ⟨v, ws, h1, h2, h3⟩ => by
    subst h1
    simp only [dkeys] at h
    cases e1 : dkey d with
    | none => rw [e1] at h; cases h
    | some k =>
      cases e2 : dkeys ds with
      | none => rw [e1, e2] at h; cases h
      | some ks' =>
        rw [e1, e2] at h
        cases h
        rw [dkey_ok e1 h2, dkeys_ok e2 h3]
        rfl
theorem tkey_ok {d : D} {k : List Key} {v : V} (h : tkey d = some k) (r : rep K F d v) : ∃ b, v = .ref b ∧ F b = some (.tup (k.map kV)) := by
  cases d with
  | tup ds =>
    obtain ⟨b, vs, h1, h2, h3⟩ := (show ∃ a vs, v = .ref a ∧ F a = some (.tup vs) ∧ reps K F ds vs from r)
    rw [dkeys_ok h h3] at h2
    exact ⟨b, h1, h2⟩
  | _ => cases h
/-! ### dicts as values -/
theorem Core.dicOf (R : Core K g ρ H st) {m : M} {v : V} {es : List (Key × D)} (r : repM K (fr g ρ st H) ρ m v) (h : PP.dicOf st m = some es) : ∃ a ks, v = .ref a ∧ Rd H a (.dK ks) ∧ repK K (fr g ρ st H) es ks := by
  cases m with
  | dat d =>
    cases d with
    | dic xs =>
      cases h
      obtain ⟨a, ks, h1, h2, h3⟩ := (show ∃ a ks, v = .ref a ∧ Rd (fr g ρ st H) a (.dK ks) ∧ repK K (fr g ρ st H) es ks from r)
      exact ⟨a, ks, h1, R.le'.rd h2, h3⟩
    | _ => cases h
  | ref i =>
    obtain ⟨a, ha, rfl⟩ := (show ∃ a, ρ[i]? = some a ∧ v = .ref a from r)
    cases e : st[i]? with
    | none => simp only [PP.dicOf, e] at h; cases h
    | some c =>
      have hc := R.cells i a c ha e
      cases c with
      | dic xs =>
        simp only [PP.dicOf, e] at h
        cases h
        obtain ⟨ks, h1, h2⟩ := hc
        exact ⟨a, ks, rfl, .inl h1, h2⟩
      | frz d =>
        cases d with
        | dic xs =>
          simp only [PP.dicOf, e] at h
          cases h
          obtain ⟨a', ks, h1, h2, h3⟩ := (show ∃ a' ks, V.ref a = .ref a' ∧ Rd (fr g ρ st H) a' (.dK ks) ∧ repK K (fr g ρ st H) es ks from hc)
          exact ⟨a', ks, h1, R.le'.rd h2, h3⟩
        | _ => simp only [PP.dicOf, e] at h; cases h
      | _ => simp only [PP.dicOf, e] at h; cases h
theorem Core.ditOf (R : Core K g ρ H st) {m : M} {v : V} {es : List (List Key × D)} (r : repM K (fr g ρ st H) ρ m v) (h : PP.ditOf st m = some es) : ∃ a ks, v = .ref a ∧ Rd H a (.dT ks) ∧ repT K (fr g ρ st H) es ks := by
  cases m with
  | dat d =>
    cases d with
    | dit xs =>
      cases h
      obtain ⟨a, ks, h1, h2, h3⟩ := (show ∃ a ks, v = .ref a ∧ Rd (fr g ρ st H) a (.dT ks) ∧ repT K (fr g ρ st H) es ks from r)
      exact ⟨a, ks, h1, R.le'.rd h2, h3⟩
    | _ => cases h
  | ref i =>
    obtain ⟨a, ha, rfl⟩ := (show ∃ a, ρ[i]? = some a ∧ v = .ref a from r)
    cases e : st[i]? with
    | none => simp only [PP.ditOf, e] at h; cases h
    | some c =>
      have hc := R.cells i a c ha e
      cases c with
      | dit xs =>
        simp only [PP.ditOf, e] at h
        cases h
        obtain ⟨ks, h1, h2⟩ := hc
        exact ⟨a, ks, rfl, .inl h1, h2⟩
      | frz d =>
        cases d with
        | dit xs =>
          simp only [PP.ditOf, e] at h
          cases h
          obtain ⟨a', ks, h1, h2, h3⟩ := (show ∃ a' ks, V.ref a = .ref a' ∧ Rd (fr g ρ st H) a' (.dT ks) ∧ repT K (fr g ρ st H) es ks from hc)
          exact ⟨a', ks, h1, R.le'.rd h2, h3⟩
        | _ => simp only [PP.ditOf, e] at h; cases h
      | _ => simp only [PP.ditOf, e] at h; cases h
theorem Core.getD (R : Core K g ρ H st) {x y : M} {vx vy : V} {o : Option D} (rx : repM K (fr g ρ st H) ρ x vx) (ry : repM K (fr g ρ st H) ρ y vy) (h : getD? st x y = some o) : ∃ a ov, vx = .ref a ∧ DGet H a vy ov ∧ RelOD K (fr g ρ st H) o ov := by
  unfold getD? at h
  cases e : PP.dicOf st x with
  | some kvs =>
    rw [e] at h
    obtain ⟨a, ks, rfl, h1, h2⟩ := R.dicOf rx e
    cases y with
    | ref i => cases h
    | dat d =>
      obtain ⟨k, hk, rfl⟩ := Option.map_eq_some_iff.mp h
      exact ⟨a, valV ks k, rfl, .inl ⟨ks, k, h1, dkey_ok hk ry, rfl⟩, repK.get k h2⟩
  | none =>
    rw [e] at h
    cases e2 : PP.ditOf st x with
    | none => simp only [e2] at h; cases h
    | some kvs =>
      simp only [e2] at h
      obtain ⟨a, ks, rfl, h1, h2⟩ := R.ditOf rx e2
      cases y with
      | ref i => cases h
      | dat d =>
        obtain ⟨k, hk, rfl⟩ := Option.map_eq_some_iff.mp h
        obtain ⟨b, hb1, hb2⟩ := tkey_ok hk ry
        exact ⟨a, valV ks k, rfl, .inr ⟨ks, k, b, h1, hb1, R.le' _ _ hb2, rfl⟩, repT.get k h2⟩
theorem RelOD.some {K : PySem.W.Frag} {F : Hp} {d : D} {ov : Option V} (r : RelOD K F (Option.some d) ov) : ∃ v, ov = Option.some v ∧ rep K F d v := by
  cases ov with
  | none => exact False.elim r
  | some v => exact ⟨v, rfl, r⟩
theorem RelOD.isSome {K : PySem.W.Frag} {F : Hp} {o : Option D} {ov : Option V} (r : RelOD K F o ov) : ov.isSome = o.isSome := by
  cases ov with
  | none => cases o with
    | none => rfl
    | some _ => exact False.elim r
  | some v => cases o with
    | none => exact False.elim r
    | some _ => rfl
theorem RelOD.or {K : PySem.W.Frag} {F : Hp} {ρ : List Addr} {o : Option D} {ov : Option V} {z : M} {vz : V} (r : RelOD K F o ov) (rz : repM K F ρ z vz) : repM K F ρ (orM o z) (ov.getD vz) := by
  cases ov with
  | none => cases o with
    | none => exact rz
    | some _ => exact False.elim r
  | some v => cases o with
    | none => exact False.elim r
    | some _ => exact r
theorem Core.isD (R : Core K g ρ H st) {x : M} {vx : V} (rx : repM K (fr g ρ st H) ρ x vx) (h : isDic st x = true) : ∃ a, vx = .ref a ∧ IsD H a := by
  unfold isDic at h
  rw [Bool.or_eq_true] at h
  rcases h with h | h
  · obtain ⟨kvs, e⟩ := Option.isSome_iff_exists.mp h
    obtain ⟨a, ks, rfl, h1, _⟩ := R.dicOf rx e
    exact ⟨a, rfl, .inl ⟨ks, h1⟩⟩
  · obtain ⟨kvs, e⟩ := Option.isSome_iff_exists.mp h
    obtain ⟨a, ks, rfl, h1, _⟩ := R.ditOf rx e
    exact ⟨a, rfl, .inr ⟨ks, h1⟩⟩
theorem Rel.putD {σ : L2.St} {ds : Sl} (R : Rel K g ρ σ H ds st) {x y : M} {vx vy v : V} {d : D} {st' : Sto} (rx : repM K (fr g ρ st H) ρ x vx) (ry : repM K (fr g ρ st H) ρ y vy) (rd : rep K (fr g ρ st H) d v) (h : putD? st x y d = some st') :
    ∃ a H', vx = .ref a ∧ DPut H a vy v H' ∧ Rel K g ρ σ H' ds st' := by
  unfold putD? at h
  split at h
  · rename_i i k
    obtain ⟨a, ha, rfl⟩ := ref_of rx
    split at h
    · rename_i kvs hi
      split at h
      · rename_i ky hk
        split at h
        · rename_i hl
          cases h
          obtain ⟨ks, h1, h2⟩ := R.cells i _ _ ha hi
          obtain ⟨R', e⟩ := R.write (o := .dK (putK ks ky v)) (c := .dic (putP kvs ky d)) ha hi rfl rfl fun F' e => ⟨_, upd_same, repK.mono e _ _ (repK.put rd ky h2)⟩
          exact ⟨a, _, rfl, .inl ⟨ks, ky, h1, dkey_ok hk ry, by rw [line_eq, ← repK.length h2]; exact hl, rfl⟩, ⟨R', R.slots.mono e List.prefix_rfl⟩⟩
        · cases h
      · cases h
    · rename_i kvs hi
      split at h
      · rename_i ky hk
        split at h
        · rename_i hl
          cases h
          obtain ⟨ks, h1, h2⟩ := R.cells i _ _ ha hi
          obtain ⟨b, hb1, hb2⟩ := tkey_ok hk ry
          obtain ⟨R', e⟩ := R.write (o := .dT (putK ks ky v)) (c := .dit (putP kvs ky d)) ha hi rfl rfl fun F' e => ⟨_, upd_same, repT.mono e _ _ (repT.put rd ky h2)⟩
          exact ⟨a, _, rfl, .inr ⟨ks, ky, b, h1, hb1, R.le' _ _ hb2, by rw [line_eq, ← repT.length h2]; exact hl, rfl⟩, ⟨R', R.slots.mono e List.prefix_rfl⟩⟩
        · cases h
      · cases h
    · cases h
  · cases h
end
section
variable {X : Cx} {a b c e o : Expr} {es : List Expr} {pos pos' tpos : Pos} {wa wb wc wd wo : WE} {wr : WA}
theorem ae_dnew (t : Bool) : PE X (.Dict [] [] pos) (lE X.K (wDNew t)) := by
  cases t with
  | false =>
    refine PE.of pe_dnewK ?_
    rintro σ H Q ⟨g, ρ, ds, st, P, R, hp, hq⟩ p hp0
    obtain ⟨R', e⟩ := R.alloc (o := .dK []) (c := .dic []) hp0 rfl fun F' ρ' e _ => ⟨_, upd_same, rfl⟩
    refine hq _ _ _ _ _ hp ⟨R', R.slots.mono e (List.prefix_append _ _)⟩ ⟨p, ?_, rfl⟩
    rw [← R.len]
    simp
  | true =>
    refine PE.of pe_dnewT ?_
    rintro σ H Q ⟨g, ρ, ds, st, P, R, hp, hq⟩ p hp0
    obtain ⟨R', e⟩ := R.alloc (o := .dT []) (c := .dit []) hp0 rfl fun F' ρ' e _ => ⟨_, upd_same, rfl⟩
    refine hq _ _ _ _ _ hp ⟨R', R.slots.mono e (List.prefix_append _ _)⟩ ⟨p, ?_, rfl⟩
    rw [← R.len]
    simp
theorem ab_inD (hu : X.A.units + 1 < cLine) : AB X (compareOp .In) (fInD false) := ⟨fun x y H Q => ∃ a o, y = .ref a ∧ DGet H a x o ∧ Q (.bl o.isSome) H, fun pins s σ H x y v u Q I rx ry ⟨a, o, hy, g, q⟩ => by
    subst hy
    cases ry
    exact d_in hu I g rx fun s' I' => ⟨.bl o.isSome, H, I', rfl, q⟩, fun g ρ H st x y vx vy d Q R rx ry e q => by
  unfold fInD at e
  split at e
  · rename_i o ho
    cases e
    obtain ⟨a, ov, rfl, h1, h2⟩ := R.getD ry rx ho
    refine ⟨a, ov, rfl, h1, ?_⟩
    rw [RelOD.isSome h2]
    exact q _ rfl
  · cases e⟩
theorem ab_notInD (hu : X.A.units + 1 < cLine) : AB X (compareOp .NotIn) (fInD true) := ⟨fun x y H Q => ∃ a o, y = .ref a ∧ DGet H a x o ∧ Q (.bl (!o.isSome)) H, fun pins s σ H x y v u Q I rx ry ⟨a, o, hy, g, q⟩ => by
    subst hy
    cases ry
    exact d_notIn hu I g rx fun s' I' => ⟨.bl (!o.isSome), H, I', rfl, q⟩, fun g ρ H st x y vx vy d Q R rx ry e q => by
  unfold fInD at e
  split at e
  · rename_i o ho
    cases e
    obtain ⟨a, ov, rfl, h1, h2⟩ := R.getD ry rx ho
    refine ⟨a, ov, rfl, h1, ?_⟩
    rw [RelOD.isSome h2]
    exact q _ rfl
  · cases e⟩
theorem ax_dic (hu : X.A.units + 1 < cLine) : AX X fIxD := ⟨fun x y H Q => ∃ a v, x = .ref a ∧ DGet H a y (some v) ∧ Q v H, fun value slice pins s σ H x y v u Q I rx ry ⟨a, z, hx, g, q⟩ hs => by
    subst hx
    cases rx
    exact tail_any (dict_typeIs I g) PySem.F.slot_dict_getitem.lookup (d_getItem hu I g ry fun w' s' I' r' => ⟨_, H, I', r', q⟩) hs, fun g ρ H st x y vx vy d Q R rx ry e q => by
  unfold fIxD at e
  split at e
  · rename_i z ho
    cases e
    obtain ⟨a, ov, rfl, h1, h2⟩ := R.getD rx ry ho
    obtain ⟨v, rfl, h3⟩ := RelOD.some h2
    exact ⟨a, v, rfl, h1, q _ h3⟩
  · cases e⟩
section
variable {apos cpos : Pos}
theorem ae_dget1 (hu : X.A.units + 1 < cLine) (ho : PE X o (lE X.K wo)) (he : PE X e (lE X.K wa)) (m : M1 X o "get" apos e cpos := by exact ⟨rfl, rfl, rfl, rfl⟩) : PE X (.Call (.Attribute o "get" apos) [e] [] cpos) (lE X.K (wDGet1 wo wa)) := by
  refine PE.of (pe_dget1 hu ho he m) ?_
  rintro σ H Q ⟨g, ρ, ds, st, P, R, hw, hq⟩
  refine ⟨g, ρ, ds, st, _, R, hw, fun x st1 vx H1 ρ1 h1 R1 r1 => ?_⟩
  obtain ⟨hd, h1⟩ := h1
  obtain ⟨a, rfl, hd'⟩ := R1.toCore.isD r1 hd
  refine ⟨a, rfl, hd', _, ρ1, ds, st1, _, R1.now, h1, fun y st2 vy H2 ρ2 h2 R2 r2 => ?_⟩
  obtain ⟨o, h3, hp⟩ := h2
  obtain ⟨a', ov, e1, h4, h5⟩ := R2.toCore.getD (r1.mono R2.ext R2.pre) r2 h3
  cases e1
  exact ⟨ov, h4, hq _ _ _ _ _ hp (R2.back R1.ext R1.pre) (RelOD.or (z := .dat .non) h5 rfl)⟩
theorem ae_dget2 (hu : X.A.units + 1 < cLine) (ho : PE X o (lE X.K wo)) (he : PE X e (lE X.K wa)) (hf : PE X b (lE X.K wb)) (m : M2 X o "get" apos e b cpos := by exact ⟨rfl, rfl, rfl, rfl⟩) : PE X (.Call (.Attribute o "get" apos) [e, b] [] cpos) (lE X.K (wDGet2 wo wa wb)) := by
  refine PE.of (pe_dget2 hu ho he hf m) ?_
  rintro σ H Q ⟨g, ρ, ds, st, P, R, hw, hq⟩
  refine ⟨g, ρ, ds, st, _, R, hw, fun x st1 vx H1 ρ1 h1 R1 r1 => ?_⟩
  obtain ⟨hd, h1⟩ := h1
  obtain ⟨a, rfl, hd'⟩ := R1.toCore.isD r1 hd
  refine ⟨a, rfl, hd', _, ρ1, ds, st1, _, R1.now, h1, fun y st2 vy H2 ρ2 h2 R2 r2 => ?_⟩
  refine ⟨_, ρ2, ds, st2, _, R2.now, h2, fun z st3 vz H3 ρ3 h3 R3 r3 => ?_⟩
  obtain ⟨o, h3, hp⟩ := h3
  have R32 := R3.back R2.ext R2.pre
  obtain ⟨a', ov, e1, h4, h5⟩ := R3.toCore.getD ((r1.mono R2.ext R2.pre).mono R3.ext R3.pre) (r2.mono R3.ext R3.pre) h3
  cases e1
  exact ⟨ov, h4, hq _ _ _ _ _ hp (R32.back R1.ext R1.pre) (RelOD.or h5 r3)⟩
end
theorem as_dput (hu : X.A.units + 1 < cLine) (ho : PE X o (lE X.K wo)) (hi : PE X a (lE X.K wa)) (hv : PE X e (lE X.K wb)) (hs : swapsWith e (some (.Subscript o a pos')) pos.line X.env = pure false := by rfl) :
    PS X (.Assign [.Subscript o a pos'] e pos) (lS X.K (wsDPut wo wa wb)) := by
  refine PS.of (ps_dput hu ho hi hv hs) ?_
  rintro D σ H ⟨g, ρ, ds, st, W, R, hw, h1, h2, h3, h4⟩
  refine ⟨g, ρ, ds, st, _, R, hw, fun vm st1 vv H1 ρ1 q1 R1 r1 => ?_⟩
  refine ⟨_, ρ1, ds, st1, _, R1.now, q1, fun m st2 vx H2 ρ2 q2 R2 r2 => ?_⟩
  refine ⟨_, ρ2, ds, st2, _, R2.now, q2, fun y st3 vy H3 ρ3 q3 R3 r3 => ?_⟩
  obtain ⟨dv, st4, rfl, hp, hn⟩ := q3
  have R31 := (R3.back R2.ext R2.pre).back R1.ext R1.pre
  obtain ⟨a', H', rfl, h5, R5⟩ := Rel.putD R31 (r2.mono R3.ext R3.pre) r3 ((r1.mono R2.ext R2.pre).mono R3.ext R3.pre) hp
  exact ⟨a', H', rfl, h5, h1 _ _ _ _ _ hn R5⟩
end
end PP

/-! Mrl9: written dicts keyed by numbers; written tables; xs[i] = v; defs with keyword-only parameters. -/
namespace PP
open PySem PySem.Spec PyProof.Rows L2
/-- data that stands in the text -/
def vOf (K : PySem.W.Frag) : D → Option V
  | .non => some .non
  | .bl b => some (.bl b)
  | .int i => some (.int i)
  | .str x => some (.str x)
  | .ty n => some (.ty n)
  | .glo x => some (.ref (He.ga K x))
  | _ => none
theorem vOf_rep {K : PySem.W.Frag} {d : D} {v : V} (h : vOf K d = some v) (F : Hp) : rep K F d v := by
  cases d <;> cases h <;> rfl
/-! ### dicts keyed by numbers -/
def entsB (K : PySem.W.Frag) : List DictEntry → List (Int × D) → Bool
  | [], [] => true
  | e :: es, (i, d) :: T => Value.isInt i e.key && decide (e.hash = hashInt i) && (match vOf K d with
    | some v => He.relB v e.val
    | none => false) && entsB K es T
  | _, _ => false
def gdB (K : PySem.W.Frag) (x : Str) (T : List (Int × D)) : Bool := match K.lookup (He.ga K x) with
  | some ⟨.type c, none, .dict es _, sl⟩ => decide (c = "dict") && (sl.isEmpty && (!(He.ga K x == sysModules) && entsB K es.toList T))
  | _ => false
structure GD (K : PySem.W.Frag) (x : Str) (T : List (Int × D)) : Prop where
  ex : ∃ (es : Array DictEntry) (n : Nat), K.lookup (He.ga K x) = some ⟨.type "dict", none, .dict es n, #[]⟩ ∧ (He.ga K x == sysModules) = false ∧ entsB K es.toList T = true
theorem gdB_ok {K : PySem.W.Frag} {x : Str} {T : List (Int × D)} (h : gdB K x T = true) : GD K x T := by
  unfold gdB at h
  cases q : K.lookup (He.ga K x) with
  | none =>
    rw [q] at h
    cases h
  | some o =>
    obtain ⟨oc, od, dt, osl⟩ := o
    rw [q] at h
    cases oc with
    | type c =>
      cases od with
      | none =>
        cases dt with
        | dict es n =>
          obtain ⟨h1, h2⟩ := He.ba (show (decide (c = "dict") && (osl.isEmpty && (!(He.ga K x == sysModules) && entsB K es.toList T))) = true from h)
          obtain ⟨h3, h4⟩ := He.ba h2
          obtain ⟨h5, h6⟩ := He.ba h4
          have e1 := of_decide_eq_true h1
          have e2 : osl = #[] := by simpa using h3
          subst e1 e2
          exact ⟨es, n, q, by simpa using h5, h6⟩
        | _ => cases h
      | some a => cases dt <;> cases h
    | _ => cases od <;> cases dt <;> cases h
theorem ents_keys {K : PySem.W.Frag} : ∀ {es : List DictEntry} {T : List (Int × D)}, entsB K es T = true → ∀ e ∈ es, ∃ k, Value.isInt k e.key = true ∧ e.hash = hashInt k
  | [], _, _, e, he => by cases he
  | _ :: _, [], h, _, _ => by cases h
  | e :: es, (i, d) :: T, h, e', he => by
    obtain ⟨h1, h2⟩ := He.ba (show (Value.isInt i e.key && decide (e.hash = hashInt i) && _ && entsB K es T) = true from h)
    obtain ⟨h3, h4⟩ := He.ba h1
    obtain ⟨h5, h6⟩ := He.ba h3
    rcases List.mem_cons.mp he with q | q
    · subst q
      exact ⟨i, h5, of_decide_eq_true h6⟩
    · exact ents_keys h2 e' q
def RelOU (K : PySem.W.Frag) (F : Hp) : Option D → Option Value → Prop
  | some d, some u => ∃ v, RelV v u ∧ rep K F d v
  | none, none => True
  | _, _ => False
theorem ents_find {K : PySem.W.Frag} (F : Hp) (i : Int) : ∀ {es : List DictEntry} {T : List (Int × D)}, entsB K es T = true → RelOU K F (getP T i) ((es.find? fun e => Value.isInt i e.key).map (·.val))
  | [], [], _ => trivial
  | [], _ :: _, h => by cases h
  | _ :: _, [], h => by cases h
  | e :: es, (j, d) :: T, h => by
    obtain ⟨h1, h2⟩ := He.ba (show (Value.isInt j e.key && decide (e.hash = hashInt j) && (match vOf K d with
    | some v => He.relB v e.val
    | none => false) && entsB K es T) = true from h)
    obtain ⟨h3, h4⟩ := He.ba h1
    obtain ⟨h5, h6⟩ := He.ba h3
    rw [getP_cons, List.find?_cons]
    by_cases q : j = i
    · subst q
      rw [if_pos rfl, h5]
      cases q2 : vOf K d with
      | none => rw [q2] at h4; cases h4
      | some v =>
        rw [q2] at h4
        exact ⟨v, He.relB_ok h4, vOf_rep q2 F⟩
    · rw [if_neg q]
      have : Value.isInt i e.key = false := by
        cases q3 : Value.isInt i e.key with
        | false => rfl
        | true => exact absurd (Value.isInt_inj _ _ _ h5 q3) q
      rw [this]
      exact ents_find F i h2
section
variable {X : Cx} {a b c e o : Expr} {es : List Expr} {pos pos' tpos : Pos} {wa wb wc wd wo : WE} {wr : WA} {n : Str} {T : List (Int × D)}
theorem GD.map (D : GD X.K n T) {h : Heap} (X' : X.K.In h) : ∃ es : Array DictEntry, h.MapOf (PySem.intKind X.prog X.w) (He.ga X.K n) (fun k => findBy Value.isInt es k) ∧ (He.ga X.K n == sysModules) = false ∧ entsB X.K es.toList T = true := by
  obtain ⟨es, m, h1, h2, h3⟩ := D.ex
  exact ⟨es, ⟨_, es, m, X' _ _ h1, ⟨rfl, rfl, rfl⟩, rfl, fun e he => ents_keys h3 e (Array.mem_toList_iff.mpr he), fun _ => rfl⟩, h2, h3⟩
theorem findBy_list (es : Array DictEntry) (i : Int) : findBy Value.isInt es i = (es.toList.find? fun e => Value.isInt i e.key).map (·.val) := by
  obtain ⟨l⟩ := es
  unfold findBy
  rw [List.find?_toArray]
theorem ab_inG (D : GD X.K n T) : AB X (compareOp .In) (fInG n T false) := ⟨fun x y H Q => ∃ i, x = .int i ∧ y = .ref (He.ga X.K n) ∧ Q (.bl (getP T i).isSome) H, fun pins s σ H x y v u Q I rx ry ⟨i, hx, hy, q⟩ => by
    subst hx hy
    obtain ⟨t, rfl⟩ := rx
    cases ry
    obtain ⟨es, hm, hd, he⟩ := D.map I.kIn
    refine wpAny_in_of (knd := PySem.intKind X.prog X.w) (k := i) (by show Value.isInt i (.int i t) = true; simp [Value.isInt]) hd hm ?_
    have e := ents_find (fun _ => none) i he
    rw [findBy_list]
    refine ⟨.bl (getP T i).isSome, H, I.tok _, ?_, q⟩
    cases q1 : getP T i <;> cases q2 : List.find? (fun e => Value.isInt i e.key) es.toList <;> rw [q1, q2] at e <;> first | exact e.elim | rfl, fun g ρ H st x y vx vy d Q R rx ry e q => by
  unfold fInG at e
  split at e
  · split at e
    · rename_i i x hx
      subst hx
      cases e
      exact ⟨i, rx, ry, q _ rfl⟩
    · cases e
  · cases e⟩
theorem ax_G (D : GD X.K n T) : AX X (fIxG n T) := ⟨fun x y H Q => ∃ i d, y = .int i ∧ x = .ref (He.ga X.K n) ∧ getP T i = some d ∧ ∀ v, rep X.K (fun _ => none) d v → Q v H, fun value slice pins s σ H x y v u Q I rx ry ⟨i, d, hy, hx, hg, q⟩ hs => by
    subst hx hy
    obtain ⟨t, rfl⟩ := ry
    cases rx
    obtain ⟨es, hm, hd, he⟩ := D.map I.kIn
    have e := ents_find (fun _ => none) i he
    rw [hg] at e
    cases q2 : List.find? (fun e => Value.isInt i e.key) es.toList with
    | none => rw [q2] at e; exact e.elim
    | some e' =>
      rw [q2] at e
      obtain ⟨w, r1, r2⟩ := (show ∃ v, RelV v e'.val ∧ rep X.K (fun _ => none) d v from e)
      exact tail_any hm.typeIs PySem.F.slot_dict_getitem.lookup (wpAny_getItem_of (knd := PySem.intKind X.prog X.w) (k := i) (v := e'.val) (by show Value.isInt i (.int i t) = true; simp [Value.isInt]) hm (by rw [findBy_list, q2]; rfl) ⟨w, H, I.tok _, r1, q w r2⟩) hs, fun g ρ H st x y vx vy d Q R rx ry e q => by
  unfold fIxG at e
  split at e
  · split at e
    · rename_i x i hx
      subst hx
      exact ⟨i, d, ry, rx, e, fun v rv => q v (rep.mono (fun _ _ h => by cases h) d v rv)⟩
    · cases e
  · cases e⟩
/-- xs[i] = v -/
theorem as_lput (ho : PE X o (lE X.K wo)) (hi : PE X a (lE X.K wa)) (hv : PE X e (lE X.K wb)) (hs : swapsWithSole [.Subscript o a pos'] e pos.line X.env = pure false := by rfl) (hw : swappedStores [.Subscript o a pos'] e X.env = pure none := by rfl)
    (h1 : (assignEach [.Subscript o a pos'] X.env).map (·.2) = [assign (.Subscript o a pos') X.env] := by rfl)
    (ha : ∀ v, assign (.Subscript o a pos') X.env v = (do
      let ov ← holding [v] (eval o X.env)
      let iv ← holding [v, ov] (eval a X.env)
      standAt pos'
      holding [v, ov, iv] (setItem ov iv v)
      release [v, ov, iv] []) := by intro _; rfl) : PS X (.Assign [.Subscript o a pos'] e pos) (lS X.K (wsLPut wo wa wb)) := by
  refine PS.of (ps_asg hv (pg_sub ho hi set_list ha) hs hw h1) ?_
  rintro D σ H ⟨g, ρ, ds, st, W, R, hw, h1, h2, h3, h4⟩
  refine ⟨g, ρ, ds, st, _, R, hw, fun vm st1 vv H1 ρ1 q1 R1 r1 => ?_⟩
  refine ⟨_, ρ1, ds, st1, _, R1.now, q1, fun m st2 vx H2 ρ2 q2 R2 r2 => ?_⟩
  refine ⟨_, ρ2, ds, st2, _, R2.now, q2, fun y st3 vy H3 ρ3 q3 R3 r3 => ?_⟩
  obtain ⟨dv, st4, rfl, hp, hn⟩ := q3
  have R31 := (R3.back R2.ext R2.pre).back R1.ext R1.pre
  have r1' := (r1.mono R2.ext R2.pre).mono R3.ext R3.pre
  have r2' := r2.mono R3.ext R3.pre
  unfold putL? at hp
  split at hp
  · rename_i i j
    obtain ⟨a', ha', rfl⟩ := ref_of r2'
    split at hp
    · rename_i xs hi
      split at hp
      · rename_i n hn'
        cases hp
        obtain ⟨ws, h5, h6⟩ := R31.cells i _ _ ha' hi
        obtain ⟨R5, e5⟩ := setL_ok R31 ha' hi rfl (reps.set r1' n h6)
        refine ⟨a', ws, j, n, rfl, int_of r3, h5, ?_, h1 _ _ _ _ _ hn R5⟩
        rw [← reps.length h6]
        exact hn'
      · cases hp
    · cases hp
  · cases hp
end
/-! ### keyword-only parameters, no defaults -/
theorem kbN {K : PySem.W.Frag} {x qual : Str} {params : Arguments} {body : List Stmt} {scope : Scope} {f : Addr} {fd : FuncData} {ps : List Str} (F : FunD K x qual params body scope [] [] f fd) (n : Nat) (ks : List Str)
    (h : ∀ (kV doc pm : Value) (an : Option Addr) (cdv ct : Value) (us ws : List Value), us.length = n → ws.length = ks.length → bindArgs (PySem.W.fnOf x qual params body scope .none kV doc pm an cdv ct) ⟨us, ks.zip ws⟩ = pure (ps.zip (us ++ ws))) :
    KBn K fd ps n ks (fun us ws => us ++ ws) (fun vs zs => vs ++ zs) := by
  obtain ⟨oc, od, dV, kV, doc, pm, an, cdv, ct, osl, rfl, lk, hcd, hD, hK⟩ := F.ex
  rcases hD with ⟨_, rfl⟩ | ⟨e, _⟩
  · exact ⟨fun s us ws _ l1 l2 => .of_eq (h kV doc pm an cdv ct us ws l1 l2), fun r1 r2 => r1.append r2⟩
  · exact absurd rfl e
end PP

/-! Mrl10: types, min, max; the head's facts in one bundle; promises of defs out of derivations. -/
namespace PP
open PySem PySem.Spec PyProof.Rows L2
section
variable {K : PySem.W.Frag} {F F' : Hp} {g : G} {ρ : List Addr} {H : Hp} {st : Sto}
theorem tyx_l {a : Addr} {vs : List V} (q : SqL K H a vs) : TyX K H (.ref a) (.type "list") := by
  rcases q with (q | ⟨o, q⟩) | ⟨o, its, n, e, hc, _⟩
  · exact .base (.lst q)
  · exact .base (.frz q)
  · exact .kList e hc
theorem tyx_t {a : Addr} {vs : List V} (q : SqT K H a vs) : TyX K H (.ref a) (.type "tuple") := by
  rcases q with (q | ⟨o, q⟩) | ⟨o, its, n, e, hc, _⟩
  · exact .base (.tup q)
  · exact .fTuple q
  · exact .kTuple e hc
theorem tyx_d {a : Addr} {vs : List (Key × V)} (q : Rd H a (.dK vs)) : TyX K H (.ref a) (.type "dict") := by
  rcases q with q | ⟨o, q⟩
  · exact .base (.dK q)
  · exact .fDict q
theorem Core.tyM (R : Core K g ρ H st) {m : M} {v : V} {t : String} (r : repM K (fr g ρ st H) ρ m v) (h : PP.tyM st m = some t) : TyX K H v (.type t) := by
  cases m with
  | dat d =>
    cases d with
    | non => cases h; cases (show v = .non from r); exact .base .non
    | bl b => cases h; cases (show v = .bl b from r); exact .base (.bl b)
    | int b => cases h; cases (show v = .int b from r); exact .base (.int b)
    | str b => cases h; cases (show v = .str b from r); exact .base (.str b)
    | tup xs => cases h; obtain ⟨a, vs, rfl, q, _⟩ := R.tupOf (m := .dat (.tup xs)) r rfl; exact tyx_t q
    | sct xs => cases h; obtain ⟨a, vs, rfl, q, _⟩ := R.tupOf (m := .dat (.sct xs)) r rfl; exact tyx_t q
    | lst xs => cases h; obtain ⟨a, vs, rfl, q, _⟩ := R.listOf (m := .dat (.lst xs)) r rfl; exact tyx_l q
    | scr xs => cases h; obtain ⟨a, vs, rfl, q, _⟩ := R.listOf (m := .dat (.scr xs)) r rfl; exact tyx_l q
    | dic xs => cases h; obtain ⟨a, vs, rfl, q, _⟩ := R.dicOf (m := .dat (.dic xs)) r rfl; exact tyx_d q
    | _ => cases h
  | ref i =>
    obtain ⟨a, ha, rfl⟩ := (show ∃ a, ρ[i]? = some a ∧ v = .ref a from r)
    cases e : st[i]? with
    | none => simp only [PP.tyM, e] at h; cases h
    | some c =>
      have hc := R.cells i a c ha e
      cases c with
      | lst xs =>
        simp only [PP.tyM, e] at h
        cases h
        obtain ⟨vs, h1, _⟩ := hc
        exact .base (.lst h1)
      | lsm xs =>
        simp only [PP.tyM, e] at h
        cases h
        obtain ⟨vs, h1, _⟩ := hc
        exact .base (.lst h1)
      | dic xs =>
        simp only [PP.tyM, e] at h
        cases h
        obtain ⟨vs, h1, _⟩ := hc
        exact .base (.dK h1)
      | frz d =>
        cases d with
        | lst xs =>
          simp only [PP.tyM, e] at h
          cases h
          obtain ⟨a', vs, h1, h2, h3⟩ := (show ∃ a' vs, V.ref a = .ref a' ∧ fr g ρ st H a' = some (.lst vs) ∧ reps K (fr g ρ st H) xs vs from hc)
          cases h1
          exact .base (.lst (R.le' _ _ h2))
        | dic xs =>
          simp only [PP.tyM, e] at h
          cases h
          obtain ⟨a', ks, h1, h2, h3⟩ := (show ∃ a' ks, V.ref a = .ref a' ∧ Rd (fr g ρ st H) a' (.dK ks) ∧ repK K (fr g ρ st H) xs ks from hc)
          cases h1
          exact tyx_d (R.le'.rd h2)
        | _ => simp only [PP.tyM, e] at h; cases h
      | _ => simp only [PP.tyM, e] at h; cases h
theorem tyM_in {m : M} {t : String} (h : PP.tyM st m = some t) : t = "NoneType" ∨ t = "bool" ∨ t = "int" ∨ t = "str" ∨ t = "tuple" ∨ t = "list" ∨ t = "dict" := by
  unfold PP.tyM at h
  split at h <;> first | (cases h; simp; done) | (cases h; done) | (split at h <;> first | (cases h; simp; done) | (cases h; done))
theorem kit_sub {t n : String} {b : Bool} (ht : t = "NoneType" ∨ t = "bool" ∨ t = "int" ∨ t = "str" ∨ t = "tuple" ∨ t = "list" ∨ t = "dict") (h : subTy t n = some b) : PySem.W.kitOne K (.type t) (.type n) = some b := by
  unfold subTy at h
  split at h
  · rename_i hn
    cases h
    rcases hn with rfl | rfl | rfl | rfl | rfl | rfl <;> rcases ht with rfl | rfl | rfl | rfl | rfl | rfl | rfl <;> rfl
  · cases h
theorem reps.intsOf : ∀ {ds : List D} {vs : List V} {is : List Int}, reps K F ds vs → PP.intsOf ds = some is → vs = is.map V.int
  | [], _, is, h, e => by
    cases e
    exact h
  | .int i :: ds, _, is, ⟨v, ws, h1, h2, h3⟩, e => by
    simp only [PP.intsOf] at e
    cases q : PP.intsOf ds with
    | none => rw [q] at e; cases e
    | some r =>
      rw [q] at e
      cases e
      rw [h1, show v = .int i from h2, reps.intsOf h3 q]
      rfl
  | .non :: ds, _, _, _, e => by cases e
  | .bl _ :: ds, _, _, _, e => by cases e
  | .str _ :: ds, _, _, _, e => by cases e
  | .ty _ :: ds, _, _, _, e => by cases e
  | .glo _ :: ds, _, _, _, e => by cases e
  | .tup _ :: ds, _, _, _, e => by cases e
  | .lst _ :: ds, _, _, _, e => by cases e
  | .dic _ :: ds, _, _, _, e => by cases e
  | .dit _ :: ds, _, _, _, e => by cases e
  | .scr _ :: ds, _, _, _, e => by cases e
  | .sct _ :: ds, _, _, _, e => by cases e
end
theorem minOf_mem : ∀ {l : List Int}, l ≠ [] → minOf l ∈ l ∧ ∀ y ∈ l, minOf l ≤ y
  | [], h => absurd rfl h
  | [i], _ => ⟨List.mem_cons_self, fun y hy => by rcases List.mem_cons.mp hy with rfl | hy; exact Int.le_refl _; cases hy⟩
  | i :: j :: r, _ => by
    obtain ⟨h1, h2⟩ := minOf_mem (l := j :: r) (by simp)
    show min i (minOf (j :: r)) ∈ _ ∧ _
    by_cases q : i ≤ minOf (j :: r)
    · rw [show minOf (i :: j :: r) = min i (minOf (j :: r)) from rfl, Int.min_eq_left q]
      refine ⟨List.mem_cons_self, fun y hy => ?_⟩
      rcases List.mem_cons.mp hy with rfl | hy
      · exact Int.le_refl _
      · exact Int.le_trans q (h2 y hy)
    · rw [show minOf (i :: j :: r) = min i (minOf (j :: r)) from rfl, Int.min_eq_right (by omega)]
      refine ⟨List.mem_cons_of_mem _ h1, fun y hy => ?_⟩
      rcases List.mem_cons.mp hy with rfl | hy
      · omega
      · exact h2 y hy
theorem maxOf_mem : ∀ {l : List Int}, l ≠ [] → maxOf l ∈ l ∧ ∀ y ∈ l, y ≤ maxOf l
  | [], h => absurd rfl h
  | [i], _ => ⟨List.mem_cons_self, fun y hy => by rcases List.mem_cons.mp hy with rfl | hy; exact Int.le_refl _; cases hy⟩
  | i :: j :: r, _ => by
    obtain ⟨h1, h2⟩ := maxOf_mem (l := j :: r) (by simp)
    show max i (maxOf (j :: r)) ∈ _ ∧ _
    by_cases q : maxOf (j :: r) ≤ i
    · rw [show maxOf (i :: j :: r) = max i (maxOf (j :: r)) from rfl, Int.max_eq_left q]
      refine ⟨List.mem_cons_self, fun y hy => ?_⟩
      rcases List.mem_cons.mp hy with rfl | hy
      · exact Int.le_refl _
      · exact Int.le_trans (h2 y hy) q
    · rw [show maxOf (i :: j :: r) = max i (maxOf (j :: r)) from rfl, Int.max_eq_right (by omega)]
      refine ⟨List.mem_cons_of_mem _ h1, fun y hy => ?_⟩
      rcases List.mem_cons.mp hy with rfl | hy
      · omega
      · exact h2 y hy
section
variable {X : Cx} {a b c e o : Expr} {es : List Expr} {pos pos' tpos : Pos} {wa wb wc wd wo : WE} {wr : WA} {x : Str}
/-- a built-in type as a value -/
theorem ae_ty {n : String} (hg : Gl X x) (hm : X.mg x = none) (hv : bootBuiltins x = some (.type n)) (hn : x ≠ "__name__" := by decide) (hd : (x == ("__debug__" : Str)) = false := by decide) : PE X (.Name x pos) (lE X.K (wC (.ty n))) :=
  ae_C (pe_bltn (v := .ty n) hg hm hv rfl hn hd) fun _ => rfl
theorem ac_isi : AC X (.builtin "isinstance") cIsi := ⟨_, call_isi, fun g ρ H st ms vs d Q R rs e q => by
  unfold cIsi at e
  split at e
  · rename_i m n
    split at e
    · rename_i t ht
      obtain ⟨b, hb, rfl⟩ := Option.map_eq_some_iff.mp e
      obtain ⟨v, w, rfl, rv, rw'⟩ := two_of rs
      cases (show w = .ty n from rw')
      exact ⟨v, .ty n, .type t, .type n, b, rfl, .ty n, R.tyM rv ht, kit_sub (tyM_in ht) hb, q _ rfl⟩
    · cases e
  · cases e⟩
theorem ac_min (hc : X.calm = true) : AC X (.builtin "min") cMin := ⟨_, CallR.or (call_min2 hc) (cr_min hc), fun g ρ H st ms vs d Q R rs e q => by
  unfold cMin at e
  split at e
  · rename_i i j
    cases e
    obtain ⟨v, w, rfl, rv, rw'⟩ := two_of rs
    exact .inl ⟨i, j, by rw [int_of rv, int_of rw'], q _ rfl⟩
  · split at e
    · rename_i ds hd
      split at e
      · rename_i i r hi
        cases e
        obtain ⟨v, rfl, rv⟩ := one_of rs
        obtain ⟨a, vs, rfl, q1, q2⟩ := R.listOf rv hd
        rw [reps.intsOf q2 hi] at q1
        refine .inr ⟨a, i :: r, rfl, q1, by simp, fun m hm hl => ?_⟩
        obtain ⟨h1, h2⟩ := minOf_mem (l := i :: r) (by simp)
        have : m = minOf (i :: r) := Int.le_antisymm (hl _ h1) (h2 _ hm)
        subst this
        exact q _ rfl
      · cases e
    · cases e
  · cases e⟩
theorem ac_max (hc : X.calm = true) : AC X (.builtin "max") cMax := ⟨_, CallR.or (call_max2 hc) (cr_max hc), fun g ρ H st ms vs d Q R rs e q => by
  unfold cMax at e
  split at e
  · rename_i i j
    cases e
    obtain ⟨v, w, rfl, rv, rw'⟩ := two_of rs
    exact .inl ⟨i, j, by rw [int_of rv, int_of rw'], q _ rfl⟩
  · split at e
    · rename_i ds hd
      split at e
      · rename_i i r hi
        cases e
        obtain ⟨v, rfl, rv⟩ := one_of rs
        obtain ⟨a, vs, rfl, q1, q2⟩ := R.listOf rv hd
        rw [reps.intsOf q2 hi] at q1
        refine .inr ⟨a, i :: r, rfl, q1, by simp, fun m hm hl => ?_⟩
        obtain ⟨h1, h2⟩ := maxOf_mem (l := i :: r) (by simp)
        have : m = maxOf (i :: r) := Int.le_antisymm (h2 _ hm) (hl _ h1)
        subst this
        exact q _ rfl
      · cases e
    · cases e
  · cases e⟩
theorem ab_isB : AB X (compareOp .Is) fIsB := ⟨_, op_isBl, fun g ρ H st x y vx vy d Q R rx ry e q => by
  unfold fIsB at e
  split at e
  · rename_i a b
    cases e
    refine ⟨a, b, rx, ry, q _ ?_⟩
    cases a <;> cases b <;> rfl
  · cases e⟩
theorem ab_notB : AB X (compareOp .IsNot) fNotB := ⟨_, op_notBl, fun g ρ H st x y vx vy d Q R rx ry e q => by
  unfold fNotB at e
  split at e
  · rename_i a b
    cases e
    refine ⟨a, b, rx, ry, q _ ?_⟩
    cases a <;> cases b <;> rfl
  · cases e⟩
theorem ab_is : AB X (compareOp .Is) fIs := ab_isN.or ab_isB
theorem ab_isNot : AB X (compareOp .IsNot) fIsNot := ab_notN.or ab_notB
theorem ab_eqA {k : Nat} (hr : Room k X.A) : AB X (compareOp .Eq) fEq := ab_eq hr.units
theorem ab_neA {k : Nat} (hr : Room k X.A) : AB X (compareOp .NotEq) fNe := ab_ne hr.units
theorem Room.units1 {k : Nat} {A : Around} (r : Room k A) : A.units + 1 < cLine := by have := r.un; omega
theorem ab_inA {k : Nat} (hr : Room k X.A) : AB X (compareOp .In) (fInA false) := ab_in.or (ab_inD (Room.units1 hr))
theorem ab_notInA {k : Nat} (hr : Room k X.A) : AB X (compareOp .NotIn) (fInA true) := ab_notIn.or (ab_notInD (Room.units1 hr))
theorem ax_all {k : Nat} (hr : Room k X.A) : AX X fIx := ax_list.or (ax_tup.or (ax_str.or (ax_dic (Room.units1 hr))))
end
/-! ### the head's facts -/
/-- the addresses that are looked at: asN n: what the module's names reach in n steps -/
abbrev Ag : Type := (Addr → Option Obj) → List Addr
def asN (n : Nat) : Ag := fun g => He.asD g n
def obsP (as : Ag) (fa : List He.Fa) (fn : List He.DefD) (ex : PySem.W.Frag → Bool) (g : Addr → Option Obj) : He.AlD := (((fa.all fun f => f.ok (He.frG g (as g))) && fn.all fun d => d.ok (He.frG g (as g))) && ex (He.frG g (as g)), fn.map fun d => He.fnW (He.frG g (as g)) d.at_)
theorem obsP_split {as : Ag} {fa : List He.Fa} {fn : List He.DefD} {ex : PySem.W.Frag → Bool} {g : Addr → Option Obj} (e : obsP as fa fn ex g = He.valD fn) : He.SaysD fa fn (He.frG g (as g)) ∧ ex (He.frG g (as g)) = true := by
  have e1 := congrArg (fun z : He.AlD => z.1) e
  have e2 := congrArg (fun z : He.AlD => z.2) e
  obtain ⟨h1, h2⟩ := He.ba e1
  exact ⟨Prod.ext h1 e2, h2⟩
def hookP (as : Ag) (fa : List He.Fa) (fn : List He.DefD) (ex : PySem.W.Frag → Bool) : PySem.W.Hook where
  α := He.AlD
  obs := fun s => obsP as fa fn ex s.heap.get?
  val := fun _ => He.valD fn
  says := fun _ h => ∃ K : PySem.W.Frag, K.In h ∧ He.SaysD fa fn K ∧ ex K = true
  of := fun _ _ e => ⟨_, He.frG_in, obsP_split e⟩
  keeps := fun _ _ _ ⟨K, hK, c⟩ k => ⟨K, PySem.W.Frag.In.keeps hK k, c⟩
theorem obsP_eq {as : Ag} {fa : List He.Fa} {fn : List He.DefD} {ex : PySem.W.Frag → Bool} {g : Addr → Option Obj} {s : Shared} (h : ∀ a, g a = s.heap.get? a) : obsP as fa fn ex g = (hookP as fa fn ex).obs s := by
  have e : g = s.heap.get? := funext h
  rw [e] <;> rfl
structure HD (fa : List He.Fa) (fn : List He.DefD) (ex : PySem.W.Frag → Bool) (K : PySem.W.Frag) (mg : Str → Option Value) : Prop where
  says : He.SaysD fa fn K
  more : ex K = true
  at_ : ∃ h : Heap, K.In h ∧ h.Ns mainGlobals mg
section
variable {fa : List He.Fa} {fn : List He.DefD} {ex : PySem.W.Frag → Bool} {K : PySem.W.Frag} {mg : Str → Option Value} {x f m : Str}
theorem HD.glo (H : HD fa fn ex K mg) (i : Nat) (h : fa[i]? = some (.glo x) := by rfl) : mg x = some (.ref (He.ga K x)) := by
  obtain ⟨h', X, G⟩ := H.at_
  exact He.glo_ok X G (H.says.fact i h)
theorem HD.free (H : HD fa fn ex K mg) (i : Nat) (h : fa[i]? = some (.free x) := by rfl) : mg x = none := by
  obtain ⟨h', X, G⟩ := H.at_
  exact He.free_ok X G (H.says.fact i h)
theorem HD.gint (H : HD fa fn ex K mg) {v : Int} (i : Nat) (h : fa[i]? = some (.int x v) := by rfl) : ∃ t, mg x = some (.int v t) := by
  obtain ⟨h', X, G⟩ := H.at_
  exact He.int_ok X G (H.says.fact i h)
theorem HD.gstr (H : HD fa fn ex K mg) {v : Str} (i : Nat) (h : fa[i]? = some (.str x v) := by rfl) : ∃ t, mg x = some (.str v t) := by
  obtain ⟨h', X, G⟩ := H.at_
  exact He.str_ok X G (H.says.fact i h)
theorem HD.cls (H : HD fa fn ex K mg) (i : Nat) (h : fa[i]? = some (.cls x) := by rfl) : Cls K (He.ga K x) := He.cls_ok (H.says.fact i h)
theorem HD.noat (H : HD fa fn ex K mg) (i : Nat) (h : fa[i]? = some (.noat x f) := by rfl) : NoAttr K (He.ga K x) f := He.noat_ok (H.says.fact i h)
theorem HD.meth (H : HD fa fn ex K mg) (i : Nat) (h : fa[i]? = some (.meth x m) := by rfl) : Meth K (He.ga K x) m (He.ma K (He.ga K x) m) := He.meth_ok (H.says.fact i h)
theorem HD.mkr (H : HD fa fn ex K mg) (i : Nat) (h : fa[i]? = some (.mkr x) := by rfl) : Mk K (He.ga K x) (He.ma K (He.ga K x) "__init__") := He.mkr_ok (H.says.fact i h)
theorem HD.def_ (H : HD fa fn ex K mg) (i : Nat) {d : He.DefD} (h : fn[i]? = some d := by rfl) : ∃ fd, FunD K d.name d.qual d.params d.body d.scope (d.dvs K) (d.kws K) (He.fAd K d.at_) fd := H.says.def_ i h
end
/-! ### promises out of derivations -/
section
variable {P : Program} {w0 : World} {K : PySem.W.Frag} {mg : Str → Option Value} {base : Heap} {x qual c m : Str} {params : Arguments} {body : List Stmt} {scope : Scope} {f : Addr} {fd : FuncData} {N ps : List Str} {k : Nat} {C : Ct} {w : WS}
abbrev BodyOk (P : Program) (w0 : World) (K : PySem.W.Frag) (mg : Str → Option Value) (base : Heap) (N : List Str) (qual : Str) (scope : Scope) (f : Addr) (body : List Stmt) (k : Nat) (w : WS) : Prop :=
  ∀ (cdv : Value) (A : Around) (outer : List Env) (s : Shared) (H : Hp) (E : XK), Room k (A.deeper (envOfC qual scope s.heap.objs.size f cdv)) → PSs (cxOf CX0 P w0 K mg base N qual scope f cdv A outer s H E).nox body (lS K w)
theorem cal_mk (F : FunD K x qual params body scope [] [] (He.ga K x) fd) (S : FnScope N ps scope) (hbody : BodyOk P w0 K mg base N qual scope (He.ga K x) body k w) (hpure : PureOk N ps C w) (hm : mg x = some (.ref (He.ga K x)))
    (hb : ∀ (kV doc pm : Value) (an : Option Addr) (cdv ct : Value) (us : List Value), us.length = ps.length → bindArgs (PySem.W.fnOf x qual params body scope .none kV doc pm an cdv ct) ⟨us, []⟩ = pure (ps.zip us)) : Cal P w0 K mg base (k + 1) x C [] :=
  ⟨⟨_, _, _, [], [], fn_okC F S hbody hpure, hm, F.kp, F.bindsN hb, .nil, fun _ _ => rfl⟩⟩
theorem calK_mk (n : Nat) (ks : List Str) (F : FunD K x qual params body scope [] [] (He.ga K x) fd) (S : FnScope N ps scope) (hbody : BodyOk P w0 K mg base N qual scope (He.ga K x) body k w) (hpure : PureOk N ps C w) (hm : mg x = some (.ref (He.ga K x)))
    (hb : ∀ (kV doc pm : Value) (an : Option Addr) (cdv ct : Value) (us ws : List Value), us.length = n → ws.length = ks.length → bindArgs (PySem.W.fnOf x qual params body scope .none kV doc pm an cdv ct) ⟨us, ks.zip ws⟩ = pure (ps.zip (us ++ ws))) :
    CalK P w0 K mg base (k + 1) x C n ks (fun ms zs => ms ++ zs) :=
  ⟨⟨_, _, _, _, _, fn_okC F S hbody hpure, hm, F.kp, kbN F n ks hb, fun _ _ _ _ _ _ r1 r2 => r1.append r2⟩⟩
theorem calM_mk (F : FunD K m qual params body scope [] [] (He.ma K (He.ga K c) m) fd) (S : FnScope N ps scope) (hbody : BodyOk P w0 K mg base N qual scope (He.ma K (He.ga K c) m) body k w) (hpure : PureOk N ps C w) (hc : Cls K (He.ga K c)) (hm : Meth K (He.ga K c) m (He.ma K (He.ga K c) m))
    (hb : ∀ (kV doc pm : Value) (an : Option Addr) (cdv ct : Value) (us : List Value), us.length = ps.length → bindArgs (PySem.W.fnOf m qual params body scope .none kV doc pm an cdv ct) ⟨us, []⟩ = pure (ps.zip us)) : CalM P w0 K mg base (k + 1) c m C [] :=
  ⟨⟨_, _, _, [], [], fn_okC F S hbody hpure, hc, hm, F.bindsN hb, .nil, fun _ _ => rfl⟩⟩
theorem calMK_mk (n : Nat) (ks : List Str) (F : FunD K m qual params body scope [] [] (He.ma K (He.ga K c) m) fd) (S : FnScope N ps scope) (hbody : BodyOk P w0 K mg base N qual scope (He.ma K (He.ga K c) m) body k w) (hpure : PureOk N ps C w) (hc : Cls K (He.ga K c)) (hm : Meth K (He.ga K c) m (He.ma K (He.ga K c) m))
    (hb : ∀ (kV doc pm : Value) (an : Option Addr) (cdv ct : Value) (us ws : List Value), us.length = n + 1 → ws.length = ks.length → bindArgs (PySem.W.fnOf m qual params body scope .none kV doc pm an cdv ct) ⟨us, ks.zip ws⟩ = pure (ps.zip (us ++ ws))) :
    CalMK P w0 K mg base (k + 1) c m C n ks (fun ms zs => ms ++ zs) :=
  ⟨⟨_, _, _, _, _, fn_okC F S hbody hpure, hc, hm, kbN F (n + 1) ks hb, fun _ _ _ _ _ _ r1 r2 => r1.append r2⟩⟩
theorem calC_mk (F : FunD K "__init__" qual params body scope [] [] (He.ma K (He.ga K c) "__init__") fd) (S : FnScope N ps scope) (hbody : BodyOk P w0 K mg base N qual scope (He.ma K (He.ga K c) "__init__") body k w) (hpure : PureOk N ps C w) (hg : mg c = some (.ref (He.ga K c))) (hm : Mk K (He.ga K c) (He.ma K (He.ga K c) "__init__"))
    (hb : ∀ (kV doc pm : Value) (an : Option Addr) (cdv ct : Value) (us : List Value), us.length = ps.length → bindArgs (PySem.W.fnOf "__init__" qual params body scope .none kV doc pm an cdv ct) ⟨us, []⟩ = pure (ps.zip us)) : CalC P w0 K mg base (k + 1) c C [] :=
  ⟨⟨_, _, _, [], [], fn_okC F S hbody hpure, hg, hm, F.bindsN hb, .nil, fun _ _ => rfl⟩⟩
/-- what a local may hold -/
theorem held_mk (F : FunD K x qual params body scope [] [] (He.ga K x) fd) (S : FnScope N ps scope) (hbody : BodyOk P w0 K mg base N qual scope (He.ga K x) body k w) (hpure : PureOk N ps C w)
    (hb : ∀ (kV doc pm : Value) (an : Option Addr) (cdv ct : Value) (us : List Value), us.length = ps.length → bindArgs (PySem.W.fnOf x qual params body scope .none kV doc pm an cdv ct) ⟨us, []⟩ = pure (ps.zip us)) : Held P w0 K mg base (k + 1) (He.ga K x) (spC K C) :=
  ⟨⟨_, _, fn_okC F S hbody hpure, F.kp, F.bindsN hb⟩⟩
theorem held_cal (h : Held P w0 K mg base k (He.ga K x) (spC K C)) (hm : mg x = some (.ref (He.ga K x))) : Cal P w0 K mg base k x C [] := by
  obtain ⟨fd, ps, F, hk, hb⟩ := h.ex
  exact ⟨⟨_, fd, ps, [], [], F, hm, hk, hb, .nil, fun _ _ => rfl⟩⟩
theorem FnOk.up {CX : CXT} {j k : Nat} {sp : Sp} (h : FnOk P w0 K mg base CX j f fd ps sp) (hjk : j ≤ k) : FnOk P w0 K mg base CX k f fd ps sp := ⟨h.len, fun A outer s H args us vs Q E r => h.run A outer s H args us vs Q E (r.mono hjk)⟩
theorem Held.up {j k : Nat} {sp : Sp} (h : Held P w0 K mg base j f sp) (hjk : j ≤ k) : Held P w0 K mg base k f sp := by
  obtain ⟨fd, ps, F, hk, hb⟩ := h.ex
  exact ⟨⟨fd, ps, FnOk.up F hjk, hk, hb⟩⟩
end
end PP

/-! Mrl11: cells laid last are forgotten; list comprehensions. -/
namespace PP
open PySem PySem.Spec PyProof.Rows L2
section
variable {K : PySem.W.Frag} {F F' : Hp} {g : G} {ρ ρ0 : List Addr} {H H' : Hp} {st : Sto} {n : Nat} {σ : L2.St} {ds : Sl}
theorem take_get {α : Type} {l : List α} {i n : Nat} {a : α} (h : l[i]? = some a) (hi : i < n) : (l.take n)[i]? = some a := by
  rw [List.getElem?_take, if_pos hi]
  exact h
theorem repM.cut (e : Ex F F') : ∀ {m : M} {v : V}, clM n m = true → repM K F ρ m v → repM K F' (ρ.take n) m v
  | .dat d, v, _, h => rep.mono e d v h
  | .ref i, v, hc, ⟨a, h1, h2⟩ => ⟨a, take_get h1 (of_decide_eq_true hc), h2⟩
theorem repMs.cut (e : Ex F F') : ∀ {m : List M} {v : List V}, m.all (clM n) = true → repMs K F ρ m v → repMs K F' (ρ.take n) m v
  | [], _, _, h => h
  | m :: ms, _, hc, ⟨v, ws, h1, h2, h3⟩ => by
    obtain ⟨c1, c2⟩ := Bool.and_eq_true_iff.mp (show (clM n m && ms.all (clM n)) = true from hc)
    exact ⟨v, ws, h1, repM.cut e c1 h2, repMs.cut e c2 h3⟩
theorem repF.cut (e : Ex F F') : ∀ {m : List (Str × M)} {v : List (Str × V)}, (m.all fun p => clM n p.2) = true → repF K F ρ m v → repF K F' (ρ.take n) m v
  | [], _, _, h => h
  | (x, m) :: ms, _, hc, ⟨v, ws, h1, h2, h3⟩ => by
    obtain ⟨c1, c2⟩ := Bool.and_eq_true_iff.mp (show (clM n m && ms.all fun p => clM n p.2) = true from hc)
    exact ⟨v, ws, h1, repM.cut e c1 h2, repF.cut e c2 h3⟩
theorem repR.cut (e : Ex F F') : ∀ {m : List (Key × M)} {v : List (Key × V)}, (m.all fun p => clM n p.2) = true → repR K F ρ m v → repR K F' (ρ.take n) m v
  | [], _, _, h => h
  | (x, m) :: ms, _, hc, ⟨v, ws, h1, h2, h3⟩ => by
    obtain ⟨c1, c2⟩ := Bool.and_eq_true_iff.mp (show (clM n m && ms.all fun p => clM n p.2) = true from hc)
    exact ⟨v, ws, h1, repM.cut e c1 h2, repR.cut e c2 h3⟩
theorem cellOk.cut {a : Addr} (e : Ex F F') : ∀ {c : Cell}, clC n c = true → cellOk K F ρ H a c → cellOk K F' (ρ.take n) H a c
  | .lst ds, _, ⟨vs, h1, h2⟩ => ⟨vs, h1, reps.mono e ds vs h2⟩
  | .lsm ms, hc, ⟨vs, h1, h2⟩ => ⟨vs, h1, repMs.cut e hc h2⟩
  | .dic kvs, _, ⟨ks, r, q⟩ => ⟨ks, r, repK.mono e kvs ks q⟩
  | .dit kvs, _, ⟨ks, r, q⟩ => ⟨ks, r, repT.mono e kvs ks q⟩
  | .rcd kvs, hc, ⟨vs, h1, h2⟩ => ⟨vs, h1, repR.cut e hc h2⟩
  | .obj c fs, hc, ⟨dx, vs, h1, h2⟩ => ⟨dx, vs, h1, repF.cut e hc h2⟩
  | .frz d, _, h => rep.mono e d _ h
theorem lives_take {a : Addr} (h : a ∈ lives (ρ.take n) (st.take n)) : a ∈ lives ρ st := by
  obtain ⟨i, c, h1, h2, h3⟩ := mem_lives.mp h
  rw [List.getElem?_take] at h1 h2
  split at h1
  · rename_i hi
    rw [if_pos hi] at h2
    exact mem_lives.mpr ⟨i, c, h1, h2, h3⟩
  · cases h1
theorem fr_take : Ex (fr g ρ st H) (fr g (ρ.take n) (st.take n) H) := mask_ex (fun a h _ q => by
  rcases List.mem_append.mp q with q | q
  · exact h (List.mem_append_left _ q)
  · exact h (List.mem_append_right _ (lives_take q))) fun _ _ _ h => h
theorem repMs.cl : ∀ {m : List M} {v : List V}, repMs K F ρ m v → m.all (clM ρ.length) = true
  | [], _, _ => rfl
  | .dat d :: ms, _, ⟨v, ws, h1, h2, h3⟩ => by
    rw [List.all_cons, repMs.cl h3]
    rfl
  | .ref i :: ms, _, ⟨v, ws, h1, ⟨a, h2, _⟩, h3⟩ => by
    rw [List.all_cons, repMs.cl h3, Bool.and_true]
    exact decide_eq_true (List.getElem?_eq_some_iff.mp h2).1
theorem repF.cl : ∀ {m : List (Str × M)} {v : List (Str × V)}, repF K F ρ m v → (m.all fun p => clM ρ.length p.2) = true
  | [], _, _ => rfl
  | (_, .dat d) :: ms, _, ⟨v, ws, h1, h2, h3⟩ => by
    rw [List.all_cons, repF.cl h3]
    rfl
  | (_, .ref i) :: ms, _, ⟨v, ws, h1, ⟨a, h2, _⟩, h3⟩ => by
    rw [List.all_cons, repF.cl h3, Bool.and_true]
    exact decide_eq_true (List.getElem?_eq_some_iff.mp h2).1
theorem repR.cl : ∀ {m : List (Key × M)} {v : List (Key × V)}, repR K F ρ m v → (m.all fun p => clM ρ.length p.2) = true
  | [], _, _ => rfl
  | (_, .dat d) :: ms, _, ⟨v, ws, h1, h2, h3⟩ => by
    rw [List.all_cons, repR.cl h3]
    rfl
  | (_, .ref i) :: ms, _, ⟨v, ws, h1, ⟨a, h2, _⟩, h3⟩ => by
    rw [List.all_cons, repR.cl h3, Bool.and_true]
    exact decide_eq_true (List.getElem?_eq_some_iff.mp h2).1
theorem cellOk.cl {a : Addr} : ∀ {c : Cell}, cellOk K F ρ H a c → clC ρ.length c = true
  | .lst ds, _ => rfl
  | .lsm ms, ⟨vs, h1, h2⟩ => repMs.cl h2
  | .dic kvs, _ => rfl
  | .dit kvs, _ => rfl
  | .rcd kvs, ⟨vs, h1, h2⟩ => repR.cl h2
  | .obj c fs, ⟨dx, vs, h1, h2⟩ => repF.cl h2
  | .frz d, _ => rfl
theorem clM.mono {n m : Nat} (h : n ≤ m) : ∀ {x : M}, clM n x = true → clM m x = true
  | .dat _, _ => rfl
  | .ref i, q => decide_eq_true (Nat.lt_of_lt_of_le (of_decide_eq_true q) h)
theorem clC.mono {n m : Nat} (h : n ≤ m) : ∀ {c : Cell}, clC n c = true → clC m c = true
  | .lst ds, _ => rfl
  | .lsm ms, q => List.all_eq_true.mpr fun x hx => clM.mono h (List.all_eq_true.mp q x hx)
  | .dic kvs, _ => rfl
  | .dit kvs, _ => rfl
  | .rcd kvs, q => List.all_eq_true.mpr fun x hx => clM.mono h (List.all_eq_true.mp q x hx)
  | .obj c fs, q => List.all_eq_true.mpr fun x hx => clM.mono h (List.all_eq_true.mp q x hx)
  | .frz d, _ => rfl
theorem Core.cut {F0 : Hp} {st0 : Sto} (R0 : Core K g ρ0 H' st0) (R : Core K (g.now F0 ρ0) ρ H st) (hk : Keeps st0 n st) : Core K (g.now F0 ρ0) (ρ.take n) H (st.take n) := by
  obtain ⟨hn, hc⟩ := hk
  rw [← R0.len] at hn
  have hp : ρ0 <+: ρ := R.pre
  have hp2 : ρ0 <+: ρ.take n := by
    obtain ⟨t, rfl⟩ := hp
    rw [List.take_append]
    rw [List.take_of_length_le hn]
    exact List.prefix_append _ _
  have hs : ∀ {a : Addr}, a ∈ ρ.take n → a ∈ ρ := fun h => List.mem_of_mem_take h
  refine ⟨by rw [List.length_take, List.length_take, R.len], R.nd.sublist (List.take_sublist _ _), fun a h => R.zd a (hs h), R.zh, fun i a c h1 h2 => ?_, R.keep, fun a h => R.new a (hs h), R.ext.trans fr_take, hp2, fun a h => R.some_ a (hs h), fun a h => hp2.subset (R0.r0 a h)⟩
  rw [List.getElem?_take] at h1 h2
  split at h1
  · rename_i hi
    rw [if_pos hi] at h2
    refine cellOk.cut fr_take ?_ (R.cells i a c h1 h2)
    rcases hc i c hi h2 with q | q
    · exact q
    · have hi0 : i < ρ0.length := by rw [R0.len]; exact (List.getElem?_eq_some_iff.mp q).1
      exact clC.mono hn (cellOk.cl (R0.cells i _ c (List.getElem?_eq_getElem hi0) q))
  · cases h1
theorem Slots.cut (h : Slots K (fr g ρ st H) ρ ds σ) : Slots K (fr g (ρ.take n) (st.take n) H) (ρ.take n) (cutS n ds) σ := ⟨by rw [← h.1]; simp [cutS], fun i m hm => by
  unfold cutS at hm
  rw [List.getElem?_map, Option.map_eq_some_iff] at hm
  obtain ⟨o, h1, h2⟩ := hm
  cases o with
  | none => cases h2
  | some m' =>
    simp only [cutO] at h2
    split at h2
    · rename_i hc
      cases h2
      obtain ⟨v, q1, q2⟩ := h.2 i m h1
      exact ⟨v, q1, repM.cut fr_take hc q2⟩
    · cases h2⟩
end
section
variable {X : Cx} {s : WS} {b : List Stmt} {c : Stmt}
theorem cut_go {D : Ends} {σ : L2.St} {H : Hp} (h : lS X.K (wsCut s) D σ H) : lS X.K s D σ H := by
  obtain ⟨g, ρ, ds, st, W, R, hw, h1, h2, h3, h4⟩ := h
  have hl := R.len
  refine ⟨_, ρ, ds, st, _, R.now, hw, ?_, ?_, ?_, ?_⟩
  · rintro ds' st' σ' H' ρ' (q | ⟨n, hk, q⟩) R'
    · exact h1 _ _ _ _ _ q (R'.back R.ext R.pre)
    · have C' := Core.cut (n := n) R.toCore R'.toCore hk
      exact h1 _ _ _ _ _ q (Rel.back ⟨C', R'.slots.cut⟩ R.ext R.pre)
  · rintro ds' st' σ' H' ρ' (q | ⟨n, hk, q⟩) R'
    · exact h2 _ _ _ _ _ q (R'.back R.ext R.pre)
    · have C' := Core.cut (n := n) R.toCore R'.toCore hk
      exact h2 _ _ _ _ _ q (Rel.back ⟨C', R'.slots.cut⟩ R.ext R.pre)
  · rintro ds' st' σ' H' ρ' (q | ⟨n, hk, q⟩) R'
    · exact h3 _ _ _ _ _ q (R'.back R.ext R.pre)
    · have C' := Core.cut (n := n) R.toCore R'.toCore hk
      exact h3 _ _ _ _ _ q (Rel.back ⟨C', R'.slots.cut⟩ R.ext R.pre)
  · rintro m st' v H' ρ' (q | ⟨n, hk, hm, q⟩) C' r'
    · exact h4 _ _ _ _ _ q (C'.back R.ext R.pre) r'
    · exact h4 _ _ _ _ _ q (Core.back (Core.cut (n := n) R.toCore C' hk) R.ext R.pre) (repM.cut fr_take hm r')
theorem as_cut (h : PSs X b (lS X.K s)) : PSs X b (lS X.K (wsCut s)) := PSs.of h fun D σ H => cut_go
end
/-! ### list comprehensions -/
section
variable {K : PySem.W.Frag} {F : Hp} {ρ : List Addr}
theorem wipe_get (σ : L2.St) (i : Nat) : ∀ vs : List Nat, (wipe σ vs)[i]? = if i ∈ vs then (σ[i]?).map (fun _ => none) else σ[i]?
  | [] => by simp [wipe]
  | v :: vs => by
    show ((wipe σ vs).set v none)[i]? = _
    rw [List.getElem?_set, wipe_length, wipe_get σ i vs]
    by_cases h : v = i
    · subst h
      rw [if_pos rfl, if_pos List.mem_cons_self]
      by_cases hl : v < σ.length
      · rw [if_pos hl, List.getElem?_eq_getElem hl]
        rfl
      · rw [if_neg hl, List.getElem?_eq_none (by omega)]
        rfl
    · rw [if_neg h]
      have e : i ∈ v :: vs ↔ i ∈ vs := ⟨fun q => (List.mem_cons.mp q).resolve_left (fun z => h z.symm), List.mem_cons_of_mem _⟩
      by_cases hm : i ∈ vs
      · rw [if_pos hm, if_pos (e.mpr hm)]
      · rw [if_neg hm, if_neg (fun q => hm (e.mp q))]
theorem wipe_wipe (σ : L2.St) (vs : List Nat) : wipe (wipe σ vs) vs = wipe σ vs := by
  apply List.ext_getElem?
  intro i
  rw [wipe_get, wipe_get]
  split
  · cases σ[i]? <;> rfl
  · rfl
theorem wipe_set (σ : L2.St) {i : Nat} {o : Option V} {vs : List Nat} (h : i ∈ vs) : wipe (σ.set i o) vs = wipe σ vs := by
  apply List.ext_getElem?
  intro j
  rw [wipe_get, wipe_get]
  by_cases hj : j ∈ vs
  · rw [if_pos hj, if_pos hj, List.getElem?_set]
    by_cases e : i = j
    · subst e
      rw [if_pos rfl]
      by_cases hl : i < σ.length
      · rw [if_pos hl, List.getElem?_eq_getElem hl]
        rfl
      · rw [if_neg hl, List.getElem?_eq_none (by omega)]
    · rw [if_neg e]
  · rw [if_neg hj, if_neg hj, List.getElem?_set_ne (fun e => hj (by subst e; exact h))]
theorem Slots.none {ds : Sl} {σ : L2.St} (h : Slots K F ρ ds σ) (v : Nat) : Slots K F ρ (ds.set v none) (σ.set v none) := ⟨by simp [h.1], fun i m hm => by
  rw [List.getElem?_set] at hm
  split at hm
  · split at hm <;> cases hm
  · rename_i hne
    obtain ⟨x, h1, h2⟩ := h.2 i m hm
    exact ⟨x, by rw [List.getElem?_set_ne hne]; exact h1, h2⟩⟩
theorem Slots.wipe {ds : Sl} {σ : L2.St} (h : Slots K F ρ ds σ) : ∀ vs, Slots K F ρ (wipeD ds vs) (L2.wipe σ vs)
  | [] => h
  | v :: vs => (Slots.wipe h vs).none v
/-- a block's target of names -/
def RawG (K : PySem.W.Frag) (n : Nat) (vs : List Nat) (gw : WG) (raw : TG) : Prop := ∀ (g : G) (ρ : List Addr) (σ : L2.St) (H : Hp) (ds : Sl) (st : Sto) (m : M) (v : V) (P : Sl → Sto → Prop) (Q : L2.St → Hp → Prop), ds.length = n → Rel K g ρ σ H ds st → repM K (fr g ρ st H) ρ m v → gw m ds st P →
  (∀ ds' σ', P ds' st → L2.wipe σ' vs = L2.wipe σ vs → Rel K g ρ σ' H ds' st → Q σ' H) → raw v σ H Q
theorem raw_name {n i : Nat} {vs : List Nat} (hi : i ∈ vs := by decide) (hn : Nat.blt i n = true := by rfl) : RawG K n vs (wgName i) (gName i) := fun g ρ σ H ds st m v P Q hl R r q k => k _ _ q (wipe_set σ hi) ⟨R.toCore, R.slots.set (by rw [← R.slots.1, hl]; exact Nat.le_of_ble_eq_true hn) r⟩
def RawGs (K : PySem.W.Frag) (n : Nat) (vs : List Nat) (gw : WGs) (raw : TGs) : Prop := ∀ (g : G) (ρ : List Addr) (σ : L2.St) (H : Hp) (ds : Sl) (st : Sto) (es : List D) (xs : List V) (P : Sl → Sto → Prop) (Q : L2.St → Hp → Prop), ds.length = n → Rel K g ρ σ H ds st → reps K (fr g ρ st H) es xs → gw (es.map M.dat) ds st P →
  (∀ ds' σ', P ds' st → L2.wipe σ' vs = L2.wipe σ vs → Rel K g ρ σ' H ds' st → Q σ' H) → raw xs σ H Q
theorem raws_nil {n : Nat} {vs : List Nat} : RawGs K n vs wgsNil gNil := fun g ρ σ H ds st es xs P Q hl R r q k => by
  obtain ⟨e, q⟩ := q
  cases es with
  | nil => exact ⟨r, k _ _ q rfl R⟩
  | cons _ _ => cases e
theorem raws_cons {n i : Nat} {vs : List Nat} {gs : WGs} {raws : TGs} (h : RawGs K n vs gs raws) (hi : i ∈ vs := by decide) (hn : Nat.blt i n = true := by rfl) : RawGs K n vs (wgsCons (wgName i) gs) (gCons (gName i) raws) := fun g ρ σ H ds st es xs P Q hl R r q k => by
  cases es with
  | nil => exact q.elim
  | cons d es =>
    obtain ⟨v, ws, rfl, h1, h2⟩ := r
    refine ⟨v, ws, rfl, ?_⟩
    have R' : Rel K g ρ (σ.set i (some v)) H (ds.set i (some (.dat d))) st := ⟨R.toCore, R.slots.set (by rw [← R.slots.1, hl]; exact Nat.le_of_ble_eq_true hn) h1⟩
    exact h g ρ _ H _ st es ws P Q (by rw [List.length_set]; exact hl) R' h2 q fun ds' σ' p w R2 => k ds' σ' p (w.trans (wipe_set σ hi)) R2
theorem raw_tup {n l : Nat} {vs : List Nat} {gs : WGs} {raws : TGs} (h : RawGs K n vs gs raws) : RawG K n vs (wgTup l gs) (gTup K l raws) := fun g ρ σ H ds st m v P Q hl R r q k => by
  obtain ⟨es, hm, he, q⟩ := q
  obtain ⟨a, xs, rfl, h1, h2⟩ := R.toCore.tupOf r hm
  exact ⟨a, xs, rfl, h1, by rw [← reps.length h2]; exact he, h g ρ σ H ds st es xs P Q hl R h2 q k⟩
end
theorem PTs.of {X : Cx} {ifs : List Expr} {t t' : TT} (h : PTs X ifs t) (i : ∀ σ H Q, t' σ H Q → t σ H Q) : PTs X ifs t' := ⟨fun pins s σ H Q I q => h.run pins s σ H Q I (i σ H Q q)⟩
theorem ats_nil {X : Cx} : PTs X [] (lT X.K wtT) := by
  refine PTs.of pts_nil ?_
  rintro σ H Q ⟨g, ρ, ds, st, P, R, hw, hq⟩
  exact hq _ _ _ _ hw R
theorem ats_one {X : Cx} {c : Expr} {t : WT} (h : PT X c (lT X.K t)) : PTs X [c] (lT X.K t) := pts_one h
theorem wipeD_length (ds : Sl) : ∀ vs, (wipeD ds vs).length = ds.length
  | [] => rfl
  | v :: vs => by
    show ((wipeD ds vs).set v none).length = _
    rw [List.length_set, wipeD_length ds vs]
section
variable {X : Cx} {elt tg iter : Expr} {ifs : List Expr} {scope : Scope} {own : List (Str × Nat)} {pos : Pos} {wi : WI} {gw : WG} {raw : TG} {t : WT} {we : WE}
theorem lc_go {n : Nat} {vs : List Nat} (hr : RawG X.K n vs gw raw) {σ : L2.St} {H : Hp} {Q : VK} (hn : σ.length = n) (h : lE X.K (wLc wi gw t we vs) σ H Q) : tLc (lI X.K wi) raw (lT X.K t) (lE X.K we) vs σ H Q := by
  obtain ⟨g, ρ, ds, st, P, R, hw, hq⟩ := h
  refine ⟨g, ρ, ds, st, _, R, hw, fun xs stab st1 H1 ρ1 J q R1 GJ => ?_⟩
  obtain ⟨I, i0, turn, done⟩ := q
  intro D hD
  have e1 := R1.ext
  have p1 := R1.pre
  have hlen1 := R1.len
  have hdl : ds.length = n := by rw [R1.slots.1]; exact hn
  obtain ⟨C2, x2⟩ := R1.now.toCore.alloc (o := .lst []) (c := .lst []) hD rfl fun F' ρ' e _ => ⟨[], upd_same, rfl⟩
  have hat : (ρ1 ++ [D])[st1.length]? = some D := by rw [← hlen1]; simp
  have slots : ∀ {ρ' : List Addr} {H' : Hp} {st' : Sto}, Core X.K (g.now (fr g ρ1 st1 H1) ρ1) ρ' H' st' → Slots X.K (fr (g.now (fr g ρ1 st1 H1) ρ1) ρ' st' H') ρ' ds σ := fun C => R1.slots.mono C.ext C.pre
  refine ⟨fun i m H' => m = xs.length - i ∧ i ≤ xs.length ∧ ∃ ρ' st', Core X.K (g.now (fr g ρ1 st1 H1) ρ1) ρ' H' st' ∧ ρ'[st1.length]? = some D ∧ I (xs.take i) st', ⟨xs.length, by simp, Nat.zero_le _, _, _, C2, hat, i0⟩, ?_⟩
  rintro i m H' ⟨rfl, hi, ρ', st', C', hd', i'⟩
  by_cases hlt : i < xs.length
  · have ex : xs = xs.take i ++ xs[i] :: xs.drop (i + 1) := by
      rw [← List.drop_eq_getElem_cons hlt, List.take_append_drop]
    have et : xs.take i ++ [xs[i]] = xs.take (i + 1) := by rw [List.take_add_one, List.getElem?_eq_getElem hlt]; rfl
    obtain ⟨hst, ht⟩ := turn _ _ _ st' ex i'
    refine .inr ⟨GJ.go i ρ' H' st' hlt C' hst, fun H2 => ∃ ρ2 st2, Core X.K (g.now (fr g ρ1 st1 H1) ρ1) ρ2 H2 st2 ∧ ρ2[st1.length]? = some D ∧ I (xs.take (i + 1)) st2, ?_, ?_⟩
    · rintro H2 ⟨ρ2, st2, C2, hd2, i2⟩
      exact ⟨_, by omega, rfl, hlt, ρ2, st2, C2, hd2, i2⟩
    · intro v H2 y
      obtain ⟨hk, rv⟩ := GJ.yld i ρ' H' st' _ v H2 (List.getElem?_eq_getElem hlt) C' hst y
      have R3 : Rel X.K (g.now (fr g ρ1 st1 H1) ρ1) ρ' (L2.wipe σ vs) H2 (wipeD ds vs) st' := ⟨C'.grow hk, (slots (C'.grow hk)).wipe vs⟩
      refine hr _ ρ' _ H2 _ st' _ v _ _ (by rw [wipeD_length]; exact hdl) R3 rv ht fun ds2 σ2 q2 w2 R4 => ⟨w2.trans (wipe_wipe σ vs), ?_⟩
      refine ⟨_, ρ', ds2, st', _, R4.now, q2, fun b st3 H3 ρ3 q3 R5 => ?_⟩
      have d3 : ρ3[st1.length]? = some D := pre_get R5.pre hd'
      cases b with
      | false =>
        rw [if_neg Bool.false_ne_true] at q3
        show if false = true then _ else _
        rw [if_neg Bool.false_ne_true]
        rw [et] at q3
        exact ⟨ρ3, st3, R5.toCore.back R4.ext R4.pre, d3, q3⟩
      | true =>
        rw [if_pos rfl] at q3
        show if true = true then _ else _
        rw [if_pos rfl]
        refine ⟨_, ρ3, ds2, st3, _, R5.now, q3, fun m st4 u H4 ρ4 q4 R6 r6 => ?_⟩
        obtain ⟨d, acc, rfl, ha, hl, hI⟩ := q4
        have d4 : ρ4[st1.length]? = some D := pre_get R6.pre d3
        have R7 := (R6.back R5.ext R5.pre).back R4.ext R4.pre
        obtain ⟨ws, h5, h6⟩ := R7.cells _ _ _ d4 ha
        obtain ⟨R8, _⟩ := setL_ok R7 d4 ha rfl (reps.append h6 (reps.one r6))
        rw [et] at hI
        exact ⟨ws, h5, by rw [line_eq, ← reps.length h6]; exact hl, ρ4, _, R8.toCore, d4, hI⟩
  · have e : i = xs.length := by omega
    subst e
    rw [List.take_length] at i'
    obtain ⟨hst, hp⟩ := done st' i'
    exact .inl ⟨GJ.stop ρ' H' st' C' hst, hq _ _ _ _ ρ' hp ⟨C'.back e1 p1, R1.slots.mono C'.ext C'.pre⟩ ⟨D, hd', rfl⟩⟩
theorem ae_lc (hc : X.calm = true) (hN : X.N.Nodup) (own : List (Str × Nat)) (hi : PI X tg iter (lI X.K wi)) (hr : RawG X.K X.N.length (own.map (·.2)) gw raw)
    (hg : ∀ (s : Shared) (H : Hp) (C : Addr) (cl : List (Str × Addr)) (fp : List Addr), PG (X.blk s H scope (compEnvC scope cl C X.env) fp) tg raw) (ht : ∀ (s : Shared) (H : Hp) (C : Addr) (cl : List (Str × Addr)) (fp : List Addr), PTs (X.blk s H scope (compEnvC scope cl C X.env) fp) ifs (lT X.K t))
    (he : ∀ (s : Shared) (H : Hp) (C : Addr) (cl : List (Str × Addr)) (fp : List Addr), PE (X.blk s H scope (compEnvC scope cl C X.env) fp) elt (lE X.K we)) (ok : blkC X.N X.env.scope scope own = true := by rfl) (hs : ∀ x, foldedSetIterable iter X.env x = pure x := by intro _; rfl) :
    PE X (.ListComp elt [⟨tg, iter, ifs, 0⟩] scope pos) (lE X.K (wLc wi gw t we (own.map (·.2)))) :=
  ⟨fun pins s σ H Q I q => (pe_lc hc hN hi (blkOk_by ok) hg ht he hs).run pins s σ H Q I (lc_go hr I.len q)⟩
end
end PP

/-! MachC: the machine as plain data; what its defs promise. -/
namespace PP
open PySem
def intL (l : List Int) : List D := l.map D.int
abbrev Nd := Int × Int × Int × Int
/-- the machine's state; stack and back: the top first -/
structure MS where
  img : List Int
  nums : List Int
  tab : List (Int × Int × Int × Int)
  at_ : Int
  stk : List Int
  sto : List (Int × Int)
  back : List Int
  place : Int
  out : List Int
  steps : Int
def nodeD (p : Int × Int × Int) : D := .tup [.int p.1, .int p.2.1, .int p.2.2]
def tabD (t : List (Int × Int × Int × Int)) : List (DK × D) := t.map fun p => (Sum.inl p.1, nodeD p.2)
def stoD (t : List (Int × Int)) : List (DK × D) := t.map fun p => (Sum.inl p.1, D.int p.2)
def flds (k : Nat) (a p n : Int) : List (Str × M) := [("image", .ref (k + 1)), ("numbers", .ref (k + 2)), ("table", .ref (k + 3)), ("at", .dat (.int a)), ("stack", .ref (k + 4)), ("store", .ref (k + 5)), ("back", .ref (k + 6)), ("place", .dat (.int p)), ("output", .ref (k + 7)), ("steps", .dat (.int n))]
def cells (k : Nat) (s : MS) : Sto := [.obj "State" (flds k s.at_ s.place s.steps), .lst (intL s.img), .lst (intL s.nums), .dic (tabD s.tab), .lst (intL s.stk.reverse), .dic (stoD s.sto), .lst (intL s.back.reverse), .lst (intL s.out)]
def nodesOf : List Int → List Nd
  | a :: b :: c :: d :: r => (a, b, c, d) :: nodesOf r
  | _ => []
def tableOf (img : List Int) : List (Int × Int × Int × Int) := (nodesOf img).foldl (fun t p => putP t p.1 p.2) []
def MS.init (img nums : List Int) : MS := { img := img, nums := nums, tab := tableOf img, at_ := 0, stk := [], sto := [], back := [], place := 0, out := [], steps := 0 }
/-- how much room the lists take -/
def MS.sz (s : MS) : Nat := max (max s.stk.length s.sto.length) (max s.back.length s.out.length)
def MS.ok (n : Nat) (s : MS) : Prop := s.stk.length + n ≤ LINE ∧ s.sto.length + n ≤ LINE ∧ s.back.length + n ≤ LINE ∧ s.out.length + n ≤ LINE ∧ s.img.length ≤ LINE ∧ s.nums.length ≤ LINE ∧ 0 ≤ s.place
/-! the deeds -/
def tos (l : List Int) : Int := l.headD 0
def pull (s : MS) : MS := { s with stk := s.stk.tail }
def push (s : MS) (x : Int) : MS := { s with stk := x :: s.stk }
def dPush (s : MS) (a : Int) : MS := push s a
def bin2 (f : Int → Int → Int) (s : MS) : MS := push (pull (pull s)) (f (tos s.stk.tail) (tos s.stk))
def dPlus (s : MS) (_ : Int) : MS := bin2 (fun x y => x + y) s
def dMinus (s : MS) (_ : Int) : MS := bin2 (fun x y => x - y) s
def dDigit (s : MS) (_ : Int) : MS := bin2 (fun x y => 10 * x + y) s
def dLess (s : MS) (_ : Int) : MS := bin2 (fun x y => if x < y then 1 else 0) s
def dSame (s : MS) (_ : Int) : MS := bin2 (fun x y => if x = y then 1 else 0) s
def ldS (s : MS) (a : Int) : Int := (getP s.sto a).getD 0
def dLoad (s : MS) (_ : Int) : MS := push (pull s) (ldS s (tos s.stk))
def dKeep (s : MS) (_ : Int) : MS := { pull (pull s) with sto := putP s.sto (tos s.stk) (tos s.stk.tail) }
def dAssign (s : MS) (a : Int) : MS := { pull s with sto := putP s.sto a (tos s.stk) }
def dTake (s : MS) (_ : Int) : MS := if s.place < s.nums.length then { push s (s.nums[s.place.toNat]?.getD 0) with place := s.place + 1 } else push s (-1)
def dRewind (s : MS) (_ : Int) : MS := { s with place := 0 }
def dEmit (s : MS) (_ : Int) : MS := { pull s with out := s.out ++ [tos s.stk] }
def dCell (s : MS) (_ : Int) : MS := push (pull s) ((atP s.img (tos s.stk)).getD 0)
def dDrop (s : MS) (_ : Int) : MS := pull s
def dDouble (s : MS) (_ : Int) : MS := push (push (pull s) (tos s.stk)) (tos s.stk)
def dExchange (s : MS) (_ : Int) : MS := push (push (pull (pull s)) (tos s.stk)) (tos s.stk.tail)
def dTest (s : MS) (a : Int) : MS := if tos s.stk = 0 then { pull s with at_ := a } else pull s
def dCall (s : MS) (_ : Int) : MS := { pull s with back := s.at_ :: s.back, at_ := tos s.stk }
def dCallLow (s : MS) (_ : Int) : MS := if 1 ≤ tos s.stk ∧ tos s.stk ≤ 199 ∧ (getP s.tab (tos s.stk)).isSome then { pull s with back := s.at_ :: s.back, at_ := tos s.stk } else push (pull s) (tos s.stk)
def dReturn (s : MS) (_ : Int) : MS := match s.back with
  | [] => s
  | b :: r => { s with at_ := b, back := r }
def deeds : List (Int × Str × (MS → Int → MS)) := [(35, "_push", dPush), (43, "_plus", dPlus), (45, "_minus", dMinus), (42, "_digit", dDigit), (60, "_less", dLess), (126, "_same", dSame), (64, "_load", dLoad), (33, "_keep", dKeep), (61, "_assign", dAssign), (44, "_take", dTake), (94, "_rewind", dRewind), (46, "_emit", dEmit), (38, "_cell", dCell), (95, "_drop", dDrop),
  (34, "_double", dDouble), (92, "_exchange", dExchange), (63, "_test", dTest), (40, "_call", dCall), (36, "_call_low", dCallLow), (41, "_return", dReturn)]
def T_DEEDS : List (Int × D) := deeds.map fun p => (p.1, .glo p.2.1)
/-- what an operation does, the successor being taken already -/
def act (o a su : Int) (s : MS) : MS := match getP deeds o with
  | some p => p.2 s a
  | none => if 97 ≤ o ∧ o ≤ 122 then push s (ldS s o) else if 65 ≤ o ∧ o ≤ 90 then { s with back := su :: s.back, at_ := o } else s
def stepM (s : MS) : Option MS := match getP s.tab s.at_ with
  | none => none
  | some (o, a, su) => some (act o a su { s with at_ := su, steps := s.steps + 1 })
def advM : Nat → MS → Nat × MS
  | 0, s => (0, s)
  | n + 1, s => match stepM s with
    | none => (0, s)
    | some s' => ((advM n s').1 + 1, (advM n s').2)
def endedM (s : MS) : Bool := !(getP s.tab s.at_).isSome
/-! ### what the defs promise -/
def C_nodes_of : Ct := fun ms st Q => ∃ m img, ms = [m] ∧ listOf st m = some (intL img) ∧ img.length ≤ LINE ∧ Q (.dat (.lst ((nodesOf img).map fun p => D.tup [.int p.1, .int p.2.1, .int p.2.2.1, .int p.2.2.2]))) st
def C_table_of : Ct := fun ms st Q => ∃ m img, ms = [m] ∧ listOf st m = some (intL img) ∧ img.length ≤ LINE ∧ Q (.ref st.length) (st ++ [.dic (tabD (tableOf img))])
def C_State___init__ : Ct := fun ms st Q => ∃ st0 m1 m2 img nums, ms = [.ref st0.length, m1, m2] ∧ st = st0 ++ [.obj "State" []] ∧ listOf st0 m1 = some (intL img) ∧ listOf st0 m2 = some (intL nums) ∧ img.length ≤ LINE ∧ nums.length ≤ LINE ∧
  Q (.dat .non) (st0 ++ cells st0.length (MS.init img nums))
def C_State_pull : Ct := fun ms st Q => ∃ s, ms = [.ref 0] ∧ st = cells 0 s ∧ s.ok 0 ∧ Q (.dat (.int (tos s.stk))) (cells 0 (pull s))
def C_deed (f : MS → Int → MS) : Ct := fun ms st Q => ∃ s a, ms = [.ref 0, .dat (.int a)] ∧ st = cells 0 s ∧ s.ok 2 ∧ Q (.dat .non) (cells 0 (f s a))
def C_push := C_deed dPush
def C_plus := C_deed dPlus
def C_minus := C_deed dMinus
def C_digit := C_deed dDigit
def C_less := C_deed dLess
def C_same := C_deed dSame
def C_load := C_deed dLoad
def C_keep := C_deed dKeep
def C_assign := C_deed dAssign
def C_take := C_deed dTake
def C_rewind := C_deed dRewind
def C_emit := C_deed dEmit
def C_cell := C_deed dCell
def C_drop := C_deed dDrop
def C_double := C_deed dDouble
def C_exchange := C_deed dExchange
def C_test := C_deed dTest
def C_call := C_deed dCall
def C_call_low := C_deed dCallLow
def C_return := C_deed dReturn
def S_deeds (x : Str) : Option Ct := (getP (deeds.map (·.2)) x).map C_deed
theorem getP_mem {κ α : Type} [DecidableEq κ] {l : List (κ × α)} {k : κ} {v : α} (h : getP l k = some v) : (k, v) ∈ l := by
  unfold getP at h
  obtain ⟨p, h1, h2⟩ := Option.map_eq_some_iff.mp h
  have h3 : p.1 = k := of_decide_eq_true (List.find?_some (p := fun (kv : κ × α) => decide (kv.1 = k)) h1)
  have h4 := List.mem_of_find?_eq_some h1
  subst h2 h3
  exact h4
theorem S_deeds_all (Pr : Str → Ct → Prop) (h0 : Pr "_push" C_push) (h1 : Pr "_plus" C_plus) (h2 : Pr "_minus" C_minus) (h3 : Pr "_digit" C_digit) (h4 : Pr "_less" C_less) (h5 : Pr "_same" C_same) (h6 : Pr "_load" C_load) (h7 : Pr "_keep" C_keep) (h8 : Pr "_assign" C_assign) (h9 : Pr "_take" C_take) (h10 : Pr "_rewind" C_rewind) (h11 : Pr "_emit" C_emit) (h12 : Pr "_cell" C_cell) (h13 : Pr "_drop" C_drop) (h14 : Pr "_double" C_double) (h15 : Pr "_exchange" C_exchange) (h16 : Pr "_test" C_test) (h17 : Pr "_call" C_call) (h18 : Pr "_call_low" C_call_low) (h19 : Pr "_return" C_return) : ∀ y C, S_deeds y = some C → Pr y C := by
  intro y C h
  unfold S_deeds at h
  obtain ⟨f, q1, rfl⟩ := Option.map_eq_some_iff.mp h
  have q2 := getP_mem q1
  simp only [deeds, List.map_cons, List.map_nil, List.mem_cons, Prod.mk.injEq, List.not_mem_nil, or_false] at q2
  rcases q2 with ⟨rfl, rfl⟩ | ⟨rfl, rfl⟩ | ⟨rfl, rfl⟩ | ⟨rfl, rfl⟩ | ⟨rfl, rfl⟩ | ⟨rfl, rfl⟩ | ⟨rfl, rfl⟩ | ⟨rfl, rfl⟩ | ⟨rfl, rfl⟩ | ⟨rfl, rfl⟩ | ⟨rfl, rfl⟩ | ⟨rfl, rfl⟩ | ⟨rfl, rfl⟩ | ⟨rfl, rfl⟩ | ⟨rfl, rfl⟩ | ⟨rfl, rfl⟩ | ⟨rfl, rfl⟩ | ⟨rfl, rfl⟩ | ⟨rfl, rfl⟩ | ⟨rfl, rfl⟩
  · exact h0
  · exact h1
  · exact h2
  · exact h3
  · exact h4
  · exact h5
  · exact h6
  · exact h7
  · exact h8
  · exact h9
  · exact h10
  · exact h11
  · exact h12
  · exact h13
  · exact h14
  · exact h15
  · exact h16
  · exact h17
  · exact h18
  · exact h19
def C_State_has_ended : Ct := fun ms st Q => ∃ s, ms = [.ref 0] ∧ st = cells 0 s ∧ Q (.dat (.bl (endedM s))) st
def C_State_step : Ct := fun ms st Q => ∃ s, ms = [.ref 0] ∧ st = cells 0 s ∧ s.ok 2 ∧ match stepM s with
  | none => Q (.dat (.bl false)) st
  | some s' => Q (.dat (.bl true)) (cells 0 s')
def C_State_advance : Ct := fun ms st Q => ∃ (s : MS) (n : Nat), ms = [.ref 0, .dat (.int n)] ∧ st = cells 0 s ∧ s.ok (2 * n + 2) ∧ Q (.dat (.int (advM n s).1)) (cells 0 (advM n s).2)
def runM (img nums : List Int) (n : Nat) : Bool × List Int × Nat := (endedM (advM n (MS.init img nums)).2, (advM n (MS.init img nums)).2.out, (advM n (MS.init img nums)).1)
def C_run : Ct := fun ms st Q => ∃ (m1 m2 : M) (img nums : List Int) (n : Nat), ms = [m1, m2, .dat (.int n)] ∧ listOf st m1 = some (intL img) ∧ listOf st m2 = some (intL nums) ∧ img.length ≤ LINE ∧ nums.length ≤ LINE ∧ 2 * n + 2 ≤ LINE ∧
  Q (.dat (.tup [.bl (runM img nums n).1, .lst (intL (runM img nums n).2.1), .int (runM img nums n).2.2])) st
end PP

/-! C39: what the defs of law k39 promise. -/
namespace PP
open PySem
/-- the seed, node by node -/
def seedNd : List Nd := [
  (0, 44, 0, 1), (1, 61, 99, 2),
  (2, 35, 47, 3), (3, 99, 0, 4), (4, 60, 0, 5), (5, 63, 18, 6),
  (6, 99, 0, 7), (7, 35, 58, 8), (8, 60, 0, 9), (9, 63, 18, 10),
  (10, 114, 0, 11), (11, 99, 0, 12), (12, 35, 48, 13), (13, 45, 0, 14),
  (14, 42, 0, 15), (15, 61, 114, 16), (16, 35, 1, 17), (17, 61, 102, 0),
  (18, 102, 0, 19), (19, 63, 26, 20), (20, 114, 0, 21), (21, 46, 0, 22),
  (22, 35, 0, 23), (23, 34, 0, 24), (24, 61, 114, 25), (25, 61, 102, 26),
  (26, 99, 0, 27), (27, 35, 0, 28), (28, 60, 0, 29), (29, 63, 0, 50)]
def seedL : List Int := seedNd.flatMap fun p => [p.1, p.2.1, p.2.2.1, p.2.2.2]
def T_SEED : List D := intL seedL
def C_seed_image : Ct := fun ms st Q => ms = [] ∧ Q (.ref st.length) (st ++ [.lst (intL seedL)])
def C_law_number : Ct := fun ms st Q => ∃ i : Int, ms = [.dat (.int i)] ∧ ∀ j : Int, Q (.dat (.int j)) st
def C_law_draws : Ct := fun ms st Q => ∃ (m : M) (l : List Int), ms = [m] ∧ listOf st m = some (intL l) ∧ l.length ≤ 63 ∧ ∀ ds : List Int, ds.length ≤ 3780 → Q (.ref st.length) (st ++ [.lst (intL ds)])
def C_law_next : Ct := fun ms st Q => ∃ (i : Nat) (ds : List Int), ms = [.ref i] ∧ st[i]? = some (.lst (intL ds)) ∧ (ds = [] → Q (.dat (.int 0)) st) ∧ ∀ r d, ds = r ++ [d] → Q (.dat (.int d)) (st.set i (.lst (intL r)))
def C_law_code : Ct := fun ms st Q => ∃ i : Int, ms = [.dat (.int i)] ∧ ∀ j : Int, Q (.dat (.int j)) st
def C_law_codes : Ct := fun ms st Q => ∃ (i : Nat) (ds : List Int) (n : Nat), ms = [.ref i, .dat (.int n)] ∧ n ≤ 60 ∧ st[i]? = some (.lst (intL ds)) ∧ ∀ cs r : List Int, cs.length ≤ n → Q (.ref st.length) (st.set i (.lst (intL r)) ++ [.lst (intL cs)])
def readable : List Int → List Int
  | [] => []
  | c :: r => if c < 0 then [] else c :: readable r
def C_law_readable : Ct := fun ms st Q => ∃ (m : M) (l : List Int), ms = [m] ∧ listOf st m = some (intL l) ∧ l.length ≤ LINE ∧ Q (.ref st.length) (st ++ [.lst (intL (readable l))])
def C_law_is_integer : Ct := fun ms st Q => ∃ i : Int, ms = [.dat (.int i)] ∧ Q (.dat (.bl true)) st
def C_law_is_row : Ct := fun ms st Q => ∃ (m : M) (l : List Int), ms = [m] ∧ listOf st m = some (intL l) ∧ tyM st m = some "list" ∧ Q (.dat (.bl true)) st
def C_law_wrote : Ct := fun ms st Q => ∃ (m : M) (l : List Int) (n k : Int), ms = [.dat (.tup [.bl true, .lst (intL l), .int n]), m, .dat (.int k)] ∧ val st m = some (.lst (intL l)) ∧ 0 < n ∧ n ≤ k ∧ Q (.dat (.bl true)) st
/-- the numbers that the codes mean -/
def digitsM : List Int → Int → Bool → List Int
  | [], v, true => [v]
  | [], _, false => []
  | c :: r, v, f => if 48 ≤ c ∧ c ≤ 57 then digitsM r (10 * v + c - 48) true else if f then v :: digitsM r 0 false else digitsM r 0 false
def C_law_digits : Ct := fun ms st Q => ∃ (m : M) (l : List Int), ms = [m] ∧ listOf st m = some (intL l) ∧ l.length < LINE ∧ Q (.ref st.length) (st ++ [.lst (intL (digitsM l 0 false))])
def C_law : Ct := fun ms st Q => ∃ l : List Int, ms = [.dat (.scr (intL l))] ∧ st = [] ∧ l.length ≤ 63 ∧ ∀ st', Q (.dat (.bl true)) st'
end PP

namespace PP
open PySem
/-! words: printed by gen.py -/
def w_seed_image : WS := (wsRet (wCBL true cList (waCons (wC (.sct T_SEED)) waNil)))
def w_nodes_of : WS := (wsCut (wsRet (wFrz (wLc (wiRng rng3 (waCons (wC (.int 0)) (waCons (wB fSub (wCB cLen (waCons (wVar 0) waNil)) (wC (.int 3))) (waCons (wC (.int 4)) waNil)))) (wgName 1) wtT (wCBT cTupL (waCons (wSlL false (wVar 0) (woSome (wVar 1)) (woSome (wB fAdd (wVar 1) (wC (.int 4))))) waNil)) [1]))))
def w_table_of : WS := (wsCut (wsSeq (wsAsg (wDNew false) (wgName 1)) (wsSeq (wsFor (wiLst (wCall false C_nodes_of [] (waCons (wVar 0) waNil))) (wgTup 4 (wgsCons (wgName 2) (wgsCons (wgName 3) (wgsCons (wgName 4) (wgsCons (wgName 5) wgsNil))))) (wsDPut (wVar 1) (wVar 2) (wTup (waCons (wVar 3) (waCons (wVar 4) (waCons (wVar 5) waNil)))))) (wsRet (wVar 1)))))
def w_State___init__ : WS := (wsSeq (wsFld "State" "image" (wVar 0) (wCBL true cList (waCons (wVar 1) waNil))) (wsSeq (wsFld "State" "numbers" (wVar 0) (wCBL true cList (waCons (wVar 2) waNil))) (wsSeq (wsFld "State" "table" (wVar 0) (wCall false C_table_of [] (waCons (wVar 1) waNil))) (wsSeq (wsFld "State" "at" (wVar 0) (wC (.int 0))) (wsSeq (wsFld "State" "stack" (wVar 0) (wLst true waNil)) (wsSeq (wsFld "State" "store" (wVar 0) (wDNew false)) (wsSeq (wsFld "State" "back" (wVar 0) (wLst true waNil)) (wsSeq (wsFld "State" "place" (wVar 0) (wC (.int 0))) (wsSeq (wsFld "State" "output" (wVar 0) (wLst true waNil)) (wsFld "State" "steps" (wVar 0) (wC (.int 0))))))))))))
def w_State_pull : WS := (wsSeq (wsIf (wtTru (wFld "State" "stack" (wVar 0))) (wsRet (wPop (wFld "State" "stack" (wVar 0)))) wsNext) (wsRet (wC (.int 0))))
def w_push : WS := (wsDrop (wAppend (wFld "State" "stack" (wVar 0)) (wVar 1)))
def w_plus : WS := (wsSeq (wsAsg (wMeth false "State" "pull" C_State_pull [] (wVar 0) waNil) (wgName 2)) (wsDrop (wAppend (wFld "State" "stack" (wVar 0)) (wB fAdd (wMeth false "State" "pull" C_State_pull [] (wVar 0) waNil) (wVar 2)))))
def w_minus : WS := (wsSeq (wsAsg (wMeth false "State" "pull" C_State_pull [] (wVar 0) waNil) (wgName 2)) (wsDrop (wAppend (wFld "State" "stack" (wVar 0)) (wB fSub (wMeth false "State" "pull" C_State_pull [] (wVar 0) waNil) (wVar 2)))))
def w_digit : WS := (wsSeq (wsAsg (wMeth false "State" "pull" C_State_pull [] (wVar 0) waNil) (wgName 2)) (wsDrop (wAppend (wFld "State" "stack" (wVar 0)) (wB fAdd (wB fMul (wC (.int 10)) (wMeth false "State" "pull" C_State_pull [] (wVar 0) waNil)) (wVar 2)))))
def w_less : WS := (wsSeq (wsAsg (wMeth false "State" "pull" C_State_pull [] (wVar 0) waNil) (wgName 2)) (wsDrop (wAppend (wFld "State" "stack" (wVar 0)) (wCB cInt (waCons (wB fLt (wMeth false "State" "pull" C_State_pull [] (wVar 0) waNil) (wVar 2)) waNil)))))
def w_same : WS := (wsSeq (wsAsg (wMeth false "State" "pull" C_State_pull [] (wVar 0) waNil) (wgName 2)) (wsDrop (wAppend (wFld "State" "stack" (wVar 0)) (wCB cInt (waCons (wB fEq (wMeth false "State" "pull" C_State_pull [] (wVar 0) waNil) (wVar 2)) waNil)))))
def w_load : WS := (wsDrop (wAppend (wFld "State" "stack" (wVar 0)) (wDGet2 (wFld "State" "store" (wVar 0)) (wMeth false "State" "pull" C_State_pull [] (wVar 0) waNil) (wC (.int 0)))))
def w_keep : WS := (wsSeq (wsAsg (wMeth false "State" "pull" C_State_pull [] (wVar 0) waNil) (wgName 2)) (wsDPut (wFld "State" "store" (wVar 0)) (wVar 2) (wMeth false "State" "pull" C_State_pull [] (wVar 0) waNil)))
def w_assign : WS := (wsDPut (wFld "State" "store" (wVar 0)) (wVar 1) (wMeth false "State" "pull" C_State_pull [] (wVar 0) waNil))
def w_take : WS := (wsIf (wtV (wB fLt (wFld "State" "place" (wVar 0)) (wCB cLen (waCons (wFld "State" "numbers" (wVar 0)) waNil)))) (wsSeq (wsDrop (wAppend (wFld "State" "stack" (wVar 0)) (wB fIx (wFld "State" "numbers" (wVar 0)) (wFld "State" "place" (wVar 0))))) (wsFldAug "State" "place" fAddI (wVar 0) (wC (.int 1)))) (wsDrop (wAppend (wFld "State" "stack" (wVar 0)) (wU fNeg (wC (.int 1))))))
def w_rewind : WS := (wsFld "State" "place" (wVar 0) (wC (.int 0)))
def w_emit : WS := (wsDrop (wAppend (wFld "State" "output" (wVar 0)) (wMeth false "State" "pull" C_State_pull [] (wVar 0) waNil)))
def w_cell : WS := (wsSeq (wsAsg (wMeth false "State" "pull" C_State_pull [] (wVar 0) waNil) (wgName 2)) (wsIf (wtV (wChain fLe fLt (wU fNeg (wCB cLen (waCons (wFld "State" "image" (wVar 0)) waNil))) (wVar 2) (wCB cLen (waCons (wFld "State" "image" (wVar 0)) waNil)))) (wsDrop (wAppend (wFld "State" "stack" (wVar 0)) (wB fIx (wFld "State" "image" (wVar 0)) (wVar 2)))) (wsDrop (wAppend (wFld "State" "stack" (wVar 0)) (wC (.int 0))))))
def w_drop : WS := (wsDrop (wMeth false "State" "pull" C_State_pull [] (wVar 0) waNil))
def w_double : WS := (wsSeq (wsAsg (wMeth false "State" "pull" C_State_pull [] (wVar 0) waNil) (wgName 2)) (wsDrop (wExtend (wFld "State" "stack" (wVar 0)) (wLst false (waCons (wVar 2) (waCons (wVar 2) waNil))))))
def w_exchange : WS := (wsSeq (wsAsg (wMeth false "State" "pull" C_State_pull [] (wVar 0) waNil) (wgName 2)) (wsSeq (wsAsg (wMeth false "State" "pull" C_State_pull [] (wVar 0) waNil) (wgName 3)) (wsDrop (wExtend (wFld "State" "stack" (wVar 0)) (wLst false (waCons (wVar 2) (waCons (wVar 3) waNil)))))))
def w_test : WS := (wsIf (wtV (wB fEq (wMeth false "State" "pull" C_State_pull [] (wVar 0) waNil) (wC (.int 0)))) (wsFld "State" "at" (wVar 0) (wVar 1)) wsNext)
def w_call : WS := (wsSeq (wsAsg (wMeth false "State" "pull" C_State_pull [] (wVar 0) waNil) (wgName 2)) (wsSeq (wsDrop (wAppend (wFld "State" "back" (wVar 0)) (wFld "State" "at" (wVar 0)))) (wsFld "State" "at" (wVar 0) (wVar 2))))
def w_call_low : WS := (wsSeq (wsAsg (wMeth false "State" "pull" C_State_pull [] (wVar 0) waNil) (wgName 2)) (wsIf (wtAnd (wtV (wChain fLe fLe (wC (.int 1)) (wVar 2) (wC (.int 199)))) (wtV (wB (fInA false) (wVar 2) (wFld "State" "table" (wVar 0))))) (wsSeq (wsDrop (wAppend (wFld "State" "back" (wVar 0)) (wFld "State" "at" (wVar 0)))) (wsFld "State" "at" (wVar 0) (wVar 2))) (wsDrop (wAppend (wFld "State" "stack" (wVar 0)) (wVar 2)))))
def w_return : WS := (wsIf (wtTru (wFld "State" "back" (wVar 0))) (wsFld "State" "at" (wVar 0) (wPop (wFld "State" "back" (wVar 0)))) wsNext)
def w_State_has_ended : WS := (wsRet (wB (fInA true) (wFld "State" "at" (wVar 0)) (wFld "State" "table" (wVar 0))))
def w_State_step : WS := (wsSeq (wsIf (wtV (wB (fInA true) (wFld "State" "at" (wVar 0)) (wFld "State" "table" (wVar 0)))) (wsRet (wC (.bl false))) wsNext) (wsSeq (wsAsg (wB fIx (wFld "State" "table" (wVar 0)) (wFld "State" "at" (wVar 0))) (wgTup 3 (wgsCons (wgName 1) (wgsCons (wgName 2) (wgsCons (wgName 3) wgsNil))))) (wsSeq (wsFld "State" "at" (wVar 0) (wVar 3)) (wsSeq (wsFldAug "State" "steps" fAddI (wVar 0) (wC (.int 1))) (wsSeq (wsIf (wtV (wB (fInG "DEEDS" T_DEEDS false) (wVar 1) (wC (.glo "DEEDS")))) (wsSeq (wsAsg (wB (fIxG "DEEDS" T_DEEDS) (wC (.glo "DEEDS")) (wVar 1)) (wgName 4)) (wsDrop (wCallV false 4 S_deeds (waCons (wVar 0) (waCons (wVar 2) waNil))))) (wsIf (wtV (wChain fLe fLe (wC (.int 97)) (wVar 1) (wC (.int 122)))) (wsDrop (wAppend (wFld "State" "stack" (wVar 0)) (wDGet2 (wFld "State" "store" (wVar 0)) (wVar 1) (wC (.int 0))))) (wsIf (wtV (wChain fLe fLe (wC (.int 65)) (wVar 1) (wC (.int 90)))) (wsSeq (wsDrop (wAppend (wFld "State" "back" (wVar 0)) (wVar 3))) (wsFld "State" "at" (wVar 0) (wVar 1))) wsNext))) (wsRet (wC (.bl true))))))))
def w_State_advance : WS := (wsSeq (wsIf (wtV (wB fLt (wVar 1) (wC (.int 0)))) wsNever wsNext) (wsSeq (wsAsg (wC (.int 0)) (wgName 2)) (wsSeq (wsWhile (wtAnd (wtV (wB fLt (wVar 2) (wVar 1))) (wtTru (wMeth false "State" "step" C_State_step [] (wVar 0) waNil))) (wsAug 2 fAddI (wC (.int 1)))) (wsRet (wVar 2)))))
def w_run : WS := (wsCut (wsSeq (wsAsg (wMake false "State" C_State___init__ [] (waCons (wVar 0) (waCons (wVar 1) waNil))) (wgName 3)) (wsSeq (wsAsg (wMethK true "State" "advance" C_State_advance 0 1 (fun ms zs => ms ++ zs) (wVar 3) waNil (waCons (wVar 2) waNil)) (wgName 4)) (wsRet (wTup (waCons (wMeth true "State" "has_ended" C_State_has_ended [] (wVar 3) waNil) (waCons (wFrz (wFld "State" "output" (wVar 3))) (waCons (wVar 4) waNil))))))))
def w_law_number : WS := (wsSeq (wsIf (wtV (wB fLt (wVar 0) (wC (.int 0)))) (wsRet (wB fSub (wC (.int 0)) (wVar 0))) wsNext) (wsRet (wVar 0)))
def w_law_draws : WS := (wsSeq (wsAsg (wLst true waNil) (wgName 1)) (wsSeq (wsFor (wiLst (wVar 0)) (wgName 2) (wsSeq (wsAsg (wCall false C_law_number [] (waCons (wVar 2) waNil)) (wgName 3)) (wsIf (wtV (wB fGe (wVar 3) (wC (.int 1000000000000000000)))) (wsFor (wiRng rng1 (waCons (wC (.int 60)) waNil)) (wgName 4) (wsSeq (wsIf (wtV (wB fEq (wVar 3) (wC (.int 0)))) wsBreak wsNext) (wsSeq (wsDrop (wAppend (wVar 1) (wB fMod (wCB cInt (waCons (wVar 3) waNil)) (wC (.int 1000))))) (wsAsg (wB fDiv (wVar 3) (wC (.int 1000))) (wgName 3))))) (wsSeq (wsAsg (wB fMod (wCB cInt (waCons (wB fAdd (wB fMul (wVar 3) (wC (.int 48271))) (wC (.int 11))) waNil)) (wC (.int 2147483647))) (wgName 5)) (wsSeq (wsAsg (wB fMod (wCB cInt (waCons (wB fAdd (wB fMul (wVar 5) (wC (.int 69621))) (wVar 3)) waNil)) (wC (.int 2147483629))) (wgName 6)) (wsDrop (wExtend (wVar 1) (wLst false (waCons (wB fMod (wCB cInt (waCons (wVar 3) waNil)) (wC (.int 1000))) (waCons (wB fMod (wCB cInt (waCons (wVar 5) waNil)) (wC (.int 1000))) (waCons (wB fMod (wCB cInt (waCons (wVar 6) waNil)) (wC (.int 1000))) waNil))))))))))) (wsRet (wVar 1))))
def w_law_next : WS := (wsSeq (wsIf (wtTru (wVar 0)) (wsRet (wPop (wVar 0))) wsNext) (wsRet (wC (.int 0))))
def w_law_code : WS := (wsSeq (wsAsg (wLst false (waCons (wC (.int 32)) (waCons (wC (.int 10)) (waCons (wC (.int 44)) (waCons (wC (.int 45)) (waCons (wC (.int 46)) (waCons (wC (.int 120)) (waCons (wC (.int 47)) (waCons (wC (.int 58)) waNil))))))))) (wgName 1)) (wsSeq (wsAsg (wB fMod (wCB cInt (waCons (wVar 0) waNil)) (wC (.int 10))) (wgName 2)) (wsSeq (wsAsg (wB fDiv (wVar 0) (wC (.int 10))) (wgName 3)) (wsSeq (wsIf (wtV (wB fLt (wVar 2) (wC (.int 3)))) (wsRet (wB fAdd (wC (.int 48)) (wB fMod (wCB cInt (waCons (wVar 3) waNil)) (wC (.int 10))))) wsNext) (wsSeq (wsIf (wtV (wB fLt (wVar 2) (wC (.int 8)))) (wsRet (wB fIx (wVar 1) (wB fMod (wCB cInt (waCons (wVar 3) waNil)) (wCB cLen (waCons (wVar 1) waNil))))) wsNext) (wsSeq (wsIf (wtV (wB fEq (wVar 2) (wC (.int 8)))) (wsRet (wB fAdd (wC (.int 32)) (wVar 3))) wsNext) (wsSeq (wsIf (wtV (wB fGt (wVar 3) (wC (.int 96)))) (wsRet (wB fSub (wC (.int 0)) (wVar 3))) wsNext) (wsRet (wB fMul (wC (.int 7)) (wVar 3))))))))))
def w_law_codes : WS := (wsSeq (wsAsg (wLst true waNil) (wgName 2)) (wsSeq (wsFor (wiRng rng1 (waCons (wVar 1) waNil)) (wgName 3) (wsSeq (wsIf (wtNot (wtTru (wVar 0))) wsBreak wsNext) (wsDrop (wAppend (wVar 2) (wCall false C_law_code [] (waCons (wCall false C_law_next [] (waCons (wVar 0) waNil)) waNil)))))) (wsRet (wVar 2))))
def w_law_readable : WS := (wsSeq (wsAsg (wLst true waNil) (wgName 1)) (wsSeq (wsFor (wiLst (wVar 0)) (wgName 2) (wsSeq (wsIf (wtV (wB fLt (wVar 2) (wC (.int 0)))) wsBreak wsNext) (wsDrop (wAppend (wVar 1) (wVar 2))))) (wsRet (wVar 1))))
def w_law_is_integer : WS := (wsRet (wAndV (wCB cIsi (waCons (wVar 0) (waCons (wC (.ty "int")) waNil))) (wNotV (wCB cIsi (waCons (wVar 0) (waCons (wC (.ty "bool")) waNil))))))
def w_law_is_row : WS := (wsSeq (wsIf (wtNot (wtTru (wCB cIsi (waCons (wVar 0) (waCons (wC (.ty "list")) waNil))))) (wsRet (wC (.bl false))) wsNext) (wsSeq (wsFor (wiLst (wVar 0)) (wgName 1) (wsIf (wtNot (wtTru (wCall false C_law_is_integer [] (waCons (wVar 1) waNil)))) (wsRet (wC (.bl false))) wsNext)) (wsRet (wC (.bl true)))))
def w_law_wrote : WS := (wsSeq (wsIf (wtOr (wtNot (wtTru (wCB cIsi (waCons (wVar 0) (waCons (wC (.ty "tuple")) waNil))))) (wtV (wB fNe (wCB cLen (waCons (wVar 0) waNil)) (wC (.int 3))))) (wsRet (wC (.bl false))) wsNext) (wsSeq (wsIf (wtOr (wtV (wB fIsNot (wB fIx (wVar 0) (wC (.int 0))) (wC (.bl true)))) (wtOr (wtNot (wtTru (wCall false C_law_is_row [] (waCons (wB fIx (wVar 0) (wC (.int 1))) waNil)))) (wtNot (wtTru (wCall false C_law_is_integer [] (waCons (wB fIx (wVar 0) (wC (.int 2))) waNil)))))) (wsRet (wC (.bl false))) wsNext) (wsRet (wAndV (wB fEq (wB fIx (wVar 0) (wC (.int 1))) (wVar 1)) (wChain fLt fLe (wC (.int 0)) (wB fIx (wVar 0) (wC (.int 2))) (wVar 2))))))
def w_law_digits : WS := (wsSeq (wsAsg (wLst true waNil) (wgName 1)) (wsSeq (wsAsg (wC (.int 0)) (wgName 2)) (wsSeq (wsAsg (wC (.bl false)) (wgName 3)) (wsSeq (wsFor (wiLst (wVar 0)) (wgName 4) (wsIf (wtV (wChain fLe fLe (wC (.int 48)) (wVar 4) (wC (.int 57)))) (wsSeq (wsAsg (wB fSub (wB fAdd (wB fMul (wC (.int 10)) (wVar 2)) (wVar 4)) (wC (.int 48))) (wgName 2)) (wsAsg (wC (.bl true)) (wgName 3))) (wsSeq (wsIf (wtTru (wVar 3)) (wsDrop (wAppend (wVar 1) (wVar 2))) wsNext) (wsSeq (wsAsg (wC (.int 0)) (wgName 2)) (wsAsg (wC (.bl false)) (wgName 3)))))) (wsSeq (wsIf (wtTru (wVar 3)) (wsDrop (wAppend (wVar 1) (wVar 2))) wsNext) (wsRet (wVar 1)))))))
def w_law_14 : WS := (wsRet (wAndV (wB fEq (wCall false C_seed_image [] waNil) (wVar 8)) (wB fEq (wVar 7) (wVar 4))))
def w_law_13 : WS := wsSeq (wsLPut (wVar 5) (wB fMod (wCB cInt (waCons (wVar 2) waNil)) (wCB cLen (waCons (wVar 5) waNil))) (wB fAdd (wB fIx (wVar 5) (wB fMod (wCB cInt (waCons (wVar 2) waNil)) (wCB cLen (waCons (wVar 5) waNil)))) (wC (.int 1)))) w_law_14
def w_law_12 : WS := wsSeq (wsAsg (wCBL false cList (waCons (wVar 5) waNil)) (wgName 8)) w_law_13
def w_law_11 : WS := wsSeq (wsIf (wtNot (wtTru (wCall false C_law_wrote [] (waCons (wCallK false C_run 2 1 (fun ms zs => ms ++ zs) (waCons (wVar 5) (waCons (wVar 7) waNil)) (waCons (wC (.int 100000)) waNil)) (waCons (wFrz (wCall false C_law_digits [] (waCons (wVar 6) waNil))) (waCons (wB fAdd (wB fMul (wC (.int 40)) (wCB cLen (waCons (wVar 6) waNil))) (wC (.int 60))) waNil)))))) (wsRet (wC (.bl false))) wsNext) w_law_12
def w_law_10 : WS := wsSeq (wsAsg (wCBL false cList (waCons (wVar 4) waNil)) (wgName 7)) w_law_11
def w_law_9 : WS := wsSeq (wsAsg (wFrz (wCall false C_law_readable [] (waCons (wVar 4) waNil))) (wgName 6)) w_law_10
def w_law_8 : WS := wsSeq (wsIf (wtOr (wtV (wB fLt (wCB cMin (waCons (wVar 5) waNil)) (wC (.int 0)))) (wtV (wB fGt (wCB cMax (waCons (wVar 5) waNil)) (wC (.int 999))))) (wsRet (wC (.bl false))) wsNext) w_law_9
def w_law_7 : WS := wsSeq (wsIf (wtOr (wtNot (wtTru (wCall false C_law_is_row [] (waCons (wVar 5) waNil)))) (wtOr (wtV (wB fGt (wCB cLen (waCons (wVar 5) waNil)) (wC (.int 128)))) (wtOr (wtV (wB fNe (wB fMod (wCB cLen (waCons (wVar 5) waNil)) (wC (.int 4))) (wC (.int 0)))) (wtV (wB fEq (wCB cLen (waCons (wVar 5) waNil)) (wC (.int 0))))))) (wsRet (wC (.bl false))) wsNext) w_law_8
def w_law_6 : WS := wsSeq (wsAsg (wCall false C_seed_image [] waNil) (wgName 5)) w_law_7
def w_law_5 : WS := wsSeq (wsAsg (wBL false fRep (wFrz (wCall false C_law_codes [] (waCons (wVar 1) (waCons (wC (.int 60)) waNil)))) (wVar 3)) (wgName 4)) w_law_6
def w_law_4 : WS := wsSeq (wsIf (wtV (wB fEq (wB fMod (wCB cInt (waCons (wVar 2) waNil)) (wC (.int 16))) (wC (.int 5)))) (wsAsg (wB fAdd (wC (.int 1)) (wB fMod (wB fDiv (wVar 2) (wC (.int 16))) (wC (.int 9)))) (wgName 3)) wsNext) w_law_5
def w_law_3 : WS := wsSeq (wsAsg (wC (.int 1)) (wgName 3)) w_law_4
def w_law_2 : WS := wsSeq (wsAsg (wCall false C_law_next [] (waCons (wVar 1) waNil)) (wgName 2)) w_law_3
def w_law_1 : WS := wsSeq (wsDrop (wReverse (wVar 1))) w_law_2
def w_law : WS := (wsSeq (wsAsg (wCall false C_law_draws [] (waCons (wVar 0) waNil)) (wgName 1)) w_law_1)
end PP

/-! MachS: how the machine's cells are read and written. -/
namespace PP
open PySem
@[simp] theorem ints_nil : intL [] = [] := rfl
@[simp] theorem ints_cons (a : Int) (l : List Int) : intL (a :: l) = .int a :: intL l := rfl
@[simp] theorem ints_append (a b : List Int) : intL (a ++ b) = intL a ++ intL b := List.map_append
@[simp] theorem ints_length (a : List Int) : (intL a).length = a.length := List.length_map _
theorem ints_rev (a : List Int) : intL a.reverse = (intL a).reverse := List.map_reverse
theorem ints_get (a : List Int) (i : Nat) : (intL a)[i]? = (a[i]?).map D.int := List.getElem?_map ..
theorem depDs_ints : ∀ l : List Int, depDs (intL l) = some 0
  | [] => rfl
  | a :: r => by
    rw [ints_cons]
    unfold depDs
    rw [depDs_ints r]
    rfl
@[simp] theorem shp_ints (l : List Int) : shpD (.lst (intL l)) = true := by
  unfold shpD depD
  rw [depDs_ints]
  rfl
theorem eqDs_ints : ∀ a b : List Int, eqDs (intL a) (intL b) = decide (a = b)
  | [], [] => rfl
  | [], _ :: _ => rfl
  | _ :: _, [] => rfl
  | a :: r, b :: q => by
    rw [ints_cons, ints_cons]
    unfold eqDs
    rw [eqDs_ints r q]
    by_cases h : a = b
    · subst h
      simp [eqD]
    · simp [eqD, h]
@[simp] theorem eqD_ints (a b : List Int) : eqD (.lst (intL a)) (.lst (intL b)) = decide (a = b) := by
  unfold eqD
  exact eqDs_ints a b
theorem intsOf_ints : ∀ l : List Int, intsOf (intL l) = some l
  | [] => rfl
  | a :: r => by
    rw [ints_cons]
    unfold intsOf
    rw [intsOf_ints r]
section
variable (k : Nat) (a p n b : Int) (s : MS)
@[simp] theorem f_image : (flds k a p n).lookup ("image" : Str) = some (.ref (k + 1)) := rfl
@[simp] theorem f_numbers : (flds k a p n).lookup ("numbers" : Str) = some (.ref (k + 2)) := rfl
@[simp] theorem f_table : (flds k a p n).lookup ("table" : Str) = some (.ref (k + 3)) := rfl
@[simp] theorem f_at : (flds k a p n).lookup ("at" : Str) = some (.dat (.int a)) := rfl
@[simp] theorem f_stack : (flds k a p n).lookup ("stack" : Str) = some (.ref (k + 4)) := rfl
@[simp] theorem f_store : (flds k a p n).lookup ("store" : Str) = some (.ref (k + 5)) := rfl
@[simp] theorem f_back : (flds k a p n).lookup ("back" : Str) = some (.ref (k + 6)) := rfl
@[simp] theorem f_place : (flds k a p n).lookup ("place" : Str) = some (.dat (.int p)) := rfl
@[simp] theorem f_output : (flds k a p n).lookup ("output" : Str) = some (.ref (k + 7)) := rfl
@[simp] theorem f_steps : (flds k a p n).lookup ("steps" : Str) = some (.dat (.int n)) := rfl
@[simp] theorem f_pull : noF ("pull" : Str) (flds k a p n) := rfl
@[simp] theorem f_step : noF ("step" : Str) (flds k a p n) := rfl
@[simp] theorem f_advance : noF ("advance" : Str) (flds k a p n) := rfl
@[simp] theorem f_has_ended : noF ("has_ended" : Str) (flds k a p n) := rfl
@[simp] theorem p_at : putF' ("at" : Str) (.dat (.int b)) (flds k a p n) = flds k b p n := rfl
@[simp] theorem p_place : putF' ("place" : Str) (.dat (.int b)) (flds k a p n) = flds k a b n := rfl
@[simp] theorem p_steps : putF' ("steps" : Str) (.dat (.int b)) (flds k a p n) = flds k a p b := rfl
@[simp] theorem f_length : (flds k a p n).length = 10 := rfl
@[simp] theorem c_0 : (cells k s)[0]? = some (.obj "State" (flds k s.at_ s.place s.steps)) := rfl
@[simp] theorem c_1 : (cells k s)[1]? = some (.lst (intL s.img)) := rfl
@[simp] theorem c_2 : (cells k s)[2]? = some (.lst (intL s.nums)) := rfl
@[simp] theorem c_3 : (cells k s)[3]? = some (.dic (tabD s.tab)) := rfl
@[simp] theorem c_4 : (cells k s)[4]? = some (.lst (intL s.stk.reverse)) := rfl
@[simp] theorem c_5 : (cells k s)[5]? = some (.dic (stoD s.sto)) := rfl
@[simp] theorem c_6 : (cells k s)[6]? = some (.lst (intL s.back.reverse)) := rfl
@[simp] theorem c_7 : (cells k s)[7]? = some (.lst (intL s.out)) := rfl
theorem c_len : (cells k s).length = 8 := rfl
theorem s_0 : (cells k s).set 0 (.obj "State" (flds k a p n)) = cells k { s with at_ := a, place := p, steps := n } := rfl
theorem s_4 (l : List Int) : (cells k s).set 4 (.lst (intL l)) = cells k { s with stk := l.reverse } := by simp [cells]
theorem s_5 (l : List (Int × Int)) : (cells k s).set 5 (.dic (stoD l)) = cells k { s with sto := l } := rfl
theorem s_6 (l : List Int) : (cells k s).set 6 (.lst (intL l)) = cells k { s with back := l.reverse } := by simp [cells]
theorem s_7 (l : List Int) : (cells k s).set 7 (.lst (intL l)) = cells k { s with out := l } := rfl
theorem s_4p (l : List Int) (x : Int) : (cells k s).set 4 (.lst (intL l ++ [.int x])) = cells k { s with stk := x :: l.reverse } := by
  rw [show intL l ++ [D.int x] = intL (l ++ [x]) by simp, s_4]
  simp
theorem s_4q (l : List Int) (x y : Int) : (cells k s).set 4 (.lst (intL l ++ [.int x, .int y])) = cells k { s with stk := y :: x :: l.reverse } := by
  rw [show intL l ++ [D.int x, D.int y] = intL (l ++ [x, y]) by simp, s_4]
  simp
theorem s_6p (l : List Int) (x : Int) : (cells k s).set 6 (.lst (intL l ++ [.int x])) = cells k { s with back := x :: l.reverse } := by
  rw [show intL l ++ [D.int x] = intL (l ++ [x]) by simp, s_6]
  simp
theorem s_7p (l : List Int) (x : Int) : (cells k s).set 7 (.lst (intL l ++ [.int x])) = cells k { s with out := l ++ [x] } := by
  rw [show intL l ++ [D.int x] = intL (l ++ [x]) by simp, s_7]
end
theorem MS.ok.mono {s : MS} {n m : Nat} (h : s.ok n) (hm : m ≤ n) : s.ok m := by
  obtain ⟨h1, h2, h3, h4, h5, h6, h7⟩ := h
  exact ⟨by omega, by omega, by omega, by omega, h5, h6, h7⟩
theorem MS.ok.pull {s : MS} {n : Nat} (h : s.ok n) : (pull s).ok n := by
  obtain ⟨h1, h2, h3, h4, h5, h6, h7⟩ := h
  exact ⟨by simp [PP.pull, List.length_tail]; omega, h2, h3, h4, h5, h6, h7⟩
end PP

/-! MachP: the machine's defs keep their promises. -/
namespace PP
open PySem
theorem pull_nil {s : MS} (h : s.stk = []) : pull s = s := by cases s; simp_all [pull]
theorem pure_State_pull : PureOk ["self"] ["self"] C_State_pull w_State_pull := by
  rintro ms st Po ⟨s, rfl, rfl, hok, hQ⟩
  refine ⟨rfl, ?_⟩
  cases h : s.stk with
  | nil =>
    simp [w_State_pull, h]
    rw [pull_nil h] at hQ
    simpa [tos, h] using hQ
  | cons x r =>
    simp [w_State_pull, h, and_assoc]
    rw [s_4]
    simpa [tos, pull, h] using hQ
theorem pure_push : PureOk ["state", "argument"] ["state", "argument"] C_push w_push := by
  rintro ms st Po ⟨s, a, rfl, rfl, hok, hQ⟩
  refine ⟨rfl, ?_⟩
  simp [w_push, s_4p]
  exact ⟨by have := hok.1; omega, hQ⟩
theorem pure_plus : PureOk ["state", "argument", "second"] ["state", "argument"] C_plus w_plus := by
  rintro ms st Po ⟨s, a, rfl, rfl, hok, hQ⟩
  refine ⟨rfl, ?_⟩
  simp [w_plus]
  refine ⟨s, rfl, rfl, hok.mono (by decide), ?_⟩
  simp
  refine ⟨pull s, rfl, rfl, hok.pull.mono (by decide), ?_⟩
  simp [s_4p]
  exact ⟨by have := hok.pull.pull.1; omega, hQ⟩
theorem pure_minus : PureOk ["state", "argument", "second"] ["state", "argument"] C_minus w_minus := by
  rintro ms st Po ⟨s, a, rfl, rfl, hok, hQ⟩
  refine ⟨rfl, ?_⟩
  simp [w_minus]
  refine ⟨s, rfl, rfl, hok.mono (by decide), ?_⟩
  simp
  refine ⟨pull s, rfl, rfl, hok.pull.mono (by decide), ?_⟩
  simp [s_4p]
  exact ⟨by have := hok.pull.pull.1; omega, hQ⟩
theorem pure_digit : PureOk ["state", "argument", "second"] ["state", "argument"] C_digit w_digit := by
  rintro ms st Po ⟨s, a, rfl, rfl, hok, hQ⟩
  refine ⟨rfl, ?_⟩
  simp [w_digit]
  refine ⟨s, rfl, rfl, hok.mono (by decide), ?_⟩
  simp
  refine ⟨pull s, rfl, rfl, hok.pull.mono (by decide), ?_⟩
  simp [s_4p, small64]
  exact ⟨by have := hok.pull.pull.1; omega, hQ⟩
theorem pure_less : PureOk ["state", "argument", "second"] ["state", "argument"] C_less w_less := by
  rintro ms st Po ⟨s, a, rfl, rfl, hok, hQ⟩
  refine ⟨rfl, ?_⟩
  simp [w_less]
  refine ⟨s, rfl, rfl, hok.mono (by decide), ?_⟩
  simp
  refine ⟨pull s, rfl, rfl, hok.pull.mono (by decide), ?_⟩
  simp [s_4p]
  exact ⟨by have := hok.pull.pull.1; omega, hQ⟩
theorem pure_same : PureOk ["state", "argument", "second"] ["state", "argument"] C_same w_same := by
  rintro ms st Po ⟨s, a, rfl, rfl, hok, hQ⟩
  refine ⟨rfl, ?_⟩
  simp [w_same]
  refine ⟨s, rfl, rfl, hok.mono (by decide), ?_⟩
  simp
  refine ⟨pull s, rfl, rfl, hok.pull.mono (by decide), ?_⟩
  simp [s_4p, eqS]
  exact ⟨by have := hok.pull.pull.1; omega, hQ⟩
theorem sto_get (t : List (Int × Int)) (k : Int) : getP (stoD t) (Sum.inl k) = (getP t k).map D.int := by
  unfold getP stoD
  induction t with
  | nil => rfl
  | cons p r ih =>
    simp only [List.map_cons, List.find?_cons]
    by_cases h : p.1 = k
    · simp [h]
    · simp [h]
      simpa using ih
theorem tab_get (t : List (Int × Int × Int × Int)) (k : Int) : getP (tabD t) (Sum.inl k) = (getP t k).map nodeD := by
  unfold getP tabD
  induction t with
  | nil => rfl
  | cons p r ih =>
    simp only [List.map_cons, List.find?_cons]
    by_cases h : p.1 = k
    · simp [h]
    · simp [h]
      simpa using ih
theorem sto_put (t : List (Int × Int)) (k v : Int) : putP (stoD t) (Sum.inl k) (.int v) = stoD (putP t k v) := by
  have e : ((stoD t).any fun kv => decide (kv.1 = Sum.inl k)) = (t.any fun kv => decide (kv.1 = k)) := by
    unfold stoD
    rw [List.any_map]
    congr 1
    funext p
    simp
  unfold putP
  rw [e]
  split
  · unfold stoD
    rw [List.map_map, List.map_map]
    apply List.map_congr_left
    intro p _
    by_cases h : p.1 = k
    · simp [h]
    · simp [h]
  · simp [stoD]
theorem tab_put (t : List (Int × Int × Int × Int)) (k : Int) (v : Int × Int × Int) : putP (tabD t) (Sum.inl k) (nodeD v) = tabD (putP t k v) := by
  have e : ((tabD t).any fun kv => decide (kv.1 = Sum.inl k)) = (t.any fun kv => decide (kv.1 = k)) := by
    unfold tabD
    rw [List.any_map]
    congr 1
    funext p
    simp
  unfold putP
  rw [e]
  split
  · unfold tabD
    rw [List.map_map, List.map_map]
    apply List.map_congr_left
    intro p _
    by_cases h : p.1 = k
    · simp [h]
    · simp [h]
  · simp [tabD]
theorem stoD_length (t : List (Int × Int)) : (stoD t).length = t.length := List.length_map _
theorem tabD_length (t : List (Int × Int × Int × Int)) : (tabD t).length = t.length := List.length_map _
theorem orM_int (o : Option Int) : orM (o.map D.int) (.dat (.int 0)) = .dat (.int (o.getD 0)) := by cases o <;> rfl
theorem pure_load : PureOk ["state", "argument"] ["state", "argument"] C_load w_load := by
  rintro ms st Po ⟨s, a, rfl, rfl, hok, hQ⟩
  refine ⟨rfl, ?_⟩
  simp [w_load]
  refine ⟨s, rfl, rfl, hok.mono (by decide), ?_⟩
  simp [sto_get, orM_int, s_4p]
  exact ⟨by have := hok.pull.1; omega, hQ⟩
theorem pure_keep : PureOk ["state", "argument", "address"] ["state", "argument"] C_keep w_keep := by
  rintro ms st Po ⟨s, a, rfl, rfl, hok, hQ⟩
  refine ⟨rfl, ?_⟩
  simp [w_keep]
  refine ⟨s, rfl, rfl, hok.mono (by decide), ?_⟩
  simp
  refine ⟨pull s, rfl, rfl, hok.pull.mono (by decide), ?_⟩
  simp [sto_put, s_5, stoD_length]
  refine ⟨_, ⟨by have := hok.pull.pull.2.1; omega, rfl⟩, hQ⟩
theorem pure_assign : PureOk ["state", "argument"] ["state", "argument"] C_assign w_assign := by
  rintro ms st Po ⟨s, a, rfl, rfl, hok, hQ⟩
  refine ⟨rfl, ?_⟩
  simp [w_assign]
  refine ⟨s, rfl, rfl, hok.mono (by decide), ?_⟩
  simp [sto_put, s_5, stoD_length]
  refine ⟨_, ⟨by have := hok.pull.2.1; omega, rfl⟩, hQ⟩
theorem pure_rewind : PureOk ["state", "argument"] ["state", "argument"] C_rewind w_rewind := by
  rintro ms st Po ⟨s, a, rfl, rfl, hok, hQ⟩
  refine ⟨rfl, ?_⟩
  simp [w_rewind, s_0]
  exact hQ
theorem pure_emit : PureOk ["state", "argument"] ["state", "argument"] C_emit w_emit := by
  rintro ms st Po ⟨s, a, rfl, rfl, hok, hQ⟩
  refine ⟨rfl, ?_⟩
  simp [w_emit]
  refine ⟨s, rfl, rfl, hok.mono (by decide), ?_⟩
  simp [s_7p]
  exact ⟨by have := hok.pull.2.2.2.1; omega, hQ⟩
theorem pure_drop : PureOk ["state", "argument"] ["state", "argument"] C_drop w_drop := by
  rintro ms st Po ⟨s, a, rfl, rfl, hok, hQ⟩
  refine ⟨rfl, ?_⟩
  simp [w_drop]
  exact ⟨s, rfl, rfl, hok.mono (by decide), hQ⟩
theorem pure_double : PureOk ["state", "argument", "second"] ["state", "argument"] C_double w_double := by
  rintro ms st Po ⟨s, a, rfl, rfl, hok, hQ⟩
  refine ⟨rfl, ?_⟩
  simp [w_double]
  refine ⟨s, rfl, rfl, hok.mono (by decide), ?_⟩
  simp [s_4q]
  exact ⟨by decide, by have := hok.pull.1; omega, hQ⟩
theorem pure_exchange : PureOk ["state", "argument", "second", "first"] ["state", "argument"] C_exchange w_exchange := by
  rintro ms st Po ⟨s, a, rfl, rfl, hok, hQ⟩
  refine ⟨rfl, ?_⟩
  simp [w_exchange]
  refine ⟨s, rfl, rfl, hok.mono (by decide), ?_⟩
  simp
  refine ⟨pull s, rfl, rfl, hok.pull.mono (by decide), ?_⟩
  simp [s_4q]
  exact ⟨by decide, by have := hok.pull.pull.1; omega, hQ⟩
theorem pure_test : PureOk ["state", "argument"] ["state", "argument"] C_test w_test := by
  rintro ms st Po ⟨s, a, rfl, rfl, hok, hQ⟩
  refine ⟨rfl, ?_⟩
  simp [-Bool.exists_bool, w_test]
  refine ⟨s, rfl, rfl, hok.mono (by decide), ?_⟩
  simp [-Bool.exists_bool, eqS]
  by_cases h : tos s.stk = 0
  · simp [h, s_0]
    simpa [dTest, h] using hQ
  · simp [h]
    simpa [dTest, h] using hQ
theorem atP_nat {α : Type} {xs : List α} {i : Int} (h0 : 0 ≤ i) (h1 : i < xs.length) : atP xs i = xs[i.toNat]? := by
  unfold atP ixP
  rw [if_pos h0, if_pos h1]
  rfl
theorem atP_ints (xs : List Int) (i : Int) : atP (intL xs) i = (atP xs i).map D.int := by
  unfold atP
  rw [ints_length]
  cases ixP xs.length i with
  | none => rfl
  | some j => exact ints_get xs j
theorem pure_take : PureOk ["state", "argument"] ["state", "argument"] C_take w_take := by
  rintro ms st Po ⟨s, a, rfl, rfl, hok, hQ⟩
  refine ⟨rfl, ?_⟩
  simp [-Bool.exists_bool, w_take]
  by_cases h : s.place < s.nums.length
  · have h0 := hok.2.2.2.2.2.2
    have e : atP s.nums s.place = some (s.nums[s.place.toNat]?.getD 0) := by
      rw [atP_nat h0 h, List.getElem?_eq_getElem (by omega)]
      rfl
    simp [-Bool.exists_bool, h, atP_ints, e, s_4p, s_0]
    refine ⟨by have := hok.1; omega, ?_⟩
    simpa [dTake, h, push, pull] using hQ
  · simp [h, s_4p]
    refine ⟨by have := hok.1; omega, ?_⟩
    simpa [dTake, h, push, pull] using hQ
theorem atP_some {α : Type} {xs : List α} {i : Int} (h0 : -(xs.length : Int) ≤ i) (h1 : i < xs.length) : ∃ x, atP xs i = some x := by
  unfold atP ixP
  by_cases h : 0 ≤ i
  · rw [if_pos h, if_pos h1]
    exact ⟨_, List.getElem?_eq_getElem (by omega)⟩
  · rw [if_neg h, if_pos h0]
    exact ⟨_, List.getElem?_eq_getElem (by omega)⟩
theorem atP_none {α : Type} {xs : List α} {i : Int} (h : ¬(-(xs.length : Int) ≤ i ∧ i < xs.length)) : atP xs i = none := by
  unfold atP ixP
  by_cases h0 : 0 ≤ i
  · rw [if_pos h0, if_neg (by omega)]
    rfl
  · rw [if_neg h0, if_neg (by omega)]
    rfl
theorem pure_cell : PureOk ["state", "argument", "index"] ["state", "argument"] C_cell w_cell := by
  rintro ms st Po ⟨s, a, rfl, rfl, hok, hQ⟩
  refine ⟨rfl, ?_⟩
  simp [-Bool.exists_bool, w_cell]
  refine ⟨s, rfl, rfl, hok.mono (by decide), ?_⟩
  have hl := hok.pull.1
  simp [-Bool.exists_bool]
  by_cases h1 : -(s.img.length : Int) ≤ tos s.stk
  · by_cases h2 : tos s.stk < (s.img.length : Int)
    · obtain ⟨x, hx⟩ := atP_some h1 h2
      have e : (pull s).img = s.img := rfl
      simp [-Bool.exists_bool, e, h1, h2, atP_ints, hx, s_4p]
      refine ⟨by omega, ?_⟩
      simpa [dCell, hx, push, pull] using hQ
    · have hn := atP_none (xs := s.img) (i := tos s.stk) (fun z => h2 z.2)
      have e : (pull s).img = s.img := rfl
      simp [-Bool.exists_bool, e, h1, h2, s_4p]
      refine ⟨by omega, ?_⟩
      simpa [dCell, hn, push, pull] using hQ
  · have hn := atP_none (xs := s.img) (i := tos s.stk) (fun z => h1 z.1)
    have e : (pull s).img = s.img := rfl
    simp [-Bool.exists_bool, e, h1, s_4p]
    refine ⟨by omega, ?_⟩
    simpa [dCell, hn, push, pull] using hQ
theorem pure_call : PureOk ["state", "argument", "number"] ["state", "argument"] C_call w_call := by
  rintro ms st Po ⟨s, a, rfl, rfl, hok, hQ⟩
  refine ⟨rfl, ?_⟩
  simp [w_call]
  refine ⟨s, rfl, rfl, hok.mono (by decide), ?_⟩
  simp [s_6p, s_0]
  exact ⟨by have := hok.pull.2.2.1; omega, hQ⟩
theorem pure_call_low : PureOk ["state", "argument", "number"] ["state", "argument"] C_call_low w_call_low := by
  rintro ms st Po ⟨s, a, rfl, rfl, hok, hQ⟩
  refine ⟨rfl, ?_⟩
  simp [-Bool.exists_bool, w_call_low]
  refine ⟨s, rfl, rfl, hok.mono (by decide), ?_⟩
  have hl := hok.pull.1
  have hl2 := hok.pull.2.2.1
  have e : (pull s).tab = s.tab := rfl
  by_cases h : 1 ≤ tos s.stk ∧ tos s.stk ≤ 199
  · obtain ⟨h1, h2⟩ := h
    cases h3 : getP s.tab (tos s.stk) with
    | none =>
      simp [-Bool.exists_bool, h1, h2, tab_get, e, h3, s_4p]
      refine ⟨by omega, ?_⟩
      simpa [dCallLow, h3, push, pull] using hQ
    | some x =>
      simp [-Bool.exists_bool, h1, h2, tab_get, e, h3, s_6p, s_0]
      refine ⟨by omega, ?_⟩
      simpa [dCallLow, h1, h2, h3, push, pull] using hQ
  · by_cases h1 : 1 ≤ tos s.stk
    · have h2 : ¬tos s.stk ≤ 199 := fun z => h ⟨h1, z⟩
      simp [-Bool.exists_bool, h1, h2, s_4p]
      refine ⟨by omega, ?_⟩
      simpa [dCallLow, h2, push, pull] using hQ
    · simp [h1, s_4p]
      refine ⟨by omega, ?_⟩
      simpa [dCallLow, h1, push, pull] using hQ
theorem pure_return : PureOk ["state", "argument"] ["state", "argument"] C_return w_return := by
  rintro ms st Po ⟨s, a, rfl, rfl, hok, hQ⟩
  refine ⟨rfl, ?_⟩
  cases h : s.back with
  | nil =>
    simp [-Bool.exists_bool, w_return, h]
    simpa [dReturn, h] using hQ
  | cons x r =>
    simp [-Bool.exists_bool, w_return, h, and_assoc]
    rw [s_6]
    simp [s_0]
    simpa [dReturn, h] using hQ
theorem pure_State_has_ended : PureOk ["self"] ["self"] C_State_has_ended w_State_has_ended := by
  rintro ms st Po ⟨s, rfl, rfl, hQ⟩
  refine ⟨rfl, ?_⟩
  simp [w_State_has_ended, fInA, tab_get]
  simpa [endedM] using hQ
end PP

/-! MachQ: step, advance. -/
namespace PP
open PySem
theorem deeds_held {o : Int} {p : Str × (MS → Int → MS)} (h : getP deeds o = some p) : S_deeds p.1 = some (C_deed p.2) := by
  have h2 := getP_mem h
  simp only [deeds, List.mem_cons, Prod.mk.injEq, List.not_mem_nil, or_false] at h2
  rcases h2 with ⟨_, rfl⟩ | ⟨_, rfl⟩ | ⟨_, rfl⟩ | ⟨_, rfl⟩ | ⟨_, rfl⟩ | ⟨_, rfl⟩ | ⟨_, rfl⟩ | ⟨_, rfl⟩ | ⟨_, rfl⟩ | ⟨_, rfl⟩ | ⟨_, rfl⟩ | ⟨_, rfl⟩ | ⟨_, rfl⟩ | ⟨_, rfl⟩ | ⟨_, rfl⟩ | ⟨_, rfl⟩ | ⟨_, rfl⟩ | ⟨_, rfl⟩ | ⟨_, rfl⟩ | ⟨_, rfl⟩ <;> rfl
theorem deeds_get (o : Int) : getP T_DEEDS o = (getP deeds o).map fun p => D.glo p.1 := by
  unfold getP T_DEEDS
  generalize deeds = l
  induction l with
  | nil => rfl
  | cons p r ih =>
    simp only [List.map_cons, List.find?_cons]
    by_cases h : p.1 = o
    · simp [h]
    · simp [h]
      simpa using ih
theorem putP_len {κ α : Type} [DecidableEq κ] (l : List (κ × α)) (k : κ) (v : α) : (putP l k v).length ≤ l.length + 1 := by
  unfold putP
  split
  · rw [List.length_map]; omega
  · simp
theorem deed_ok {o : Int} {p : Str × (MS → Int → MS)} (h : getP deeds o = some p) {s : MS} {n : Nat} (hs : s.ok (n + 2)) (a : Int) : (p.2 s a).ok n := by
  have h2 := getP_mem h
  obtain ⟨h1, h3, h4, h5, h6, h7, h8⟩ := hs
  have l1 : s.stk.tail.length ≤ s.stk.length := by rw [List.length_tail]; omega
  have l2 : s.stk.tail.tail.length ≤ s.stk.length := by rw [List.length_tail]; omega
  have q1 := putP_len s.sto (tos s.stk) (tos s.stk.tail)
  have q2 := putP_len s.sto a (tos s.stk)
  simp only [deeds, List.mem_cons, Prod.mk.injEq, List.not_mem_nil, or_false] at h2
  rcases h2 with ⟨_, rfl⟩ | ⟨_, rfl⟩ | ⟨_, rfl⟩ | ⟨_, rfl⟩ | ⟨_, rfl⟩ | ⟨_, rfl⟩ | ⟨_, rfl⟩ | ⟨_, rfl⟩ | ⟨_, rfl⟩ | ⟨_, rfl⟩ | ⟨_, rfl⟩ | ⟨_, rfl⟩ | ⟨_, rfl⟩ | ⟨_, rfl⟩ | ⟨_, rfl⟩ | ⟨_, rfl⟩ | ⟨_, rfl⟩ | ⟨_, rfl⟩ | ⟨_, rfl⟩ | ⟨_, rfl⟩
  case inr.inr.inr.inr.inr.inr.inr.inr.inr.inl =>
    simp only [dTake]
    split <;> refine ⟨?_, ?_, ?_, ?_, ?_, ?_, ?_⟩ <;> simp only [push, List.length_cons] <;> omega
  case inr.inr.inr.inr.inr.inr.inr.inr.inr.inr.inr.inr.inr.inr.inr.inr.inl =>
    simp only [dTest]
    split <;> refine ⟨?_, ?_, ?_, ?_, ?_, ?_, ?_⟩ <;> simp only [push, pull, List.length_cons] <;> omega
  case inr.inr.inr.inr.inr.inr.inr.inr.inr.inr.inr.inr.inr.inr.inr.inr.inr.inr.inl =>
    simp only [dCallLow]
    split <;> refine ⟨?_, ?_, ?_, ?_, ?_, ?_, ?_⟩ <;> simp only [push, pull, List.length_cons] <;> omega
  case inr.inr.inr.inr.inr.inr.inr.inr.inr.inr.inr.inr.inr.inr.inr.inr.inr.inr.inr =>
    simp only [dReturn]
    split
    · refine ⟨?_, ?_, ?_, ?_, ?_, ?_, ?_⟩ <;> omega
    · rename_i b r hb
      have : r.length ≤ s.back.length := by rw [hb]; simp
      refine ⟨?_, ?_, ?_, ?_, ?_, ?_, ?_⟩ <;> simp only [] <;> omega
  all_goals
    refine ⟨?_, ?_, ?_, ?_, ?_, ?_, ?_⟩ <;> simp only [dPush, dPlus, dMinus, dDigit, dLess, dSame, dLoad, dKeep, dAssign, dRewind, dEmit, dCell, dDrop, dDouble, dExchange, dCall, bin2, push, pull, List.length_cons, List.length_append, List.length_nil] <;> omega
theorem act_ok {o a su : Int} {s : MS} {n : Nat} (hs : s.ok (n + 2)) : (act o a su s).ok n := by
  unfold act
  split
  · rename_i p hp
    exact deed_ok hp hs a
  · obtain ⟨h1, h3, h4, h5, h6, h7, h8⟩ := hs
    split
    · refine ⟨?_, ?_, ?_, ?_, ?_, ?_, ?_⟩ <;> simp only [push, List.length_cons] <;> omega
    · split
      · refine ⟨?_, ?_, ?_, ?_, ?_, ?_, ?_⟩ <;> simp only [List.length_cons] <;> omega
      · refine ⟨?_, ?_, ?_, ?_, ?_, ?_, ?_⟩ <;> omega
theorem step_ok {s s' : MS} {n : Nat} (hs : s.ok (n + 2)) (h : stepM s = some s') : s'.ok n := by
  unfold stepM at h
  split at h
  · cases h
  · cases h
    exact act_ok hs
theorem pure_State_step : PureOk ["self", "operation", "argument", "successor", "deed"] ["self"] C_State_step w_State_step := by
  rintro ms st Po ⟨s, rfl, rfl, hok, hQ⟩
  refine ⟨rfl, ?_⟩
  cases h : getP s.tab s.at_ with
  | none =>
    simp [-Bool.exists_bool, w_State_step, fInA, tab_get, h]
    simpa [stepM, h] using hQ
  | some p =>
    obtain ⟨o, a, su⟩ := p
    simp only [stepM, h] at hQ
    simp [-Bool.exists_bool, w_State_step, fInA, fIx, tab_get, h, nodeD, s_0, deeds_get]
    cases hd : getP deeds o with
    | some q =>
      simp [-Bool.exists_bool]
      refine ⟨_, ⟨_, ⟨_, rfl⟩, rfl⟩, _, rfl, _, deeds_held hd, { s with at_ := su, steps := s.steps + 1 }, a, rfl, rfl, hok, ?_⟩
      simpa [act, hd] using hQ
    | none =>
      have l1 := hok.1
      have l2 := hok.2.2.1
      simp only [act, hd] at hQ
      by_cases h1 : 97 ≤ o ∧ o ≤ 122
      · have h2 := h1.2
        have h1 := h1.1
        simp [h1, h2, sto_get, orM_int, s_4p]
        refine ⟨by omega, ?_⟩
        simpa [h1, h2, ldS, push] using hQ
      · by_cases h3 : 65 ≤ o ∧ o ≤ 90
        · have h4 := h3.2
          have h3 := h3.1
          have h5 : ¬97 ≤ o := by omega
          simp [h3, h4, h5, s_6p, s_0]
          refine ⟨by omega, ?_⟩
          simpa [h3, h4, h5] using hQ
        · rw [if_neg h1, if_neg h3] at hQ
          have n1 : ¬o ≤ 122 ∨ ¬97 ≤ o := by omega
          have n2 : ¬o ≤ 90 ∨ ¬65 ≤ o := by omega
          rcases n1 with n1 | n1 <;> rcases n2 with n2 | n2 <;> simp [n1, n2] <;> exact hQ
theorem advM_ok : ∀ (n : Nat) (s : MS) (m : Nat), s.ok (2 * n + m) → (advM n s).2.ok m
  | 0, s, m, h => by simpa [advM] using h
  | n + 1, s, m, h => by
    unfold advM
    cases q : stepM s with
    | none => exact h.mono (by omega)
    | some s' => exact advM_ok n s' m (step_ok (n := 2 * n + m) (by simpa [Nat.mul_add, Nat.add_assoc, Nat.add_comm, Nat.add_left_comm] using h) q)
theorem pure_State_advance : PureOk ["self", "fuel", "made"] ["self", "fuel"] C_State_advance w_State_advance := by
  rintro ms st Po ⟨s, n, rfl, rfl, hok, hQ⟩
  refine ⟨rfl, ?_⟩
  simp [-Bool.exists_bool, w_State_advance, wsWhile]
  refine ⟨fun m ds st => ∃ (d : Nat) (s' : MS), ds = [some (.ref 0), some (.dat (.int n)), some (.dat (.int d))] ∧ st = cells 0 s' ∧ d + m = n ∧ s'.ok (2 * m + 2) ∧ advM n s = (d + (advM m s').1, (advM m s').2), ⟨n, 0, s, rfl, rfl, by omega, hok, by simp⟩, ?_⟩
  rintro m ds st ⟨d, s', rfl, rfl, hd, hok', he⟩
  simp [-Bool.exists_bool]
  cases m with
  | zero =>
    have : ¬d < n := by omega
    simp [this]
    rw [he] at hQ
    simpa [advM] using hQ
  | succ m =>
    have : d < n := by omega
    simp [this]
    refine ⟨s', rfl, rfl, hok'.mono (by omega), ?_⟩
    cases q : stepM s' with
    | none =>
      simp
      rw [he] at hQ
      simpa [advM, q] using hQ
    | some s'' =>
      simp [-Bool.exists_bool]
      refine ⟨m, by omega, d + 1, by simp, s'', rfl, by omega, step_ok (n := 2 * m + 2) (hok'.mono (by omega)) q, ?_⟩
      rw [he]
      simp [advM, q]
      omega
end PP

/-! MachR: nodes_of, table_of, State(..), run. -/
namespace PP
open PySem
theorem listOf_app {st : Sto} {m : M} {l : List D} (h : listOf st m = some l) (xs : Sto) : listOf (st ++ xs) m = some l := by
  cases m with
  | dat d => cases d <;> first | exact h | cases h
  | ref i =>
    cases e : st[i]? with
    | none => simp [e] at h
    | some c =>
      have hi := (List.getElem?_eq_some_iff.mp e).1
      simp only [listOf] at h ⊢
      rw [List.getElem?_append_left hi]
      exact h
theorem nodes_drop : ∀ (i : Nat) (img : List Int), i < img.length / 4 → ∃ a b c d r, img.drop (4 * i) = a :: b :: c :: d :: r ∧ (nodesOf img)[i]? = some (a, b, c, d)
  | 0, a :: b :: c :: d :: r, h => ⟨a, b, c, d, r, by simp, by simp [nodesOf]⟩
  | i + 1, a :: b :: c :: d :: r, h => by
    obtain ⟨a', b', c', d', r', h1, h2⟩ := nodes_drop i r (by simp at h; omega)
    refine ⟨a', b', c', d', r', ?_, ?_⟩
    · rw [show 4 * (i + 1) = 4 * i + 1 + 1 + 1 + 1 by omega]
      simpa using h1
    · simpa [nodesOf] using h2
  | i, [], h => by simp at h
  | i, [_], h => by simp at h
  | i, [_, _], h => by simp at h
  | i, [_, _, _], h => by simp at h
theorem nodes_len : ∀ (img : List Int), (nodesOf img).length = img.length / 4
  | a :: b :: c :: d :: r => by
    simp [nodesOf, nodes_len r]
    omega
  | [] => rfl
  | [_] => by simp [nodesOf]
  | [_, _] => by simp [nodesOf]
  | [_, _, _] => by simp [nodesOf]
def quadD (p : Nd) : D := D.tup [.int p.1, .int p.2.1, .int p.2.2.1, .int p.2.2.2]
theorem cut4 {img : List Int} {i : Nat} {a b c d : Int} {r : List Int} (h : img.drop (4 * i) = a :: b :: c :: d :: r) : cutP (intL img) (some (((i : Nat) : Int) * 4)) (some (((i : Nat) : Int) * 4 + 4)) = [.int a, .int b, .int c, .int d] := by
  have hl : 4 * i + 4 ≤ img.length := by
    have := congrArg List.length h
    simp at this
    omega
  have e1 : cutIx (intL img).length 0 (some (((i : Nat) : Int) * 4)) = 4 * i := by
    simp only [cutIx]
    rw [if_neg (by omega), ints_length]
    omega
  have e2 : cutIx (intL img).length (intL img).length (some (((i : Nat) : Int) * 4 + 4)) = 4 * i + 4 := by
    simp only [cutIx]
    rw [if_neg (by omega), ints_length]
    omega
  unfold cutP
  rw [e1, e2, show 4 * i + 4 - 4 * i = 4 by omega]
  unfold intL
  rw [← List.map_drop, h]
  rfl
theorem rngItems_split {lo c : Int} {n : Nat} {pre post : List M} {x : M} (h : rngItems lo c n = pre ++ x :: post) : pre.length < n ∧ x = .dat (.int (lo + (pre.length : Nat) * c)) := by
  have hl := congrArg List.length h
  unfold rngItems at hl
  simp at hl
  have hi : pre.length < n := by omega
  refine ⟨hi, ?_⟩
  have h2 : (rngItems lo c n)[pre.length]? = some x := by rw [h]; simp
  unfold rngItems at h2
  rw [List.getElem?_map, List.getElem?_range hi] at h2
  simpa using h2.symm
theorem rngItems_length (lo c : Int) (n : Nat) : (rngItems lo c n).length = n := by simp [rngItems]
theorem quads_take {img : List Int} {i : Nat} {p : Nd} (h : (nodesOf img)[i]? = some p) : ((nodesOf img).take (i + 1)).map quadD = ((nodesOf img).take i).map quadD ++ [quadD p] := by
  rw [List.take_add_one, h]
  simp
theorem pure_nodes_of : PureOk ["image", "start"] ["image"] C_nodes_of w_nodes_of := by
  rintro ms st Po ⟨m, img, rfl, hm, hl, hQ⟩
  refine ⟨rfl, ?_⟩
  have hLINE : LINE = 16777216 := rfl
  have hb : bnd62 ((img.length : Int) - 3) = true := by simp [bnd62]; omega
  have hn : (if (3 : Int) < img.length then ((img.length : Int) - 3 - 1) / 4 + 1 else 0).toNat = img.length / 4 := by
    split <;> omega
  simp [-Bool.exists_bool, w_nodes_of, wsCut, wLc, hm, rng3, cLen_list hm]
  refine ⟨0, 4, _, ⟨⟨by decide, hb⟩, rfl, rfl, hn⟩, fun pre st' => st' = st ++ [.lst (((nodesOf img).take pre.length).map quadD)], by simp, ?_, ?_⟩
  · rintro pre x post st' hx rfl
    obtain ⟨h1, rfl⟩ := rngItems_split hx
    obtain ⟨a, b, c, d, r, h2, h3⟩ := nodes_drop _ _ h1
    simp [wipeD, listOf_app hm, cut4 h2, quads_take h3, quadD]
    omega
  · rintro st' rfl
    refine .inl ⟨_, by simp; rfl, ?_⟩
    rw [rngItems_length, ← nodes_len]
    simp
    rw [List.take_of_length_le (by simp)]
    exact CutM.drop hQ
theorem foldl_len (l : List Nd) (t : List (Int × Int × Int × Int)) : (l.foldl (fun t p => putP t p.1 p.2) t).length ≤ t.length + l.length := by
  induction l generalizing t with
  | nil => simp
  | cons p r ih =>
    have h1 := ih (putP t p.1 p.2)
    have h2 := putP_len t p.1 p.2
    simp only [List.foldl_cons, List.length_cons]
    omega
theorem map_split {α β : Type} {f : α → β} {l : List α} {pre post : List β} {x : β} (h : l.map f = pre ++ x :: post) : ∃ l1 a l2, l = l1 ++ a :: l2 ∧ pre = l1.map f ∧ x = f a ∧ post = l2.map f := by
  obtain ⟨l1, l3, rfl, rfl, h2⟩ := List.map_eq_append_iff.mp h
  obtain ⟨a, l2, rfl, h3, h4⟩ := List.map_eq_cons_iff.mp h2
  exact ⟨l1, a, l2, rfl, rfl, h3.symm, h4.symm⟩
theorem pure_table_of : PureOk ["image", "table", "number", "operation", "argument", "successor"] ["image"] C_table_of w_table_of := by
  rintro ms st Po ⟨m, img, rfl, hm, hl, hQ⟩
  refine ⟨rfl, ?_⟩
  have hLINE : LINE = 16777216 := rfl
  simp [-Bool.exists_bool, w_table_of, wsCut, wsFor]
  refine ⟨m, img, rfl, listOf_app hm _, hl, _, rfl, ?_⟩
  refine ⟨fun pre ds st' => (∃ x2 x3 x4 x5, ds = [some m, some (.ref st.length), x2, x3, x4, x5]) ∧ ∃ l1 l2, nodesOf img = l1 ++ l2 ∧ pre = l1.map (fun p => M.dat (quadD p)) ∧ st' = st ++ [.dic (tabD (l1.foldl (fun t p => putP t p.1 p.2) []))], ⟨⟨_, _, _, _, rfl⟩, [], _, rfl, rfl, rfl⟩, ?_, ?_⟩
  · rintro pre x post ds st' hx ⟨⟨x2, x3, x4, x5, rfl⟩, l1, l2, e1, rfl, rfl⟩
    rw [List.map_map] at hx
    obtain ⟨k1, a, k2, e2, e3, rfl, rfl⟩ := map_split hx
    have e4 : l1 = k1 := by
      have hlen := congrArg List.length e3
      simp at hlen
      rw [e1] at e2
      exact (List.append_inj e2 hlen).1
    subst e4
    obtain ⟨a1, a2, a3, a4⟩ := a
    have hlen := foldl_len l1 []
    have hlen2 : l1.length ≤ img.length / 4 := by rw [← nodes_len, e2]; simp
    simp
    refine ⟨by decide, _, ⟨?_, rfl⟩, l1 ++ [(a1, a2, a3, a4)], ⟨k2, by rw [e2]; simp⟩, by simp [quadD], ?_⟩
    · rw [tabD_length]
      simp at hlen
      omega
    · rw [show D.tup [D.int a2, D.int a3, D.int a4] = nodeD (a2, a3, a4) from rfl, tab_put]
      simp
  · rintro ds st' ⟨⟨x2, x3, x4, x5, rfl⟩, l1, l2, e1, e2, rfl⟩
    have e3 : l2 = [] := by
      have hlen := congrArg List.length e2
      rw [e1] at hlen
      simp at hlen
      exact hlen
    subst e3
    rw [List.append_nil] at e1
    rw [← e1]
    simp
    exact .inl hQ
theorem i_1 (m : M) : putF' ("image" : Str) m [] = ([("image", m)] : List (Str × M)) := rfl
theorem i_2 (m a : M) : putF' ("numbers" : Str) m [("image", a)] = ([("image", a), ("numbers", m)] : List (Str × M)) := rfl
theorem i_3 (m a b : M) : putF' ("table" : Str) m [("image", a), ("numbers", b)] = ([("image", a), ("numbers", b), ("table", m)] : List (Str × M)) := rfl
theorem i_4 (m a b c : M) : putF' ("at" : Str) m [("image", a), ("numbers", b), ("table", c)] = ([("image", a), ("numbers", b), ("table", c), ("at", m)] : List (Str × M)) := rfl
theorem i_5 (m a b c d : M) : putF' ("stack" : Str) m [("image", a), ("numbers", b), ("table", c), ("at", d)] = ([("image", a), ("numbers", b), ("table", c), ("at", d), ("stack", m)] : List (Str × M)) := rfl
theorem i_6 (m a b c d e : M) : putF' ("store" : Str) m [("image", a), ("numbers", b), ("table", c), ("at", d), ("stack", e)] = ([("image", a), ("numbers", b), ("table", c), ("at", d), ("stack", e), ("store", m)] : List (Str × M)) := rfl
theorem i_7 (m a b c d e f : M) : putF' ("back" : Str) m [("image", a), ("numbers", b), ("table", c), ("at", d), ("stack", e), ("store", f)] = ([("image", a), ("numbers", b), ("table", c), ("at", d), ("stack", e), ("store", f), ("back", m)] : List (Str × M)) := rfl
theorem i_8 (m a b c d e f g : M) : putF' ("place" : Str) m [("image", a), ("numbers", b), ("table", c), ("at", d), ("stack", e), ("store", f), ("back", g)] = ([("image", a), ("numbers", b), ("table", c), ("at", d), ("stack", e), ("store", f), ("back", g), ("place", m)] : List (Str × M)) := rfl
theorem i_9 (m a b c d e f g h : M) : putF' ("output" : Str) m [("image", a), ("numbers", b), ("table", c), ("at", d), ("stack", e), ("store", f), ("back", g), ("place", h)] = ([("image", a), ("numbers", b), ("table", c), ("at", d), ("stack", e), ("store", f), ("back", g), ("place", h), ("output", m)] : List (Str × M)) := rfl
theorem i_10 (m a b c d e f g h i : M) : putF' ("steps" : Str) m [("image", a), ("numbers", b), ("table", c), ("at", d), ("stack", e), ("store", f), ("back", g), ("place", h), ("output", i)] = ([("image", a), ("numbers", b), ("table", c), ("at", d), ("stack", e), ("store", f), ("back", g), ("place", h), ("output", i), ("steps", m)] : List (Str × M)) := rfl
theorem pure_State___init__ : PureOk ["self", "image", "numbers"] ["self", "image", "numbers"] C_State___init__ w_State___init__ := by
  rintro ms st Po ⟨st0, m1, m2, img, nums, rfl, rfl, h1, h2, hl1, hl2, hQ⟩
  refine ⟨rfl, ?_⟩
  have g1 := fun xs => listOf_app h1 xs
  have g2 := fun xs => listOf_app h2 xs
  simp [w_State___init__, g1, g2, i_1, i_2]
  refine ⟨m1, img, rfl, g1 _, hl1, ?_⟩
  simp [i_3, i_4, i_5, i_6, i_7, i_8, i_9, i_10]
  exact hQ
theorem merge8 (k : Nat) (st0 : Sto) (s s' : MS) (hk : k = st0.length) : merge [k, k + 1, k + 2, k + 3, k + 4, k + 5, k + 6, k + 7] (st0 ++ cells k s) (cells 0 s') = st0 ++ cells k s' := by
  subst hk
  simp [merge, cells, renC, flds, renM, phi, List.set_append]
theorem callState {C : Ct} {st0 : Sto} {s : MS} {ds : List D} {Q : M → Sto → Prop} (h : C (.ref 0 :: ds.map M.dat) (cells 0 s) fun m st' => ∃ s' d, m = .dat d ∧ st' = cells 0 s' ∧ Q (.dat d) (st0 ++ cells st0.length s')) (hm : ∀ ms st Q Q', (∀ m st', Q m st' → Q' m st') → C ms st Q → C ms st Q') : CallL C (.ref st0.length :: ds.map M.dat) (st0 ++ cells st0.length s) Q := by
  refine ⟨[st0.length, st0.length + 1, st0.length + 2, st0.length + 3, st0.length + 4, st0.length + 5, st0.length + 6, st0.length + 7], .ref 0 :: ds.map M.dat, cells 0 s, ?_, ?_, ?_, hm _ _ _ _ ?_ h⟩
  · simp
  · simp [renM, phi]
  · simp [cells, renC, flds, renM, phi]
  · rintro m st' ⟨s', d, rfl, rfl, q⟩
    rw [merge8 _ _ _ _ rfl]
    exact q
theorem ok_init (img nums : List Int) (n : Nat) (h1 : img.length ≤ LINE) (h2 : nums.length ≤ LINE) (hn : n ≤ LINE) : (MS.init img nums).ok n := by
  refine ⟨?_, ?_, ?_, ?_, h1, h2, Int.le_refl _⟩ <;> simp [MS.init] <;> exact hn
theorem pure_run : PureOk ["image", "numbers", "fuel", "state", "steps"] ["image", "numbers", "fuel"] C_run w_run := by
  rintro ms st Po ⟨m1, m2, img, nums, n, rfl, h1, h2, hl1, hl2, hn, hQ⟩
  refine ⟨rfl, ?_⟩
  simp [w_run, wsCut]
  refine ⟨st, m1, m2, img, nums, rfl, rfl, h1, h2, hl1, hl2, rfl, ?_⟩
  simp [List.getElem?_append_right, CallX]
  refine callState (ds := [.int n]) (C := C_State_advance) ⟨_, n, rfl, rfl, ok_init _ _ _ hl1 hl2 hn, _, _, rfl, rfl, ?_⟩ ?_
  · generalize hs : advM n (MS.init img nums) = z at hQ ⊢
    obtain ⟨c, s'⟩ := z
    refine ⟨_, by rw [List.getElem?_append_right (Nat.le_refl _), Nat.sub_self]; rfl, f_has_ended _ _ _ _, callState (ds := []) (C := C_State_has_ended) ⟨s', rfl, rfl, s', _, rfl, rfl, ?_⟩ ?_⟩
    · refine ⟨_, by rw [List.getElem?_append_right (Nat.le_refl _), Nat.sub_self]; rfl, _, rfl, _, rfl, .inl ⟨intL s'.out, ?_, by decide, _, rfl, ?_⟩⟩
      · rw [List.getElem?_append_right (by omega), Nat.add_sub_cancel_left]
        rfl
      · rw [List.set_append_right _ _ (by omega)]
        refine CutM.drop ?_
        simpa [runM, hs] using hQ
    · rintro ms st Q Q' hq ⟨s, e1, e2, q⟩
      exact ⟨s, e1, e2, hq _ _ q⟩
  · rintro ms st Q Q' hq ⟨s, n, e1, e2, e3, q⟩
    exact ⟨s, n, e1, e2, e3, hq _ _ q⟩
end PP

/-! L39: the law's own defs keep their promises. -/
namespace PP
open PySem
theorem pure_seed_image : PureOk [] [] C_seed_image w_seed_image := by
  rintro ms st Po ⟨rfl, hQ⟩
  refine ⟨rfl, ?_⟩
  simp [w_seed_image, T_SEED]
  exact hQ
theorem pure_law_number : PureOk ["_law_cell"] ["_law_cell"] C_law_number w_law_number := by
  rintro ms st Po ⟨i, rfl, hQ⟩
  refine ⟨rfl, ?_⟩
  simp [-Bool.exists_bool, w_law_number]
  split <;> exact hQ _
theorem pure_law_next : PureOk ["_law_draws_here"] ["_law_draws_here"] C_law_next w_law_next := by
  rintro ms st Po ⟨i, ds, rfl, hi, h1, h2⟩
  refine ⟨rfl, ?_⟩
  rcases List.eq_nil_or_concat ds with rfl | ⟨r, d, rfl⟩
  · simp [-Bool.exists_bool, w_law_next, hi]
    exact h1 rfl
  · have e : (intL r ++ [D.int d]).isEmpty = false := by cases r <;> rfl
    simp [-Bool.exists_bool, w_law_next, hi, and_assoc, e]
    exact h2 r d (by simp)
theorem pure_law_code : PureOk ["_law_draw", "_law_table", "_law_kind", "_law_rest"] ["_law_draw"] C_law_code w_law_code := by
  rintro ms st Po ⟨i, rfl, hQ⟩
  refine ⟨rfl, ?_⟩
  simp [-Bool.exists_bool, w_law_code, fIx]
  refine ⟨by decide, ?_⟩
  split
  · exact hQ _
  · split
    · have e := Int.emod_nonneg (i / 10) (show (8 : Int) ≠ 0 by decide)
      have e2 := Int.emod_lt_of_pos (i / 10) (show (0 : Int) < 8 by decide)
      generalize i / 10 % 8 = z at e e2 ⊢
      have : z = 0 ∨ z = 1 ∨ z = 2 ∨ z = 3 ∨ z = 4 ∨ z = 5 ∨ z = 6 ∨ z = 7 := by omega
      rcases this with rfl | rfl | rfl | rfl | rfl | rfl | rfl | rfl <;> exact ⟨_, rfl, hQ _⟩
    · split
      · exact hQ _
      · split
        · exact hQ _
        · exact ⟨_, ⟨.inl (by decide), rfl⟩, hQ _⟩
theorem pure_law_is_integer : PureOk ["_law_actual"] ["_law_actual"] C_law_is_integer w_law_is_integer := by
  rintro ms st Po ⟨i, rfl, hQ⟩
  refine ⟨rfl, ?_⟩
  simp [-Bool.exists_bool, w_law_is_integer, subTy]
  exact hQ
theorem pure_law_is_row : PureOk ["_law_actual", "_law_number_here"] ["_law_actual"] C_law_is_row w_law_is_row := by
  rintro ms st Po ⟨m, l, rfl, hl, ht, hQ⟩
  refine ⟨rfl, ?_⟩
  simp [-Bool.exists_bool, w_law_is_row, subTy, ht, hl, wsFor]
  refine ⟨fun pre ds st' => (∃ x, ds = [some m, x]) ∧ st' = st, ⟨⟨_, rfl⟩, rfl⟩, ?_, ?_⟩
  · rintro pre x post ds st' hx ⟨⟨x2, rfl⟩, rfl⟩
    unfold intL at hx
    rw [List.map_map] at hx
    obtain ⟨l1, a, l2, rfl, rfl, rfl, rfl⟩ := map_split hx
    refine ⟨hl, ?_⟩
    simp [-Bool.exists_bool]
    exact ⟨a, rfl, by simp⟩
  · rintro ds st' ⟨⟨x2, rfl⟩, rfl⟩
    exact ⟨hl, hQ⟩
theorem at3_0 (a b c : D) : atP [a, b, c] 0 = some a := rfl
theorem at3_1 (a b c : D) : atP [a, b, c] 1 = some b := rfl
theorem at3_2 (a b c : D) : atP [a, b, c] 2 = some c := rfl
theorem pure_law_wrote : PureOk ["_law_result", "_law_due", "_law_most"] ["_law_result", "_law_due", "_law_most"] C_law_wrote w_law_wrote := by
  rintro ms st Po ⟨m, l, n, k, rfl, hm, h0, hk, hQ⟩
  refine ⟨rfl, ?_⟩
  have e := fEq_lst (st := st) (x := .dat (.lst (intL l))) (y := m) rfl hm (shp_ints l) (shp_ints l)
  simp [-Bool.exists_bool, w_law_wrote, subTy, fIx, fIsNot, at3_0, at3_1, at3_2]
  refine ⟨_, l, rfl, rfl, rfl, ?_⟩
  simp [-Bool.exists_bool]
  refine ⟨n, rfl, ?_⟩
  simp [-Bool.exists_bool, e, h0, hk]
  exact hQ
theorem readable_len (l : List Int) : (readable l).length ≤ l.length := by
  induction l with
  | nil => simp [readable]
  | cons c r ih =>
    unfold readable
    split <;> simp <;> omega
theorem readable_take (l1 l2 : List Int) (h : ∀ x ∈ l1, ¬x < 0) : readable (l1 ++ l2) = l1 ++ readable l2 := by
  induction l1 with
  | nil => rfl
  | cons c r ih =>
    have hc := h c List.mem_cons_self
    simp only [List.cons_append, readable, if_neg hc]
    rw [ih fun x hx => h x (List.mem_cons_of_mem _ hx)]
theorem pure_law_readable : PureOk ["_law_codes_here", "_law_row", "_law_code_here"] ["_law_codes_here"] C_law_readable w_law_readable := by
  rintro ms st Po ⟨m, l, rfl, hl, hn, hQ⟩
  refine ⟨rfl, ?_⟩
  simp [-Bool.exists_bool, w_law_readable, wsFor, listOf_app hl]
  refine ⟨fun pre ds st' => (∃ x, ds = [some m, some (.ref st.length), x]) ∧ ∃ l1 l2, l = l1 ++ l2 ∧ pre = (intL l1).map M.dat ∧ (∀ x ∈ l1, ¬x < 0) ∧ st' = st ++ [.lst (intL l1)], ⟨⟨_, rfl⟩, [], l, rfl, rfl, by simp, rfl⟩, ?_, ?_⟩
  · rintro pre x post ds st' hx ⟨⟨x2, rfl⟩, l1, l2, rfl, rfl, hp, rfl⟩
    refine ⟨listOf_app hl _, ?_⟩
    unfold intL at hx
    rw [List.map_map, List.map_map] at hx
    obtain ⟨k1, a, k2, e2, e3, rfl, rfl⟩ := map_split hx
    have e4 : l1 = k1 := by
      have hlen := congrArg List.length e3
      simp at hlen
      exact (List.append_inj e2 hlen).1
    subst e4
    have e5 : l2 = a :: k2 := by simpa using e2
    subst e5
    by_cases ha : a < 0
    · have : readable (l1 ++ a :: k2) = l1 := by
        rw [readable_take _ _ hp]
        simp [readable, ha]
      rw [this] at hQ
      simpa [-Bool.exists_bool, ha] using hQ
    · simp [-Bool.exists_bool, ha]
      simp at hn
      refine ⟨by omega, l1 ++ [a], ⟨k2, by simp⟩, by simp [intL], ?_, by simp⟩
      intro x hx
      rcases List.mem_append.mp hx with hx | hx
      · have := hp x hx
        omega
      · simp at hx
        omega
  · rintro ds st' ⟨⟨x2, rfl⟩, l1, l2, rfl, e, hp, rfl⟩
    refine ⟨listOf_app hl _, ?_⟩
    have e3 : l2 = [] := by
      have hlen := congrArg List.length e
      simp at hlen
      exact hlen
    subst e3
    have : readable (l1 ++ []) = l1 := by
      rw [readable_take _ _ hp]
      simp [readable]
    rw [this] at hQ
    simpa using hQ
end PP

/-! L39b: draws, codes, digits. -/
namespace PP
open PySem
theorem snoc_get (st : Sto) (c : Cell) : (st ++ [c])[st.length]? = some c := by simp
theorem snoc_set (st : Sto) (c d : Cell) : (st ++ [c]).set st.length d = st ++ [d] := by simp
theorem pure_law_codes : PureOk ["_law_draws_here", "_law_most", "_law_codes_here", "_law_k"] ["_law_draws_here", "_law_most"] C_law_codes w_law_codes := by
  rintro ms st Po ⟨i, ds, n, rfl, hn, hi, hQ⟩
  refine ⟨rfl, ?_⟩
  have hlt : i < st.length := (List.getElem?_eq_some_iff.mp hi).1
  have hb : bnd62 (n : Int) = true := by simp [bnd62]; omega
  simp [-Bool.exists_bool, w_law_codes, wsFor, rng1, hb, and_assoc]
  refine ⟨fun pre sl st' => (∃ x, sl = [some (.ref i), some (.dat (.int n)), some (.ref st.length), x]) ∧ ∃ r cs, st' = st.set i (.lst (intL r)) ++ [.lst (intL cs)] ∧ cs.length ≤ pre.length, ⟨⟨_, rfl⟩, ds, [], ?_, by simp⟩, ?_, ?_⟩
  · have : st.set i (.lst (intL ds)) = st := by
      apply List.ext_getElem?
      intro j
      rw [List.getElem?_set]
      split
      · rename_i e
        subst e
        simp [hi]
      · rfl
    rw [this]
    rfl
  · rintro pre x post sl st' hx ⟨⟨x2, rfl⟩, r, cs, rfl, hc⟩
    obtain ⟨h1, rfl⟩ := rngItems_split hx
    have e1 : (st.set i (.lst (intL r)) ++ [Cell.lst (intL cs)])[i]? = some (.lst (intL r)) := by
      rw [List.getElem?_append_left (by simpa using hlt), List.getElem?_set]
      simp [hlt]
    have e2 : (st.set i (.lst (intL r)) ++ [Cell.lst (intL cs)])[st.length]? = some (.lst (intL cs)) := by
      rw [List.getElem?_append_right (by simp)]
      simp
    have e3 : ∀ q, (st.set i (.lst (intL r)) ++ [Cell.lst (intL cs)]).set i (.lst (intL q)) = st.set i (.lst (intL q)) ++ [Cell.lst (intL cs)] := fun q => by
      rw [List.set_append_left _ _ (by simpa using hlt), List.set_set]
    simp [-Bool.exists_bool, e1, e2]
    rcases List.eq_nil_or_concat r with rfl | ⟨q, d, rfl⟩
    · simp [-Bool.exists_bool]
      exact hQ cs [] (by omega)
    · have en : (intL (q.concat d)).isEmpty = false := by
        rw [List.concat_eq_append]
        cases q <;> rfl
      simp only [en]
      simp [-Bool.exists_bool]
      refine ⟨i, q ++ [d], rfl, by simpa using e1, by simp, fun r' d' hr => ?_⟩
      obtain ⟨rfl, rfl⟩ : q = r' ∧ d = d' := by
        have := List.append_inj' hr rfl
        simpa using this
      refine ⟨d, rfl, fun j => ?_⟩
      have e4 := e3 q
      have e5 : ∀ q, (st.set i (.lst (intL q)) ++ [Cell.lst (intL cs)])[st.length]? = some (.lst (intL cs)) := fun q => by
        rw [List.getElem?_append_right (by simp)]
        simp
      have hL : LINE = 16777216 := rfl
      rw [show intL q ++ [D.int d] = intL (q.concat d) by simp] 
      rw [e4]
      simp [e5]
      refine ⟨by omega, q, cs ++ [j], by simp, by simp; omega⟩
  · rintro sl st' ⟨⟨x2, rfl⟩, r, cs, rfl, hc⟩
    rw [rngItems_length] at hc
    exact ⟨_, rfl, hQ cs r hc⟩
theorem pure_law_draws : PureOk ["_law_script", "_law_draws_here", "_law_cell", "_law_rest", "_law_k", "_law_once", "_law_twice"] ["_law_script"] C_law_draws w_law_draws := by
  rintro ms st Po ⟨m, l, rfl, hl, hn, hQ⟩
  refine ⟨rfl, ?_⟩
  simp [-Bool.exists_bool, w_law_draws, wsFor, listOf_app hl]
  refine ⟨fun pre sl st' => (∃ x2 x3 x4 x5 x6, sl = [some m, some (.ref st.length), x2, x3, x4, x5, x6]) ∧ ∃ dl, st' = st ++ [.lst (intL dl)] ∧ dl.length ≤ 60 * pre.length, ⟨⟨_, _, _, _, _, rfl⟩, [], rfl, by simp⟩, ?_, ?_⟩
  · rintro pre x post sl st' hx ⟨⟨x2, x3, x4, x5, x6, rfl⟩, dl, rfl, hd⟩
    refine ⟨listOf_app hl _, ?_⟩
    unfold intL at hx
    rw [List.map_map] at hx
    obtain ⟨k1, a, k2, rfl, rfl, rfl, rfl⟩ := map_split hx
    have hL : LINE = 16777216 := rfl
    simp at hd hn
    simp [-Bool.exists_bool]
    refine ⟨a, rfl, fun rest => ?_⟩
    simp [-Bool.exists_bool, small64]
    split
    · refine ⟨0, 1, 60, rfl, fun pre ds' st' => (∃ r4 v, ds' = [some m, some (.ref st.length), some (.dat (.int a)), some (.dat (.int v)), r4, x5, x6]) ∧ ∃ dl', st' = st ++ [.lst (intL dl')] ∧ dl'.length ≤ dl.length + pre.length, ⟨⟨_, _, rfl⟩, dl, rfl, by simp⟩, ?_, ?_⟩
      · rintro pre x post ds' st' hx' ⟨⟨r4, v, rfl⟩, dl', rfl, hd'⟩
        obtain ⟨h1, rfl⟩ := rngItems_split hx'
        simp [-Bool.exists_bool]
        by_cases hv : v = 0
        · simp [hv]
          exact ⟨dl', rfl, by omega⟩
        · simp [hv]
          exact ⟨by omega, dl' ++ [v % 1000], by simp, by simp; omega⟩
      · rintro ds' st' ⟨⟨r4, v, rfl⟩, dl', rfl, hd'⟩
        rw [rngItems_length] at hd'
        exact ⟨⟨_, _, _, _, _, rfl⟩, dl', rfl, by omega⟩
    · exact ⟨by decide, by omega, dl ++ [_, _, _], by rw [ints_append]; rfl, by simp; omega⟩
  · rintro sl st' ⟨⟨x2, x3, x4, x5, x6, rfl⟩, dl, rfl, hd⟩
    refine ⟨listOf_app hl _, _, rfl, hQ dl ?_⟩
    simp at hd
    omega
theorem digits_app (l1 : List Int) (c : Int) (l2 : List Int) : True := trivial
/-- the state behind the codes l: the numbers, the value, whether a numeral stands open -/
def digF : List Int × Int × Bool → Int → List Int × Int × Bool := fun s c => if 48 ≤ c ∧ c ≤ 57 then (s.1, 10 * s.2.1 + c - 48, true) else (if s.2.2 then s.1 ++ [s.2.1] else s.1, 0, false)
def digE (s : List Int × Int × Bool) : List Int := if s.2.2 then s.1 ++ [s.2.1] else s.1
theorem dig_go : ∀ (l : List Int) (n : List Int) (v : Int) (f : Bool), digE (l.foldl digF (n, v, f)) = n ++ digitsM l v f
  | [], n, v, true => rfl
  | [], n, v, false => by simp [digE, digitsM]
  | c :: r, n, v, f => by
    rw [List.foldl_cons]
    by_cases h : 48 ≤ c ∧ c ≤ 57
    · have e : digF (n, v, f) c = (n, 10 * v + c - 48, true) := by
        unfold digF
        rw [if_pos h]
      rw [e]
      unfold digitsM
      rw [if_pos h]
      exact dig_go r _ _ _
    · have e : digF (n, v, f) c = (if f then n ++ [v] else n, 0, false) := by
        unfold digF
        rw [if_neg h]
      rw [e, dig_go r]
      have e2 : digitsM (c :: r) v f = if f then v :: digitsM r 0 false else digitsM r 0 false := by
        rw [digitsM, if_neg h]
      rw [e2]
      cases f <;> simp
theorem dig_len : ∀ (l : List Int) (s : List Int × Int × Bool), (l.foldl digF s).1.length ≤ s.1.length + l.length
  | [], s => by simp
  | c :: r, s => by
    have h := dig_len r (digF s c)
    have h2 : (digF s c).1.length ≤ s.1.length + 1 := by
      unfold digF
      split
      · simp
      · simp only
        split <;> simp
    simp only [List.foldl_cons, List.length_cons]
    omega
def Idig (m : M) (st : Sto) (l : List Int) (pre : List M) (ds : Sl) (st' : Sto) : Prop := ∃ l1 l2 x s, l = l1 ++ l2 ∧ pre = (intL l1).map M.dat ∧ l1.foldl digF ([], 0, false) = s ∧ ds = [some m, some (.ref st.length), some (.dat (.int s.2.1)), some (.dat (.bl s.2.2)), x] ∧ st' = st ++ [.lst (intL s.1)]
theorem pure_law_digits : PureOk ["_law_codes_here", "_law_numbers", "_law_value", "_law_inside", "_law_code_here"] ["_law_codes_here"] C_law_digits w_law_digits := by
  rintro ms st Po ⟨m, l, rfl, hl, hn, hQ⟩
  refine ⟨rfl, ?_⟩
  simp [-Bool.exists_bool, w_law_digits, wsFor, listOf_app hl]
  refine ⟨Idig m st l, ⟨[], l, _, _, rfl, rfl, rfl, rfl, rfl⟩, ?_, ?_⟩
  · rintro pre x post ds st' hx ⟨l1, l2, x2, ⟨n, v, f⟩, rfl, rfl, hs, rfl, rfl⟩
    refine ⟨listOf_app hl _, ?_⟩
    unfold intL at hx
    rw [List.map_map, List.map_map] at hx
    obtain ⟨k1, a, k2, e2, e3, rfl, rfl⟩ := map_split hx
    have e4 : l1 = k1 := by
      have hlen := congrArg List.length e3
      simp at hlen
      exact (List.append_inj e2 hlen).1
    subst e4
    have e5 : l2 = a :: k2 := by simpa using e2
    subst e5
    have hz := dig_len l1 ([], 0, false)
    rw [hs] at hz
    simp at hn hz
    have ef : (l1 ++ [a]).foldl digF ([], 0, false) = digF (n, v, f) a := by simp [hs]
    have fin : ∀ s x, digF (n, v, f) a = s → Idig m st (l1 ++ a :: k2) ((intL l1).map M.dat ++ [.dat (.int a)]) [some m, some (.ref st.length), some (.dat (.int s.2.1)), some (.dat (.bl s.2.2)), x] (st ++ [.lst (intL s.1)]) := fun s x h => ⟨l1 ++ [a], k2, x, s, by simp, by simp, ef.trans h, rfl, rfl⟩
    by_cases h1 : 48 ≤ a ∧ a ≤ 57
    · have ew : digF (n, v, f) a = (n, 10 * v + a - 48, true) := by
        unfold digF
        rw [if_pos h1]
      simp [-Bool.exists_bool, h1.1, h1.2, small64]
      exact fin _ _ ew
    · have ew : digF (n, v, f) a = (if f then n ++ [v] else n, 0, false) := by
        unfold digF
        rw [if_neg h1]
      have n1 : ¬48 ≤ a ∨ ¬a ≤ 57 := by omega
      cases f with
      | false =>
        have q := fin _ (some (.dat (.int a))) ew
        rcases n1 with n1 | n1 <;> simp [-Bool.exists_bool, n1] <;> exact q
      | true =>
        have q := fin _ (some (.dat (.int a))) ew
        simp only [if_true, ints_append, ints_cons, ints_nil] at q
        rcases n1 with n1 | n1 <;> simp [-Bool.exists_bool, n1] <;> exact ⟨by omega, q⟩
  · rintro ds st' ⟨l1, l2, x2, ⟨n, v, f⟩, rfl, e, hs, rfl, rfl⟩
    refine ⟨listOf_app hl _, ?_⟩
    have e3 : l2 = [] := by
      have hlen := congrArg List.length e
      simp at hlen
      exact hlen
    subst e3
    rw [List.append_nil] at hQ hn
    have hd := dig_go l1 [] 0 false
    have hz := dig_len l1 ([], 0, false)
    rw [hs] at hd hz
    rw [List.nil_append] at hd
    rw [← hd] at hQ
    simp at hz
    cases f with
    | false => simpa [-Bool.exists_bool, digE] using hQ
    | true =>
      simp [-Bool.exists_bool]
      refine ⟨by omega, ?_⟩
      simpa [digE] using hQ
end PP

/-! M39: the seed reads digits. -/
namespace PP
open PySem
def iter : Nat → MS → Option MS
  | 0, s => some s
  | n + 1, s => match stepM s with
    | some s' => iter n s'
    | none => none
def Go (k : Nat) (s s' : MS) : Prop := iter k s = some s'
theorem Go.trans : ∀ {a b : Nat} {s s' s'' : MS}, Go a s s' → Go b s' s'' → Go (a + b) s s''
  | 0, b, s, s', s'', h1, h2 => by
    cases h1
    rw [Nat.zero_add]
    exact h2
  | a + 1, b, s, s', s'', h1, h2 => by
    unfold Go at h1 ⊢
    rw [show a + 1 + b = (a + b) + 1 by omega]
    unfold iter at h1 ⊢
    cases q : stepM s with
    | none => rw [q] at h1; cases h1
    | some t =>
      rw [q] at h1
      exact Go.trans (a := a) h1 h2
theorem Go.adv : ∀ {k : Nat} {s s' : MS} (m : Nat), Go k s s' → advM (k + m) s = (k + (advM m s').1, (advM m s').2)
  | 0, s, s', m, h => by
    cases h
    simp
  | k + 1, s, s', m, h => by
    unfold Go iter at h
    rw [show k + 1 + m = (k + m) + 1 by omega]
    conv => lhs; unfold advM
    cases q : stepM s with
    | none => rw [q] at h; cases h
    | some t =>
      rw [q] at h
      have := Go.adv (k := k) m h
      simp only [this]
      rw [show k + (advM m s').1 + 1 = k + 1 + (advM m s').1 by omega]
def sTab : List (Int × Int × Int × Int) := seedNd
theorem sTab_eq : tableOf seedL = sTab := by decide +kernel
def S (nums : List Int) (sto : List (Int × Int)) (a : Int) (pl : Int) (stk out : List Int) (n : Int) : MS := { img := seedL, nums := nums, tab := sTab, at_ := a, stk := stk, sto := sto, back := [], place := pl, out := out, steps := n }
/-- the store: c, and, behind the first digit, r and f -/
def sto3 (t : Option (Int × Int)) (c : Int) : List (Int × Int) := match t with
  | none => [(99, c)]
  | some (r, f) => [(99, c), (114, r), (102, f)]
section
variable {nums : List Int} {t : Option (Int × Int)} {c d r f pl n : Int} {out : List Int}
theorem g_1a : ∃ n', Go 4 (S nums [] 1 pl [c] out n) (S nums (sto3 none c) 5 pl [if 47 < c then 1 else 0] out n') := ⟨_, rfl⟩
theorem g_1 : ∃ n', Go 4 (S nums (sto3 t d) 1 pl [c] out n) (S nums (sto3 t c) 5 pl [if 47 < c then 1 else 0] out n') := by
  cases t <;> exact ⟨_, rfl⟩
theorem g_5t : ∃ n', Go 1 (S nums (sto3 t c) 5 pl [1] out n) (S nums (sto3 t c) 6 pl [] out n') := ⟨_, rfl⟩
theorem g_5f : ∃ n', Go 1 (S nums (sto3 t c) 5 pl [0] out n) (S nums (sto3 t c) 18 pl [] out n') := ⟨_, rfl⟩
theorem g_6 : ∃ n', Go 3 (S nums (sto3 t c) 6 pl [] out n) (S nums (sto3 t c) 9 pl [if c < 58 then 1 else 0] out n') := by
  cases t <;> exact ⟨_, rfl⟩
theorem g_9t : ∃ n', Go 1 (S nums (sto3 t c) 9 pl [1] out n) (S nums (sto3 t c) 10 pl [] out n') := ⟨_, rfl⟩
theorem g_9f : ∃ n', Go 1 (S nums (sto3 t c) 9 pl [0] out n) (S nums (sto3 t c) 18 pl [] out n') := ⟨_, rfl⟩
theorem g_10n : ∃ n', Go 8 (S nums (sto3 none c) 10 pl [] out n) (S nums (sto3 (some (10 * 0 + (c - 48), 1)) c) 0 pl [] out n') := ⟨_, rfl⟩
theorem g_10s : ∃ n', Go 8 (S nums (sto3 (some (r, f)) c) 10 pl [] out n) (S nums (sto3 (some (10 * r + (c - 48), 1)) c) 0 pl [] out n') := ⟨_, rfl⟩
theorem g_18n : ∃ n', Go 2 (S nums (sto3 none c) 18 pl [] out n) (S nums (sto3 none c) 26 pl [] out n') := ⟨_, rfl⟩
theorem g_18f : ∃ n', Go 2 (S nums (sto3 (some (r, 0)) c) 18 pl [] out n) (S nums (sto3 (some (r, 0)) c) 26 pl [] out n') := ⟨_, rfl⟩
theorem g_18t : ∃ n', Go 8 (S nums (sto3 (some (r, 1)) c) 18 pl [] out n) (S nums (sto3 (some (0, 0)) c) 26 pl [] (out ++ [r]) n') := ⟨_, rfl⟩
theorem g_26 : ∃ n', Go 3 (S nums (sto3 t c) 26 pl [] out n) (S nums (sto3 t c) 29 pl [if c < 0 then 1 else 0] out n') := by
  cases t <;> exact ⟨_, rfl⟩
theorem g_29t : ∃ n', Go 1 (S nums (sto3 t c) 29 pl [1] out n) (S nums (sto3 t c) 50 pl [] out n') := ⟨_, rfl⟩
theorem g_29f : ∃ n', Go 1 (S nums (sto3 t c) 29 pl [0] out n) (S nums (sto3 t c) 0 pl [] out n') := ⟨_, rfl⟩
theorem stop50 {sto : List (Int × Int)} : stepM (S nums sto 50 pl [] out n) = none := rfl
end
/-- what the machine knows of the codes so far -/
def Sem (t : Option (Int × Int)) (v : Int) (f : Bool) : Prop := match t with
  | none => v = 0 ∧ f = false
  | some (r, g) => r = v ∧ g = (if f then 1 else 0) ∧ (f = false → v = 0)
theorem take_go {nums : List Int} {sto : List (Int × Int)} {pre post : List Int} {c : Int} {out : List Int} {n : Int} (h : nums = pre ++ c :: post) : ∃ n', Go 1 (S nums sto 0 (pre.length : Int) [] out n) (S nums sto 1 ((pre ++ [c]).length : Int) [c] out n') := by
  refine ⟨n + 1, ?_⟩
  have e : stepM (S nums sto 0 (pre.length : Int) [] out n) = some (dTake (S nums sto 1 (pre.length : Int) [] out (n + 1)) 0) := rfl
  have e2 : dTake (S nums sto 1 (pre.length : Int) [] out (n + 1)) 0 = S nums sto 1 ((pre ++ [c]).length : Int) [c] out (n + 1) := by
    subst h
    unfold dTake
    have h1 : ((pre.length : Nat) : Int) < ((pre ++ c :: post).length : Nat) := by simp; omega
    refine (if_pos h1).trans ?_
    have h2 : (pre ++ c :: post)[((pre.length : Nat) : Int).toNat]? = some c := by simp
    show ({ push (S (pre ++ c :: post) sto 1 (pre.length : Int) [] out (n + 1)) ((pre ++ c :: post)[((pre.length : Nat) : Int).toNat]?.getD 0) with place := (pre.length : Int) + 1 } : MS) = _
    rw [h2]
    simp [S, push]
  unfold Go iter
  rw [e, e2]
  rfl
theorem take_end {nums : List Int} {sto : List (Int × Int)} {out : List Int} {n : Int} : ∃ n', Go 1 (S nums sto 0 (nums.length : Int) [] out n) (S nums sto 1 (nums.length : Int) [-1] out n') := by
  refine ⟨n + 1, ?_⟩
  have e : stepM (S nums sto 0 (nums.length : Int) [] out n) = some (dTake (S nums sto 1 (nums.length : Int) [] out (n + 1)) 0) := rfl
  have e2 : dTake (S nums sto 1 (nums.length : Int) [] out (n + 1)) 0 = S nums sto 1 (nums.length : Int) [-1] out (n + 1) := by
    unfold dTake
    have h1 : ¬((nums.length : Nat) : Int) < (nums.length : Nat) := by omega
    exact (if_neg h1).trans rfl
  unfold Go iter
  rw [e, e2]
  rfl
section
variable {nums : List Int} {t : Option (Int × Int)} {c v pl n : Int} {out : List Int} {f : Bool}
/-- behind node 5, a digit -/
theorem turn_digit (h : 48 ≤ c ∧ c ≤ 57) (hs : Sem t v f) : ∃ k n' t', k ≤ 13 ∧ Go k (S nums (sto3 t c) 5 pl [if 47 < c then 1 else 0] out n) (S nums (sto3 t' c) 0 pl [] out n') ∧ Sem t' (10 * v + c - 48) true := by
  rw [if_pos (by omega)]
  obtain ⟨n1, g1⟩ := @g_5t nums t c pl n out
  obtain ⟨n2, g2⟩ := @g_6 nums t c pl n1 out
  rw [if_pos (by omega)] at g2
  obtain ⟨n3, g3⟩ := @g_9t nums t c pl n2 out
  cases t with
  | none =>
    obtain ⟨n4, g4⟩ := @g_10n nums c pl n3 out
    obtain ⟨rfl, rfl⟩ := hs
    exact ⟨_, n4, _, by decide, ((g1.trans g2).trans g3).trans g4, by omega, rfl, by simp⟩
  | some p =>
    obtain ⟨r, g⟩ := p
    obtain ⟨rfl, hg, _⟩ := hs
    obtain ⟨n4, g4⟩ : ∃ n', Go 8 (S nums (sto3 (some (r, g)) c) 10 pl [] out n3) (S nums (sto3 (some (10 * r + (c - 48), 1)) c) 0 pl [] out n') := ⟨_, rfl⟩
    exact ⟨_, n4, _, by decide, ((g1.trans g2).trans g3).trans g4, by omega, rfl, by simp⟩
/-- behind node 5, another code: to node 26 -/
theorem turn_other (h : ¬(48 ≤ c ∧ c ≤ 57)) (hs : Sem t v f) : ∃ k n' t', k ≤ 13 ∧ Go k (S nums (sto3 t c) 5 pl [if 47 < c then 1 else 0] out n) (S nums (sto3 t' c) 26 pl [] (if f then out ++ [v] else out) n') ∧ Sem t' 0 false := by
  have to18 : ∃ k n', k ≤ 5 ∧ Go k (S nums (sto3 t c) 5 pl [if 47 < c then 1 else 0] out n) (S nums (sto3 t c) 18 pl [] out n') := by
    by_cases h1 : 47 < c
    · rw [if_pos h1]
      obtain ⟨n1, g1⟩ := @g_5t nums t c pl n out
      obtain ⟨n2, g2⟩ := @g_6 nums t c pl n1 out
      rw [if_neg (by omega)] at g2
      obtain ⟨n3, g3⟩ := @g_9f nums t c pl n2 out
      exact ⟨_, n3, by decide, (g1.trans g2).trans g3⟩
    · rw [if_neg h1]
      obtain ⟨n1, g1⟩ := @g_5f nums t c pl n out
      exact ⟨_, n1, by decide, g1⟩
  obtain ⟨k, n1, hk, g1⟩ := to18
  cases t with
  | none =>
    obtain ⟨rfl, rfl⟩ := hs
    obtain ⟨n2, g2⟩ := @g_18n nums c pl n1 out
    exact ⟨_, n2, none, by omega, g1.trans g2, rfl, rfl⟩
  | some p =>
    obtain ⟨r, g⟩ := p
    obtain ⟨rfl, hg, h0⟩ := hs
    cases f with
    | false =>
      obtain rfl := h0 rfl
      obtain rfl : g = 0 := hg
      obtain ⟨n2, g2⟩ := @g_18f nums c 0 pl n1 out
      exact ⟨_, n2, _, by omega, g1.trans g2, rfl, rfl, fun _ => rfl⟩
    | true =>
      obtain rfl : g = 1 := hg
      obtain ⟨n2, g2⟩ := @g_18t nums c r pl n1 out
      exact ⟨_, n2, _, by omega, g1.trans g2, rfl, rfl, fun _ => rfl⟩
end
/-- from node 1 on, the store being whatever it is -/
def Pre (nums : List Int) (sto : List (Int × Int)) (v : Int) (f : Bool) : Prop := ∃ t : Option (Int × Int), Sem t v f ∧ ∀ c pl n out, ∃ n', Go 4 (S nums sto 1 pl [c] out n) (S nums (sto3 t c) 5 pl [if 47 < c then 1 else 0] out n')
theorem pre_nil (nums : List Int) : Pre nums [] 0 false := ⟨none, ⟨rfl, rfl⟩, fun _ _ _ _ => g_1a⟩
theorem pre_sto {nums : List Int} {t : Option (Int × Int)} {d v : Int} {f : Bool} (h : Sem t v f) : Pre nums (sto3 t d) v f := ⟨t, h, fun _ _ _ _ => g_1⟩
theorem seed_loop (nums : List Int) : ∀ (post pre : List Int) (sto : List (Int × Int)) (v : Int) (f : Bool) (out : List Int) (n : Int), nums = pre ++ post → Pre nums sto v f →
    ∃ k s', Go k (S nums sto 0 (pre.length : Int) [] out n) s' ∧ stepM s' = none ∧ s'.out = out ++ digitsM (readable post) v f ∧ 0 < k ∧ k ≤ 22 * (readable post).length + 22
  | [], pre, sto, v, f, out, n, hn, ⟨t, hs, hg⟩ => by
    have hp : pre = nums := by simp [hn]
    subst hp
    obtain ⟨n1, g1⟩ := @take_end pre sto out n
    obtain ⟨n2, g2⟩ := hg (-1) (pre.length : Int) n1 out
    obtain ⟨k, n3, t', hk, g3, hs'⟩ := turn_other (nums := pre) (c := -1) (pl := (pre.length : Int)) (n := n2) (out := out) (by omega) hs
    obtain ⟨n4, g4⟩ := @g_26 pre t' (-1) (pre.length : Int) n3 (if f then out ++ [v] else out)
    rw [if_pos (show (-1 : Int) < 0 by decide)] at g4
    obtain ⟨n5, g5⟩ := @g_29t pre t' (-1) (pre.length : Int) n4 (if f then out ++ [v] else out)
    refine ⟨_, _, (((g1.trans g2).trans g3).trans g4).trans g5, stop50, ?_, by omega, by show _ ≤ 22 * 0 + 22; omega⟩
    cases f <;> simp [S, readable, digitsM]
  | c :: post, pre, sto, v, f, out, n, hn, ⟨t, hs, hg⟩ => by
    obtain ⟨n1, g1⟩ := take_go (sto := sto) (out := out) (n := n) hn
    obtain ⟨n2, g2⟩ := hg c ((pre ++ [c]).length : Int) n1 out
    by_cases hd : 48 ≤ c ∧ c ≤ 57
    · obtain ⟨k, n3, t', hk, g3, hs'⟩ := turn_digit (nums := nums) (c := c) (pl := ((pre ++ [c]).length : Int)) (n := n2) (out := out) hd hs
      obtain ⟨k2, s', g4, hstop, ho, hk0, hk2⟩ := seed_loop nums post (pre ++ [c]) (sto3 t' c) (10 * v + c - 48) true out n3 (by simp [hn]) (pre_sto hs')
      have hc : ¬c < 0 := by omega
      refine ⟨_, s', ((g1.trans g2).trans g3).trans g4, hstop, ?_, by omega, ?_⟩
      · rw [ho, readable, if_neg hc, digitsM, if_pos hd]
      · rw [readable, if_neg hc, List.length_cons]
        omega
    · obtain ⟨k, n3, t', hk, g3, hs'⟩ := turn_other (nums := nums) (c := c) (pl := ((pre ++ [c]).length : Int)) (n := n2) (out := out) hd hs
      obtain ⟨n4, g4⟩ := @g_26 nums t' c ((pre ++ [c]).length : Int) n3 (if f then out ++ [v] else out)
      by_cases hc : c < 0
      · rw [if_pos hc] at g4
        obtain ⟨n5, g5⟩ := @g_29t nums t' c ((pre ++ [c]).length : Int) n4 (if f then out ++ [v] else out)
        refine ⟨_, _, (((g1.trans g2).trans g3).trans g4).trans g5, stop50, ?_, by omega, by omega⟩
        rw [readable, if_pos hc]
        cases f <;> simp [S, digitsM]
      · rw [if_neg hc] at g4
        obtain ⟨n5, g5⟩ := @g_29f nums t' c ((pre ++ [c]).length : Int) n4 (if f then out ++ [v] else out)
        obtain ⟨k2, s', g6, hstop, ho, hk0, hk2⟩ := seed_loop nums post (pre ++ [c]) (sto3 t' c) 0 false (if f then out ++ [v] else out) n5 (by simp [hn]) (pre_sto hs')
        refine ⟨_, s', ((((g1.trans g2).trans g3).trans g4).trans g5).trans g6, hstop, ?_, by omega, ?_⟩
        · rw [ho, readable, if_neg hc, digitsM, if_neg hd]
          cases f <;> simp
        · rw [readable, if_neg hc, List.length_cons]
          omega
theorem seed_run (nums : List Int) (n : Nat) (hn : 22 * nums.length + 22 ≤ n) : ∃ k : Nat, runM seedL nums n = (true, digitsM (readable nums) 0 false, k) ∧ 0 < k ∧ k ≤ 22 * (readable nums).length + 22 := by
  obtain ⟨k, s', g, hstop, ho, hk0, hk⟩ := seed_loop nums nums [] [] 0 false [] 0 rfl (pre_nil nums)
  have hl : (readable nums).length ≤ nums.length := by
    clear hn g hstop ho hk0 hk
    induction nums with
    | nil => simp [readable]
    | cons c r ih =>
      unfold readable
      split <;> simp <;> omega
  have e : MS.init seedL nums = S nums [] 0 (([] : List Int).length : Int) [] [] 0 := by
    unfold MS.init
    rw [sTab_eq]
    rfl
  have ea : advM n (MS.init seedL nums) = (k, s') := by
    have := Go.adv (n - k) g
    rw [show k + (n - k) = n by omega] at this
    rw [e, this]
    have h0 : advM (n - k) s' = (0, s') := by
      cases n - k with
      | zero => rfl
      | succ m => simp [advM, hstop]
    rw [h0]
    rfl
  refine ⟨k, ?_, hk0, hk⟩
  have he : endedM s' = true := by
    unfold stepM at hstop
    unfold endedM
    cases q : getP s'.tab s'.at_ with
    | none => rfl
    | some p =>
      obtain ⟨o, a, su⟩ := p
      rw [q] at hstop
      cases hstop
  unfold runM
  rw [ea]
  simp only [he, ho, List.nil_append]
end PP

/-! LL39: the law. -/
namespace PP
open PySem
theorem next_weak {i : Nat} {st : Sto} {ds : List Int} {Q : M → Sto → Prop} (h : st[i]? = some (.lst (intL ds))) (hq : ∀ (d : Int) (r : List Int), Q (.dat (.int d)) (st.set i (.lst (intL r)))) : C_law_next [.ref i] st Q := by
  refine ⟨i, ds, rfl, h, fun e => ?_, fun r d _ => hq d r⟩
  subst e
  have e2 : st.set i (.lst (intL [])) = st := by
    have hlt := (List.getElem?_eq_some_iff.mp h).1
    apply List.ext_getElem?
    intro j
    rw [List.getElem?_set]
    split
    · rename_i e
      subst e
      simp [hlt, h]
      have := List.getElem?_eq_getElem hlt
      rw [h] at this
      exact Option.some.inj this
    · rfl
  have := hq 0 []
  rwa [e2] at this
theorem seed_facts : (intL seedL).length = 120 ∧ minOf seedL = 0 ∧ maxOf seedL = 114 := by decide +kernel
theorem rep_ints (n : Nat) (cs : List Int) : (List.replicate n (intL cs)).flatten = intL (List.replicate n cs).flatten := by
  induction n with
  | zero => rfl
  | succ n ih => rw [List.replicate_succ, List.replicate_succ, List.flatten_cons, List.flatten_cons, ints_append, ih]
theorem seed_len : seedL.length = 120 := by decide +kernel
theorem seed_min : minOf seedL = 0 := by decide +kernel
theorem seed_max : maxOf seedL = 114 := by decide +kernel
theorem seed_cons : ∃ i r, seedL = i :: r := ⟨_, _, rfl⟩
theorem pure_law : PureOk ["_law_script", "_law_draws_here", "_law_place", "_law_times", "_law_codes_here", "_law_seed", "_law_row", "_law_passed", "_law_kept"] ["_law_script"] C_law w_law := by
  rintro ms st Po ⟨l, rfl, rfl, hl, hQ⟩
  refine ⟨rfl, ?_⟩
  simp [-Bool.exists_bool, w_law]
  refine ⟨_, l, rfl, rfl, hl, fun ds hds => ?_⟩
  simp [-Bool.exists_bool, w_law_1, ← ints_rev]
  simp [-Bool.exists_bool, w_law_2]
  refine next_weak (ds := ds.reverse) rfl fun p r => ?_
  simp [-Bool.exists_bool, w_law_3]
  suffices key : ∀ k : Int, 1 ≤ k → k ≤ 9 → w_law_5 { nx := fun _ st => Po (.dat .non) st, rt := Po } [some (.dat (.scr (intL l))), some (.ref 0), some (.dat (.int p)), some (.dat (.int k)), none, none, none, none, none] [.lst (intL r)] by
    have h9 := Int.emod_nonneg (p / 16) (show (9 : Int) ≠ 0 by decide)
    have h8 := Int.emod_lt_of_pos (p / 16) (show (0 : Int) < 9 by decide)
    simp [-Bool.exists_bool, w_law_4]
    split
    · exact key _ (by omega) (by omega)
    · exact key 1 (by omega) (by omega)
  intro k hk1 hk9
  simp [-Bool.exists_bool, w_law_5]
  refine ⟨0, r, 60, rfl, by decide, rfl, fun cs r' hcs => ?_⟩
  have hlen : (List.replicate k.toNat cs).flatten.length ≤ 540 := by
    rw [List.length_flatten]
    simp
    have h1 : k.toNat ≤ 9 := by omega
    calc k.toNat * cs.length ≤ 9 * 60 := Nat.mul_le_mul h1 hcs
      _ = 540 := rfl
  have hL : LINE = 16777216 := rfl
  refine ⟨1, rfl, intL cs, rfl, _, ⟨⟨⟨by omega, by omega⟩, ?_⟩, rfl⟩, ?_⟩
  · rw [List.length_flatten] at hlen
    simp at hlen
    rw [ints_length, Nat.mul_comm]
    omega
  rw [rep_ints]
  generalize (List.replicate k.toNat cs).flatten = co at hlen ⊢
  simp [-Bool.exists_bool, w_law_6]
  refine ⟨rfl, ?_⟩
  simp [-Bool.exists_bool, w_law_7]
  refine ⟨_, seedL, rfl, rfl, rfl, ?_⟩
  simp [-Bool.exists_bool, seed_len]
  simp [-Bool.exists_bool, w_law_8]
  obtain ⟨s0, sr, hseed⟩ := seed_cons
  have hmin : ∀ st : Sto, listOf st (.ref 2) = some (intL seedL) → cMin st [.ref 2] = some (.int 0) := fun st h => by
    rw [cMin_list h (by rw [intsOf_ints, hseed]), ← hseed, seed_min]
  have hmax : ∀ st : Sto, listOf st (.ref 2) = some (intL seedL) → cMax st [.ref 2] = some (.int 114) := fun st h => by
    rw [cMax_list h (by rw [intsOf_ints, hseed]), ← hseed, seed_max]
  rw [hmin _ rfl]
  simp [-Bool.exists_bool]
  rw [hmax _ rfl]
  simp [-Bool.exists_bool]
  simp [-Bool.exists_bool, w_law_9]
  refine ⟨_, co, rfl, rfl, by omega, 3, rfl, .inl ⟨_, rfl, ?_⟩⟩
  simp [-Bool.exists_bool, w_law_10]
  simp [-Bool.exists_bool, w_law_11, small64]
  obtain ⟨kk, hrun, hk0, hkk⟩ := seed_run co 100000 (by omega)
  have hrl := readable_len co
  refine ⟨_, _, seedL, co, 100000, rfl, rfl, rfl, by rw [seed_len]; decide, by omega, by decide, ?_⟩
  rw [hrun]
  refine ⟨_, readable co, rfl, rfl, by omega, 4, rfl, .inl ⟨_, rfl, ?_⟩⟩
  refine ⟨_, digitsM (readable co) 0 false, kk, _, rfl, rfl, by omega, by omega, ?_⟩
  simp [-Bool.exists_bool, w_law_12]
  have h1 := Int.emod_nonneg p (show (120 : Int) ≠ 0 by decide)
  have h2 := Int.emod_lt_of_pos p (show (0 : Int) < 120 by decide)
  obtain ⟨x, hx⟩ := atP_some (xs := seedL) (i := p % 120) (by rw [seed_len]; omega) (by rw [seed_len]; omega)
  have hix : ixP 120 (p % 120) = some (p % 120).toNat := by
    unfold ixP
    rw [if_pos h1]
    exact if_pos h2
  simp [-Bool.exists_bool, w_law_13, seed_len, atP_ints, fIx, hx, hix]
  simp [-Bool.exists_bool, w_law_14]
  refine ⟨rfl, ?_⟩
  show ∃ d, fEq _ _ _ = some d ∧ _
  rw [fEq_lst (a := intL seedL) (b := intL seedL) rfl rfl (shp_ints _) (shp_ints _)]
  simp [-Bool.exists_bool]
  rw [fEq_lst (a := intL co) (b := intL co) rfl rfl (shp_ints _) (shp_ints _)]
  simp
  exact hQ _
end PP

namespace PP
open PySem PySem.Spec PyProof.Rows L2
def top (i : Nat) : Stmt := PySem.Challenge.pw_plinth_k39_seed_reads_digits.main.body.getD i (.Pass ⟨0, 0, 0, 0⟩)
def fn0 : List He.DefD := [⟨("seed_image", none), "seed_image", "seed_image", defArgs (top 3), defBody (top 3), defScope (top 3), [], []⟩, ⟨("nodes_of", none), "nodes_of", "nodes_of", defArgs (top 8), defBody (top 8), defScope (top 8), [], []⟩, ⟨("table_of", none), "table_of", "table_of", defArgs (top 9), defBody (top 9), defScope (top 9), [], []⟩, ⟨("State", some "__init__"), "__init__", "State.__init__", defArgs (inClass (top 37) 0), defBody (inClass (top 37) 0), defScope (inClass (top 37) 0), [], []⟩, ⟨("State", some "pull"), "pull", "State.pull", defArgs (inClass (top 37) 1), defBody (inClass (top 37) 1), defScope (inClass (top 37) 1), [], []⟩, ⟨("_push", none), "_push", "_push", defArgs (top 16), defBody (top 16), defScope (top 16), [], []⟩, ⟨("_plus", none), "_plus", "_plus", defArgs (top 17), defBody (top 17), defScope (top 17), [], []⟩, ⟨("_minus", none), "_minus", "_minus", defArgs (top 18), defBody (top 18), defScope (top 18), [], []⟩, ⟨("_digit", none), "_digit", "_digit", defArgs (top 19), defBody (top 19), defScope (top 19), [], []⟩, ⟨("_less", none), "_less", "_less", defArgs (top 20), defBody (top 20), defScope (top 20), [], []⟩, ⟨("_same", none), "_same", "_same", defArgs (top 21), defBody (top 21), defScope (top 21), [], []⟩, ⟨("_load", none), "_load", "_load", defArgs (top 22), defBody (top 22), defScope (top 22), [], []⟩, ⟨("_keep", none), "_keep", "_keep", defArgs (top 23), defBody (top 23), defScope (top 23), [], []⟩, ⟨("_assign", none), "_assign", "_assign", defArgs (top 24), defBody (top 24), defScope (top 24), [], []⟩, ⟨("_take", none), "_take", "_take", defArgs (top 25), defBody (top 25), defScope (top 25), [], []⟩, ⟨("_rewind", none), "_rewind", "_rewind", defArgs (top 26), defBody (top 26), defScope (top 26), [], []⟩, ⟨("_emit", none), "_emit", "_emit", defArgs (top 27), defBody (top 27), defScope (top 27), [], []⟩, ⟨("_cell", none), "_cell", "_cell", defArgs (top 28), defBody (top 28), defScope (top 28), [], []⟩, ⟨("_drop", none), "_drop", "_drop", defArgs (top 29), defBody (top 29), defScope (top 29), [], []⟩, ⟨("_double", none), "_double", "_double", defArgs (top 30), defBody (top 30), defScope (top 30), [], []⟩, ⟨("_exchange", none), "_exchange", "_exchange", defArgs (top 31), defBody (top 31), defScope (top 31), [], []⟩, ⟨("_test", none), "_test", "_test", defArgs (top 32), defBody (top 32), defScope (top 32), [], []⟩, ⟨("_call", none), "_call", "_call", defArgs (top 33), defBody (top 33), defScope (top 33), [], []⟩, ⟨("_call_low", none), "_call_low", "_call_low", defArgs (top 34), defBody (top 34), defScope (top 34), [], []⟩, ⟨("_return", none), "_return", "_return", defArgs (top 35), defBody (top 35), defScope (top 35), [], []⟩, ⟨("State", some "has_ended"), "has_ended", "State.has_ended", defArgs (inClass (top 37) 2), defBody (inClass (top 37) 2), defScope (inClass (top 37) 2), [], []⟩, ⟨("State", some "step"), "step", "State.step", defArgs (inClass (top 37) 3), defBody (inClass (top 37) 3), defScope (inClass (top 37) 3), [], []⟩, ⟨("State", some "advance"), "advance", "State.advance", defArgs (inClass (top 37) 4), defBody (inClass (top 37) 4), defScope (inClass (top 37) 4), [], []⟩, ⟨("run", none), "run", "run", defArgs (top 38), defBody (top 38), defScope (top 38), [], []⟩, ⟨("_law_number", none), "_law_number", "_law_number", defArgs (top 40), defBody (top 40), defScope (top 40), [], []⟩]
def fn1 : List He.DefD := [⟨("_law_draws", none), "_law_draws", "_law_draws", defArgs (top 41), defBody (top 41), defScope (top 41), [], []⟩, ⟨("_law_next", none), "_law_next", "_law_next", defArgs (top 42), defBody (top 42), defScope (top 42), [], []⟩, ⟨("_law_code", none), "_law_code", "_law_code", defArgs (top 43), defBody (top 43), defScope (top 43), [], []⟩, ⟨("_law_codes", none), "_law_codes", "_law_codes", defArgs (top 44), defBody (top 44), defScope (top 44), [], []⟩, ⟨("_law_readable", none), "_law_readable", "_law_readable", defArgs (top 45), defBody (top 45), defScope (top 45), [], []⟩, ⟨("_law_is_integer", none), "_law_is_integer", "_law_is_integer", defArgs (top 46), defBody (top 46), defScope (top 46), [], []⟩, ⟨("_law_is_row", none), "_law_is_row", "_law_is_row", defArgs (top 47), defBody (top 47), defScope (top 47), [], []⟩, ⟨("_law_wrote", none), "_law_wrote", "_law_wrote", defArgs (top 48), defBody (top 48), defScope (top 48), [], []⟩, ⟨("_law_digits", none), "_law_digits", "_law_digits", defArgs (top 49), defBody (top 49), defScope (top 49), [], []⟩, ⟨("law", none), "law", "law", defArgs (top 50), defBody (top 50), defScope (top 50), [], []⟩]
def fn : List He.DefD := fn0 ++ fn1
def fa0 : List He.Fa := [.glo "SEED", .free "list", .glo "seed_image", .free "len", .free "range", .free "tuple", .glo "nodes_of", .glo "table_of", .cls "State", .noat "State" "image", .noat "State" "numbers", .noat "State" "table", .noat "State" "at", .noat "State" "stack", .noat "State" "store", .noat "State" "back", .noat "State" "place", .noat "State" "output", .noat "State" "steps", .glo "State", .mkr "State", .meth "State" "pull", .glo "_push", .glo "_plus", .glo "_minus", .glo "_digit", .free "int", .glo "_less", .glo "_same", .glo "_load"]
def fa1 : List He.Fa := [.glo "_keep", .glo "_assign", .glo "_take", .glo "_rewind", .glo "_emit", .glo "_cell", .glo "_drop", .glo "_double", .glo "_exchange", .glo "_test", .glo "_call", .int "LAST_LOW" 199, .glo "_call_low", .glo "_return", .meth "State" "has_ended", .glo "DEEDS", .int "FIRST_LETTER" 97, .int "LAST_LETTER" 122, .int "FIRST_CAPITAL" 65, .int "LAST_CAPITAL" 90, .meth "State" "step", .meth "State" "advance", .glo "run", .glo "_law_number", .glo "_law_draws", .glo "_law_next", .glo "_law_code", .glo "_law_codes", .glo "_law_readable", .free "isinstance"]
def fa2 : List He.Fa := [.free "bool", .glo "_law_is_integer", .glo "_law_is_row", .glo "_law_wrote", .glo "_law_digits", .free "min", .free "max", .glo "law"]
def fa : List He.Fa := fa0 ++ fa1 ++ fa2
def nms0 : List PySem.Str := ["_wall", "__name__", "SEED", "seed_image", "PlinthError", "BadFuel", "nodes_of", "table_of", "FIRST_LETTER", "LAST_LETTER", "FIRST_CAPITAL", "LAST_CAPITAL", "LAST_LOW", "_push", "_plus", "_minus", "_digit", "_less", "_same", "_load", "_keep", "_assign", "_take", "_rewind", "_emit", "_cell", "_drop", "_double", "_exchange", "_test"]
def nms1 : List PySem.Str := ["_call", "_call_low", "_return", "DEEDS", "State", "run", "_law_number", "_law_draws", "_law_next", "_law_code", "_law_codes", "_law_readable", "_law_is_integer", "_law_is_row", "_law_wrote", "_law_digits"]
def nms : List PySem.Str := nms0 ++ nms1
def exB (K : PySem.W.Frag) : Bool := gdB K "DEEDS" T_DEEDS && He.tupB K "SEED" (seedL.map He.Dv.int)
abbrev Hd (K : PySem.W.Frag) (mg : PySem.Str → Option Value) : Prop := HD fa fn exB K mg
theorem T_DEEDS_gd {K : PySem.W.Frag} {mg : PySem.Str → Option Value} (H : Hd K mg) : GD K "DEEDS" T_DEEDS := gdB_ok (He.ba H.more).1
abbrev T_SEEDV : List V := seedL.map V.int
theorem T_SEED_at {K : PySem.W.Frag} {mg : PySem.Str → Option Value} (H : Hd K mg) : ∀ H', SqT K H' (He.ga K "SEED") T_SEEDV := fun H' => by
  have h := He.tupB_ok (He.ba H.more).2 H'
  rw [List.map_map] at h
  exact h
theorem T_SEED_rep {K : PySem.W.Frag} : ∀ F, reps K F T_SEED T_SEEDV := fun F => reps.ints seedL
theorem sc_seed_image : FnScope [] [] (defScope (top 3)) := ⟨rfl, rfl, rfl, by decide +kernel, rfl, by decide +kernel, by decide +kernel⟩
theorem sc_nodes_of : FnScope ["image", "start"] ["image"] (defScope (top 8)) := ⟨rfl, rfl, rfl, by decide +kernel, rfl, by decide +kernel, by decide +kernel⟩
theorem sc_table_of : FnScope ["image", "table", "number", "operation", "argument", "successor"] ["image"] (defScope (top 9)) := ⟨rfl, rfl, rfl, by decide +kernel, rfl, by decide +kernel, by decide +kernel⟩
theorem sc_State___init__ : FnScope ["self", "image", "numbers"] ["self", "image", "numbers"] (defScope (inClass (top 37) 0)) := ⟨rfl, rfl, rfl, by decide +kernel, rfl, by decide +kernel, by decide +kernel⟩
theorem sc_State_pull : FnScope ["self"] ["self"] (defScope (inClass (top 37) 1)) := ⟨rfl, rfl, rfl, by decide +kernel, rfl, by decide +kernel, by decide +kernel⟩
theorem sc_push : FnScope ["state", "argument"] ["state", "argument"] (defScope (top 16)) := ⟨rfl, rfl, rfl, by decide +kernel, rfl, by decide +kernel, by decide +kernel⟩
theorem sc_plus : FnScope ["state", "argument", "second"] ["state", "argument"] (defScope (top 17)) := ⟨rfl, rfl, rfl, by decide +kernel, rfl, by decide +kernel, by decide +kernel⟩
theorem sc_minus : FnScope ["state", "argument", "second"] ["state", "argument"] (defScope (top 18)) := ⟨rfl, rfl, rfl, by decide +kernel, rfl, by decide +kernel, by decide +kernel⟩
theorem sc_digit : FnScope ["state", "argument", "second"] ["state", "argument"] (defScope (top 19)) := ⟨rfl, rfl, rfl, by decide +kernel, rfl, by decide +kernel, by decide +kernel⟩
theorem sc_less : FnScope ["state", "argument", "second"] ["state", "argument"] (defScope (top 20)) := ⟨rfl, rfl, rfl, by decide +kernel, rfl, by decide +kernel, by decide +kernel⟩
theorem sc_same : FnScope ["state", "argument", "second"] ["state", "argument"] (defScope (top 21)) := ⟨rfl, rfl, rfl, by decide +kernel, rfl, by decide +kernel, by decide +kernel⟩
theorem sc_load : FnScope ["state", "argument"] ["state", "argument"] (defScope (top 22)) := ⟨rfl, rfl, rfl, by decide +kernel, rfl, by decide +kernel, by decide +kernel⟩
theorem sc_keep : FnScope ["state", "argument", "address"] ["state", "argument"] (defScope (top 23)) := ⟨rfl, rfl, rfl, by decide +kernel, rfl, by decide +kernel, by decide +kernel⟩
theorem sc_assign : FnScope ["state", "argument"] ["state", "argument"] (defScope (top 24)) := ⟨rfl, rfl, rfl, by decide +kernel, rfl, by decide +kernel, by decide +kernel⟩
theorem sc_take : FnScope ["state", "argument"] ["state", "argument"] (defScope (top 25)) := ⟨rfl, rfl, rfl, by decide +kernel, rfl, by decide +kernel, by decide +kernel⟩
theorem sc_rewind : FnScope ["state", "argument"] ["state", "argument"] (defScope (top 26)) := ⟨rfl, rfl, rfl, by decide +kernel, rfl, by decide +kernel, by decide +kernel⟩
theorem sc_emit : FnScope ["state", "argument"] ["state", "argument"] (defScope (top 27)) := ⟨rfl, rfl, rfl, by decide +kernel, rfl, by decide +kernel, by decide +kernel⟩
theorem sc_cell : FnScope ["state", "argument", "index"] ["state", "argument"] (defScope (top 28)) := ⟨rfl, rfl, rfl, by decide +kernel, rfl, by decide +kernel, by decide +kernel⟩
theorem sc_drop : FnScope ["state", "argument"] ["state", "argument"] (defScope (top 29)) := ⟨rfl, rfl, rfl, by decide +kernel, rfl, by decide +kernel, by decide +kernel⟩
theorem sc_double : FnScope ["state", "argument", "top"] ["state", "argument"] (defScope (top 30)) := ⟨rfl, rfl, rfl, by decide +kernel, rfl, by decide +kernel, by decide +kernel⟩
theorem sc_exchange : FnScope ["state", "argument", "second", "first"] ["state", "argument"] (defScope (top 31)) := ⟨rfl, rfl, rfl, by decide +kernel, rfl, by decide +kernel, by decide +kernel⟩
theorem sc_test : FnScope ["state", "argument"] ["state", "argument"] (defScope (top 32)) := ⟨rfl, rfl, rfl, by decide +kernel, rfl, by decide +kernel, by decide +kernel⟩
theorem sc_call : FnScope ["state", "argument", "number"] ["state", "argument"] (defScope (top 33)) := ⟨rfl, rfl, rfl, by decide +kernel, rfl, by decide +kernel, by decide +kernel⟩
theorem sc_call_low : FnScope ["state", "argument", "number"] ["state", "argument"] (defScope (top 34)) := ⟨rfl, rfl, rfl, by decide +kernel, rfl, by decide +kernel, by decide +kernel⟩
theorem sc_return : FnScope ["state", "argument"] ["state", "argument"] (defScope (top 35)) := ⟨rfl, rfl, rfl, by decide +kernel, rfl, by decide +kernel, by decide +kernel⟩
theorem sc_State_has_ended : FnScope ["self"] ["self"] (defScope (inClass (top 37) 2)) := ⟨rfl, rfl, rfl, by decide +kernel, rfl, by decide +kernel, by decide +kernel⟩
theorem sc_State_step : FnScope ["self", "operation", "argument", "successor", "deed"] ["self"] (defScope (inClass (top 37) 3)) := ⟨rfl, rfl, rfl, by decide +kernel, rfl, by decide +kernel, by decide +kernel⟩
theorem sc_State_advance : FnScope ["self", "fuel", "made"] ["self", "fuel"] (defScope (inClass (top 37) 4)) := ⟨rfl, rfl, rfl, by decide +kernel, rfl, by decide +kernel, by decide +kernel⟩
theorem sc_run : FnScope ["image", "numbers", "fuel", "state", "steps"] ["image", "numbers", "fuel"] (defScope (top 38)) := ⟨rfl, rfl, rfl, by decide +kernel, rfl, by decide +kernel, by decide +kernel⟩
theorem sc_law_number : FnScope ["_law_cell"] ["_law_cell"] (defScope (top 40)) := ⟨rfl, rfl, rfl, by decide +kernel, rfl, by decide +kernel, by decide +kernel⟩
theorem sc_law_draws : FnScope ["_law_script", "_law_draws_here", "_law_cell", "_law_rest", "_law_k", "_law_once", "_law_twice"] ["_law_script"] (defScope (top 41)) := ⟨rfl, rfl, rfl, by decide +kernel, rfl, by decide +kernel, by decide +kernel⟩
theorem sc_law_next : FnScope ["_law_draws_here"] ["_law_draws_here"] (defScope (top 42)) := ⟨rfl, rfl, rfl, by decide +kernel, rfl, by decide +kernel, by decide +kernel⟩
theorem sc_law_code : FnScope ["_law_draw", "_law_table", "_law_kind", "_law_rest"] ["_law_draw"] (defScope (top 43)) := ⟨rfl, rfl, rfl, by decide +kernel, rfl, by decide +kernel, by decide +kernel⟩
theorem sc_law_codes : FnScope ["_law_draws_here", "_law_most", "_law_codes_here", "_law_k"] ["_law_draws_here", "_law_most"] (defScope (top 44)) := ⟨rfl, rfl, rfl, by decide +kernel, rfl, by decide +kernel, by decide +kernel⟩
theorem sc_law_readable : FnScope ["_law_codes_here", "_law_row", "_law_code_here"] ["_law_codes_here"] (defScope (top 45)) := ⟨rfl, rfl, rfl, by decide +kernel, rfl, by decide +kernel, by decide +kernel⟩
theorem sc_law_is_integer : FnScope ["_law_actual"] ["_law_actual"] (defScope (top 46)) := ⟨rfl, rfl, rfl, by decide +kernel, rfl, by decide +kernel, by decide +kernel⟩
theorem sc_law_is_row : FnScope ["_law_actual", "_law_number_here"] ["_law_actual"] (defScope (top 47)) := ⟨rfl, rfl, rfl, by decide +kernel, rfl, by decide +kernel, by decide +kernel⟩
theorem sc_law_wrote : FnScope ["_law_result", "_law_due", "_law_most"] ["_law_result", "_law_due", "_law_most"] (defScope (top 48)) := ⟨rfl, rfl, rfl, by decide +kernel, rfl, by decide +kernel, by decide +kernel⟩
theorem sc_law_digits : FnScope ["_law_codes_here", "_law_numbers", "_law_value", "_law_inside", "_law_code_here"] ["_law_codes_here"] (defScope (top 49)) := ⟨rfl, rfl, rfl, by decide +kernel, rfl, by decide +kernel, by decide +kernel⟩
theorem sc_law : FnScope ["_law_script", "_law_draws_here", "_law_place", "_law_times", "_law_codes_here", "_law_seed", "_law_row", "_law_passed", "_law_kept"] ["_law_script"] (defScope (top 50)) := ⟨rfl, rfl, rfl, by decide +kernel, rfl, by decide +kernel, by decide +kernel⟩
end PP

namespace PP
open PySem PySem.Spec PyProof.Rows L2
section
variable {P : Program} {w0 : World} {K : PySem.W.Frag} {mg : PySem.Str → Option Value} {base : Heap}
theorem cal_seed_image (H : Hd K mg) : Cal P w0 K mg base 1 "seed_image" C_seed_image [] := by
  obtain ⟨fd, F⟩ := H.def_ 0 rfl
  exact cal_mk F sc_seed_image
    (fun cdv A outer s H1 E hr => (as_one (as_ret (ae_cTL true ac_list rfl (H.free 1) rfl (aa_cons (ae_gtup (vs := T_SEEDV) rfl (H.glo 0) (T_SEED_at H) T_SEED_rep) aa_nil)))))
    pure_seed_image (H.glo 2) (fun _ _ _ _ _ _ us hl => match us, hl with | [], _ => rfl)
theorem cal_nodes_of (H : Hd K mg) : Cal P w0 K mg base 1 "nodes_of" C_nodes_of [] := by
  obtain ⟨fd, F⟩ := H.def_ 1 rfl
  exact cal_mk F sc_nodes_of
    (fun cdv A outer s H1 E hr => (as_cut (as_one (as_ret (ae_frz (ae_lc rfl sc_nodes_of.nd [("start", 1)] (ai_rng3 rfl (H.free 4) (aa_cons ae_int (aa_cons (ae_B ab_sub (ae_cB ac_len rfl (H.free 3) rfl (aa_cons (ae_var 0) aa_nil)) ae_int) (aa_cons ae_int aa_nil)))) raw_name (fun _ _ _ _ _ => (pg_name (i := 1) sc_nodes_of.nd rfl (Or.inl rfl))) (fun _ _ _ _ _ => ats_nil) (fun _ _ _ _ _ => (ae_cTT ac_tupL rfl (H.free 5) rfl (aa_cons (ae_slL false (ae_var 0) (ao_some (ae_var 1)) (ao_some (ae_B ab_add (ae_var 1) ae_int))) aa_nil)))))))))
    pure_nodes_of (H.glo 6) (fun _ _ _ _ _ _ us hl => match us, hl with | [_], _ => rfl)
theorem cal_table_of (H : Hd K mg) : Cal P w0 K mg base 2 "table_of" C_table_of [] := by
  obtain ⟨fd, F⟩ := H.def_ 2 rfl
  exact cal_mk F sc_table_of
    (fun cdv A outer s H1 E hr => (as_cut (as_cons (as_set 1 sc_table_of.nd rfl (Or.inl rfl) (ae_dnew false))
    (as_cons (as_for PassesOwn.never rfl (ai_lst (ae_call (cal_nodes_of H) (hr.mono (by decide)) rfl (aa_cons (ae_var 0) aa_nil))) (ag_tup rfl (ags_cons (ag_name 2 sc_table_of.nd rfl (Or.inl rfl)) (ags_cons (ag_name 3 sc_table_of.nd rfl (Or.inl rfl)) (ags_cons (ag_name 4 sc_table_of.nd rfl (Or.inl rfl)) (ags_cons (ag_name 5 sc_table_of.nd rfl (Or.inl rfl)) ags_nil))))) (as_one (as_dput (Room.units1 hr) (ae_var 1) (ae_var 2) (ae_tup' (aa_cons (ae_var 3) (aa_cons (ae_var 4) (aa_cons (ae_var 5) aa_nil)))))))
    (as_one (as_ret (ae_var 1)))))))
    pure_table_of (H.glo 7) (fun _ _ _ _ _ _ us hl => match us, hl with | [_], _ => rfl)
theorem cal_State___init__ (H : Hd K mg) : CalC P w0 K mg base 3 "State" C_State___init__ [] := by
  obtain ⟨fd, F⟩ := H.def_ 3 rfl
  exact calC_mk F sc_State___init__
    (fun cdv A outer s H1 E hr => (as_cons (as_fld (H.cls 8) (H.noat 9) (ae_var 0) (ae_cTL true ac_list rfl (H.free 1) rfl (aa_cons (ae_var 1) aa_nil)))
    (as_cons (as_fld (H.cls 8) (H.noat 10) (ae_var 0) (ae_cTL true ac_list rfl (H.free 1) rfl (aa_cons (ae_var 2) aa_nil)))
    (as_cons (as_fld (H.cls 8) (H.noat 11) (ae_var 0) (ae_call (cal_table_of H) (hr.mono (by decide)) rfl (aa_cons (ae_var 1) aa_nil)))
    (as_cons (as_fld (H.cls 8) (H.noat 12) (ae_var 0) ae_int)
    (as_cons (as_fld (H.cls 8) (H.noat 13) (ae_var 0) (ae_lst true aa_nil))
    (as_cons (as_fld (H.cls 8) (H.noat 14) (ae_var 0) (ae_dnew false))
    (as_cons (as_fld (H.cls 8) (H.noat 15) (ae_var 0) (ae_lst true aa_nil))
    (as_cons (as_fld (H.cls 8) (H.noat 16) (ae_var 0) ae_int)
    (as_cons (as_fld (H.cls 8) (H.noat 17) (ae_var 0) (ae_lst true aa_nil))
    (as_one (as_fld (H.cls 8) (H.noat 18) (ae_var 0) ae_int))))))))))))
    pure_State___init__ (H.glo 19) (H.mkr 20) (fun _ _ _ _ _ _ us hl => match us, hl with | [_, _, _], _ => rfl)
theorem cal_State_pull (H : Hd K mg) : CalM P w0 K mg base 1 "State" "pull" C_State_pull [] := by
  obtain ⟨fd, F⟩ := H.def_ 4 rfl
  exact calM_mk F sc_State_pull
    (fun cdv A outer s H1 E hr => (as_cons (as_if (at_tru (ae_fld (H.cls 8) (H.noat 13) (ae_var 0))) (as_one (as_ret (ae_pop (ae_fld (H.cls 8) (H.noat 13) (ae_var 0))))) as_nil)
    (as_one (as_ret ae_int))))
    pure_State_pull (H.cls 8) (H.meth 21) (fun _ _ _ _ _ _ us hl => match us, hl with | [_], _ => rfl)
theorem held_push (H : Hd K mg) : Held P w0 K mg base 1 (He.ga K "_push") (spC K C_push) := by
  obtain ⟨fd, F⟩ := H.def_ 5 rfl
  exact held_mk F sc_push
    (fun cdv A outer s H1 E hr => (as_one (as_expr (ae_append (ae_fld (H.cls 8) (H.noat 13) (ae_var 0)) (ae_var 1)))))
    pure_push (fun _ _ _ _ _ _ us hl => match us, hl with | [_, _], _ => rfl)
theorem cal_push (H : Hd K mg) : Cal P w0 K mg base 1 "_push" C_push [] := held_cal (held_push H) (H.glo 22)
theorem held_plus (H : Hd K mg) : Held P w0 K mg base 2 (He.ga K "_plus") (spC K C_plus) := by
  obtain ⟨fd, F⟩ := H.def_ 6 rfl
  exact held_mk F sc_plus
    (fun cdv A outer s H1 E hr => (as_cons (as_set 2 sc_plus.nd rfl (Or.inl rfl) (ae_meth0 (cal_State_pull H) (hr.mono (by decide)) (ae_var 0)))
    (as_one (as_expr (ae_append (ae_fld (H.cls 8) (H.noat 13) (ae_var 0)) (ae_B ab_add (ae_meth0 (cal_State_pull H) (hr.mono (by decide)) (ae_var 0)) (ae_var 2)))))))
    pure_plus (fun _ _ _ _ _ _ us hl => match us, hl with | [_, _], _ => rfl)
theorem cal_plus (H : Hd K mg) : Cal P w0 K mg base 2 "_plus" C_plus [] := held_cal (held_plus H) (H.glo 23)
theorem held_minus (H : Hd K mg) : Held P w0 K mg base 2 (He.ga K "_minus") (spC K C_minus) := by
  obtain ⟨fd, F⟩ := H.def_ 7 rfl
  exact held_mk F sc_minus
    (fun cdv A outer s H1 E hr => (as_cons (as_set 2 sc_minus.nd rfl (Or.inl rfl) (ae_meth0 (cal_State_pull H) (hr.mono (by decide)) (ae_var 0)))
    (as_one (as_expr (ae_append (ae_fld (H.cls 8) (H.noat 13) (ae_var 0)) (ae_B ab_sub (ae_meth0 (cal_State_pull H) (hr.mono (by decide)) (ae_var 0)) (ae_var 2)))))))
    pure_minus (fun _ _ _ _ _ _ us hl => match us, hl with | [_, _], _ => rfl)
theorem cal_minus (H : Hd K mg) : Cal P w0 K mg base 2 "_minus" C_minus [] := held_cal (held_minus H) (H.glo 24)
theorem held_digit (H : Hd K mg) : Held P w0 K mg base 2 (He.ga K "_digit") (spC K C_digit) := by
  obtain ⟨fd, F⟩ := H.def_ 8 rfl
  exact held_mk F sc_digit
    (fun cdv A outer s H1 E hr => (as_cons (as_set 2 sc_digit.nd rfl (Or.inl rfl) (ae_meth0 (cal_State_pull H) (hr.mono (by decide)) (ae_var 0)))
    (as_one (as_expr (ae_append (ae_fld (H.cls 8) (H.noat 13) (ae_var 0)) (ae_B ab_add (ae_B ab_mul ae_int (ae_meth0 (cal_State_pull H) (hr.mono (by decide)) (ae_var 0))) (ae_var 2)))))))
    pure_digit (fun _ _ _ _ _ _ us hl => match us, hl with | [_, _], _ => rfl)
theorem cal_digit (H : Hd K mg) : Cal P w0 K mg base 2 "_digit" C_digit [] := held_cal (held_digit H) (H.glo 25)
theorem held_less (H : Hd K mg) : Held P w0 K mg base 2 (He.ga K "_less") (spC K C_less) := by
  obtain ⟨fd, F⟩ := H.def_ 9 rfl
  exact held_mk F sc_less
    (fun cdv A outer s H1 E hr => (as_cons (as_set 2 sc_less.nd rfl (Or.inl rfl) (ae_meth0 (cal_State_pull H) (hr.mono (by decide)) (ae_var 0)))
    (as_one (as_expr (ae_append (ae_fld (H.cls 8) (H.noat 13) (ae_var 0)) (ae_cT ac_int rfl (H.free 26) rfl (aa_cons (ae_cmp ab_lt (ae_meth0 (cal_State_pull H) (hr.mono (by decide)) (ae_var 0)) (ae_var 2)) aa_nil)))))))
    pure_less (fun _ _ _ _ _ _ us hl => match us, hl with | [_, _], _ => rfl)
theorem cal_less (H : Hd K mg) : Cal P w0 K mg base 2 "_less" C_less [] := held_cal (held_less H) (H.glo 27)
theorem held_same (H : Hd K mg) : Held P w0 K mg base 2 (He.ga K "_same") (spC K C_same) := by
  obtain ⟨fd, F⟩ := H.def_ 10 rfl
  exact held_mk F sc_same
    (fun cdv A outer s H1 E hr => (as_cons (as_set 2 sc_same.nd rfl (Or.inl rfl) (ae_meth0 (cal_State_pull H) (hr.mono (by decide)) (ae_var 0)))
    (as_one (as_expr (ae_append (ae_fld (H.cls 8) (H.noat 13) (ae_var 0)) (ae_cT ac_int rfl (H.free 26) rfl (aa_cons (ae_cmp (ab_eqA hr) (ae_meth0 (cal_State_pull H) (hr.mono (by decide)) (ae_var 0)) (ae_var 2)) aa_nil)))))))
    pure_same (fun _ _ _ _ _ _ us hl => match us, hl with | [_, _], _ => rfl)
theorem cal_same (H : Hd K mg) : Cal P w0 K mg base 2 "_same" C_same [] := held_cal (held_same H) (H.glo 28)
theorem held_load (H : Hd K mg) : Held P w0 K mg base 2 (He.ga K "_load") (spC K C_load) := by
  obtain ⟨fd, F⟩ := H.def_ 11 rfl
  exact held_mk F sc_load
    (fun cdv A outer s H1 E hr => (as_one (as_expr (ae_append (ae_fld (H.cls 8) (H.noat 13) (ae_var 0)) (ae_dget2 (Room.units1 hr) (ae_fld (H.cls 8) (H.noat 14) (ae_var 0)) (ae_meth0 (cal_State_pull H) (hr.mono (by decide)) (ae_var 0)) ae_int)))))
    pure_load (fun _ _ _ _ _ _ us hl => match us, hl with | [_, _], _ => rfl)
theorem cal_load (H : Hd K mg) : Cal P w0 K mg base 2 "_load" C_load [] := held_cal (held_load H) (H.glo 29)
theorem held_keep (H : Hd K mg) : Held P w0 K mg base 2 (He.ga K "_keep") (spC K C_keep) := by
  obtain ⟨fd, F⟩ := H.def_ 12 rfl
  exact held_mk F sc_keep
    (fun cdv A outer s H1 E hr => (as_cons (as_set 2 sc_keep.nd rfl (Or.inl rfl) (ae_meth0 (cal_State_pull H) (hr.mono (by decide)) (ae_var 0)))
    (as_one (as_dput (Room.units1 hr) (ae_fld (H.cls 8) (H.noat 14) (ae_var 0)) (ae_var 2) (ae_meth0 (cal_State_pull H) (hr.mono (by decide)) (ae_var 0))))))
    pure_keep (fun _ _ _ _ _ _ us hl => match us, hl with | [_, _], _ => rfl)
theorem cal_keep (H : Hd K mg) : Cal P w0 K mg base 2 "_keep" C_keep [] := held_cal (held_keep H) (H.glo 30)
theorem held_assign (H : Hd K mg) : Held P w0 K mg base 2 (He.ga K "_assign") (spC K C_assign) := by
  obtain ⟨fd, F⟩ := H.def_ 13 rfl
  exact held_mk F sc_assign
    (fun cdv A outer s H1 E hr => (as_one (as_dput (Room.units1 hr) (ae_fld (H.cls 8) (H.noat 14) (ae_var 0)) (ae_var 1) (ae_meth0 (cal_State_pull H) (hr.mono (by decide)) (ae_var 0)))))
    pure_assign (fun _ _ _ _ _ _ us hl => match us, hl with | [_, _], _ => rfl)
theorem cal_assign (H : Hd K mg) : Cal P w0 K mg base 2 "_assign" C_assign [] := held_cal (held_assign H) (H.glo 31)
theorem held_take (H : Hd K mg) : Held P w0 K mg base 1 (He.ga K "_take") (spC K C_take) := by
  obtain ⟨fd, F⟩ := H.def_ 14 rfl
  exact held_mk F sc_take
    (fun cdv A outer s H1 E hr => (as_one (as_if (at_cmp ab_lt (ae_fld (H.cls 8) (H.noat 16) (ae_var 0)) (ae_cB ac_len rfl (H.free 3) rfl (aa_cons (ae_fld (H.cls 8) (H.noat 10) (ae_var 0)) aa_nil))) (as_cons (as_expr (ae_append (ae_fld (H.cls 8) (H.noat 13) (ae_var 0)) (ae_ix (ax_all hr) (ae_fld (H.cls 8) (H.noat 10) (ae_var 0)) (ae_fld (H.cls 8) (H.noat 16) (ae_var 0)))))
    (as_one (as_fldaug (H.cls 8) (H.noat 16) (ae_var 0) ae_int aio_add))) (as_one (as_expr (ae_append (ae_fld (H.cls 8) (H.noat 13) (ae_var 0)) (ae_neg ae_int)))))))
    pure_take (fun _ _ _ _ _ _ us hl => match us, hl with | [_, _], _ => rfl)
theorem cal_take (H : Hd K mg) : Cal P w0 K mg base 1 "_take" C_take [] := held_cal (held_take H) (H.glo 32)
theorem held_rewind (H : Hd K mg) : Held P w0 K mg base 1 (He.ga K "_rewind") (spC K C_rewind) := by
  obtain ⟨fd, F⟩ := H.def_ 15 rfl
  exact held_mk F sc_rewind
    (fun cdv A outer s H1 E hr => (as_one (as_fld (H.cls 8) (H.noat 16) (ae_var 0) ae_int)))
    pure_rewind (fun _ _ _ _ _ _ us hl => match us, hl with | [_, _], _ => rfl)
theorem cal_rewind (H : Hd K mg) : Cal P w0 K mg base 1 "_rewind" C_rewind [] := held_cal (held_rewind H) (H.glo 33)
theorem held_emit (H : Hd K mg) : Held P w0 K mg base 2 (He.ga K "_emit") (spC K C_emit) := by
  obtain ⟨fd, F⟩ := H.def_ 16 rfl
  exact held_mk F sc_emit
    (fun cdv A outer s H1 E hr => (as_one (as_expr (ae_append (ae_fld (H.cls 8) (H.noat 17) (ae_var 0)) (ae_meth0 (cal_State_pull H) (hr.mono (by decide)) (ae_var 0))))))
    pure_emit (fun _ _ _ _ _ _ us hl => match us, hl with | [_, _], _ => rfl)
theorem cal_emit (H : Hd K mg) : Cal P w0 K mg base 2 "_emit" C_emit [] := held_cal (held_emit H) (H.glo 34)
theorem held_cell (H : Hd K mg) : Held P w0 K mg base 2 (He.ga K "_cell") (spC K C_cell) := by
  obtain ⟨fd, F⟩ := H.def_ 17 rfl
  exact held_mk F sc_cell
    (fun cdv A outer s H1 E hr => (as_cons (as_set 2 sc_cell.nd rfl (Or.inl rfl) (ae_meth0 (cal_State_pull H) (hr.mono (by decide)) (ae_var 0)))
    (as_one (as_if (at_chain ab_le ab_lt (ae_neg (ae_cB ac_len rfl (H.free 3) rfl (aa_cons (ae_fld (H.cls 8) (H.noat 9) (ae_var 0)) aa_nil))) (ae_var 2) (ae_cB ac_len rfl (H.free 3) rfl (aa_cons (ae_fld (H.cls 8) (H.noat 9) (ae_var 0)) aa_nil))) (as_one (as_expr (ae_append (ae_fld (H.cls 8) (H.noat 13) (ae_var 0)) (ae_ix (ax_all hr) (ae_fld (H.cls 8) (H.noat 9) (ae_var 0)) (ae_var 2))))) (as_one (as_expr (ae_append (ae_fld (H.cls 8) (H.noat 13) (ae_var 0)) ae_int)))))))
    pure_cell (fun _ _ _ _ _ _ us hl => match us, hl with | [_, _], _ => rfl)
theorem cal_cell (H : Hd K mg) : Cal P w0 K mg base 2 "_cell" C_cell [] := held_cal (held_cell H) (H.glo 35)
theorem held_drop (H : Hd K mg) : Held P w0 K mg base 2 (He.ga K "_drop") (spC K C_drop) := by
  obtain ⟨fd, F⟩ := H.def_ 18 rfl
  exact held_mk F sc_drop
    (fun cdv A outer s H1 E hr => (as_one (as_expr (ae_meth0 (cal_State_pull H) (hr.mono (by decide)) (ae_var 0)))))
    pure_drop (fun _ _ _ _ _ _ us hl => match us, hl with | [_, _], _ => rfl)
theorem cal_drop (H : Hd K mg) : Cal P w0 K mg base 2 "_drop" C_drop [] := held_cal (held_drop H) (H.glo 36)
theorem held_double (H : Hd K mg) : Held P w0 K mg base 2 (He.ga K "_double") (spC K C_double) := by
  obtain ⟨fd, F⟩ := H.def_ 19 rfl
  exact held_mk F sc_double
    (fun cdv A outer s H1 E hr => (as_cons (as_set 2 sc_double.nd rfl (Or.inl rfl) (ae_meth0 (cal_State_pull H) (hr.mono (by decide)) (ae_var 0)))
    (as_one (as_expr (ae_extend (ae_fld (H.cls 8) (H.noat 13) (ae_var 0)) (ae_lst false (aa_cons (ae_var 2) (aa_cons (ae_var 2) aa_nil))))))))
    pure_double (fun _ _ _ _ _ _ us hl => match us, hl with | [_, _], _ => rfl)
theorem cal_double (H : Hd K mg) : Cal P w0 K mg base 2 "_double" C_double [] := held_cal (held_double H) (H.glo 37)
theorem held_exchange (H : Hd K mg) : Held P w0 K mg base 2 (He.ga K "_exchange") (spC K C_exchange) := by
  obtain ⟨fd, F⟩ := H.def_ 20 rfl
  exact held_mk F sc_exchange
    (fun cdv A outer s H1 E hr => (as_cons (as_set 2 sc_exchange.nd rfl (Or.inl rfl) (ae_meth0 (cal_State_pull H) (hr.mono (by decide)) (ae_var 0)))
    (as_cons (as_set 3 sc_exchange.nd rfl (Or.inl rfl) (ae_meth0 (cal_State_pull H) (hr.mono (by decide)) (ae_var 0)))
    (as_one (as_expr (ae_extend (ae_fld (H.cls 8) (H.noat 13) (ae_var 0)) (ae_lst false (aa_cons (ae_var 2) (aa_cons (ae_var 3) aa_nil)))))))))
    pure_exchange (fun _ _ _ _ _ _ us hl => match us, hl with | [_, _], _ => rfl)
theorem cal_exchange (H : Hd K mg) : Cal P w0 K mg base 2 "_exchange" C_exchange [] := held_cal (held_exchange H) (H.glo 38)
theorem held_test (H : Hd K mg) : Held P w0 K mg base 2 (He.ga K "_test") (spC K C_test) := by
  obtain ⟨fd, F⟩ := H.def_ 21 rfl
  exact held_mk F sc_test
    (fun cdv A outer s H1 E hr => (as_one (as_if (at_cmp (ab_eqA hr) (ae_meth0 (cal_State_pull H) (hr.mono (by decide)) (ae_var 0)) ae_int) (as_one (as_fld (H.cls 8) (H.noat 12) (ae_var 0) (ae_var 1))) as_nil)))
    pure_test (fun _ _ _ _ _ _ us hl => match us, hl with | [_, _], _ => rfl)
theorem cal_test (H : Hd K mg) : Cal P w0 K mg base 2 "_test" C_test [] := held_cal (held_test H) (H.glo 39)
theorem held_call (H : Hd K mg) : Held P w0 K mg base 2 (He.ga K "_call") (spC K C_call) := by
  obtain ⟨fd, F⟩ := H.def_ 22 rfl
  exact held_mk F sc_call
    (fun cdv A outer s H1 E hr => (as_cons (as_set 2 sc_call.nd rfl (Or.inl rfl) (ae_meth0 (cal_State_pull H) (hr.mono (by decide)) (ae_var 0)))
    (as_cons (as_expr (ae_append (ae_fld (H.cls 8) (H.noat 15) (ae_var 0)) (ae_fld (H.cls 8) (H.noat 12) (ae_var 0))))
    (as_one (as_fld (H.cls 8) (H.noat 12) (ae_var 0) (ae_var 2))))))
    pure_call (fun _ _ _ _ _ _ us hl => match us, hl with | [_, _], _ => rfl)
theorem cal_call (H : Hd K mg) : Cal P w0 K mg base 2 "_call" C_call [] := held_cal (held_call H) (H.glo 40)
theorem held_call_low (H : Hd K mg) : Held P w0 K mg base 2 (He.ga K "_call_low") (spC K C_call_low) := by
  obtain ⟨fd, F⟩ := H.def_ 23 rfl
  exact held_mk F sc_call_low
    (fun cdv A outer s H1 E hr => (as_cons (as_set 2 sc_call_low.nd rfl (Or.inl rfl) (ae_meth0 (cal_State_pull H) (hr.mono (by decide)) (ae_var 0)))
    (as_one (as_if (PW.pt (at_and (at_chain ab_le ab_le ae_int (ae_var 2) (ae_gint rfl (H.gint 41))) (at_and1 (at_cmp (ab_inA hr) (ae_var 2) (ae_fld (H.cls 8) (H.noat 11) (ae_var 0)))))) (as_cons (as_expr (ae_append (ae_fld (H.cls 8) (H.noat 15) (ae_var 0)) (ae_fld (H.cls 8) (H.noat 12) (ae_var 0))))
    (as_one (as_fld (H.cls 8) (H.noat 12) (ae_var 0) (ae_var 2)))) (as_one (as_expr (ae_append (ae_fld (H.cls 8) (H.noat 13) (ae_var 0)) (ae_var 2))))))))
    pure_call_low (fun _ _ _ _ _ _ us hl => match us, hl with | [_, _], _ => rfl)
theorem cal_call_low (H : Hd K mg) : Cal P w0 K mg base 2 "_call_low" C_call_low [] := held_cal (held_call_low H) (H.glo 42)
theorem held_return (H : Hd K mg) : Held P w0 K mg base 1 (He.ga K "_return") (spC K C_return) := by
  obtain ⟨fd, F⟩ := H.def_ 24 rfl
  exact held_mk F sc_return
    (fun cdv A outer s H1 E hr => (as_one (as_if (at_tru (ae_fld (H.cls 8) (H.noat 15) (ae_var 0))) (as_one (as_fld (H.cls 8) (H.noat 12) (ae_var 0) (ae_pop (ae_fld (H.cls 8) (H.noat 15) (ae_var 0))))) as_nil)))
    pure_return (fun _ _ _ _ _ _ us hl => match us, hl with | [_, _], _ => rfl)
theorem cal_return (H : Hd K mg) : Cal P w0 K mg base 1 "_return" C_return [] := held_cal (held_return H) (H.glo 43)
theorem S_deeds_held (H : Hd K mg) : ∀ y C, S_deeds y = some C → Held P w0 K mg base 2 (He.ga K y) (spC K C) := S_deeds_all (fun x C => Held P w0 K mg base 2 (He.ga K x) (spC K C))
  (Held.up (held_push H) (by decide)) (Held.up (held_plus H) (by decide)) (Held.up (held_minus H) (by decide)) (Held.up (held_digit H) (by decide)) (Held.up (held_less H) (by decide)) (Held.up (held_same H) (by decide)) (Held.up (held_load H) (by decide)) (Held.up (held_keep H) (by decide)) (Held.up (held_assign H) (by decide)) (Held.up (held_take H) (by decide)) (Held.up (held_rewind H) (by decide)) (Held.up (held_emit H) (by decide)) (Held.up (held_cell H) (by decide)) (Held.up (held_drop H) (by decide)) (Held.up (held_double H) (by decide)) (Held.up (held_exchange H) (by decide)) (Held.up (held_test H) (by decide)) (Held.up (held_call H) (by decide)) (Held.up (held_call_low H) (by decide)) (Held.up (held_return H) (by decide))
theorem cal_State_has_ended (H : Hd K mg) : CalM P w0 K mg base 1 "State" "has_ended" C_State_has_ended [] := by
  obtain ⟨fd, F⟩ := H.def_ 25 rfl
  exact calM_mk F sc_State_has_ended
    (fun cdv A outer s H1 E hr => (as_one (as_ret (ae_cmp (ab_notInA hr) (ae_fld (H.cls 8) (H.noat 12) (ae_var 0)) (ae_fld (H.cls 8) (H.noat 11) (ae_var 0))))))
    pure_State_has_ended (H.cls 8) (H.meth 44) (fun _ _ _ _ _ _ us hl => match us, hl with | [_], _ => rfl)
theorem cal_State_step (H : Hd K mg) : CalM P w0 K mg base 3 "State" "step" C_State_step [] := by
  obtain ⟨fd, F⟩ := H.def_ 26 rfl
  exact calM_mk F sc_State_step
    (fun cdv A outer s H1 E hr => (as_cons (as_if (at_cmp (ab_notInA hr) (ae_fld (H.cls 8) (H.noat 12) (ae_var 0)) (ae_fld (H.cls 8) (H.noat 11) (ae_var 0))) (as_one (as_ret ae_bl)) as_nil)
    (as_cons (as_asg (ae_ix (ax_all hr) (ae_fld (H.cls 8) (H.noat 11) (ae_var 0)) (ae_fld (H.cls 8) (H.noat 12) (ae_var 0))) (ag_tup rfl (ags_cons (ag_name 1 sc_State_step.nd rfl (Or.inl rfl)) (ags_cons (ag_name 2 sc_State_step.nd rfl (Or.inl rfl)) (ags_cons (ag_name 3 sc_State_step.nd rfl (Or.inl rfl)) ags_nil)))))
    (as_cons (as_fld (H.cls 8) (H.noat 12) (ae_var 0) (ae_var 3))
    (as_cons (as_fldaug (H.cls 8) (H.noat 18) (ae_var 0) ae_int aio_add)
    (as_cons (as_if (at_cmp (ab_inG (T_DEEDS_gd H)) (ae_var 1) (ae_glo rfl (H.glo 45))) (as_cons (as_set 4 sc_State_step.nd rfl (Or.inl rfl) (ae_ix (ax_G (T_DEEDS_gd H)) (ae_glo rfl (H.glo 45)) (ae_var 1)))
    (as_one (as_expr (ae_callV 4 (S_deeds_held H) (hr.mono (by decide)) (aa_cons (ae_var 0) (aa_cons (ae_var 2) aa_nil)))))) (as_one (as_if (at_chain ab_le ab_le (ae_gint rfl (H.gint 46)) (ae_var 1) (ae_gint rfl (H.gint 47))) (as_one (as_expr (ae_append (ae_fld (H.cls 8) (H.noat 13) (ae_var 0)) (ae_dget2 (Room.units1 hr) (ae_fld (H.cls 8) (H.noat 14) (ae_var 0)) (ae_var 1) ae_int)))) (as_one (as_if (at_chain ab_le ab_le (ae_gint rfl (H.gint 48)) (ae_var 1) (ae_gint rfl (H.gint 49))) (as_cons (as_expr (ae_append (ae_fld (H.cls 8) (H.noat 15) (ae_var 0)) (ae_var 3)))
    (as_one (as_fld (H.cls 8) (H.noat 12) (ae_var 0) (ae_var 1)))) as_nil)))))
    (as_one (as_ret ae_bl))))))))
    pure_State_step (H.cls 8) (H.meth 50) (fun _ _ _ _ _ _ us hl => match us, hl with | [_], _ => rfl)
theorem cal_State_advance (H : Hd K mg) : CalMK P w0 K mg base 4 "State" "advance" C_State_advance 0 ["fuel"] (fun ms zs => ms ++ zs) := by
  obtain ⟨fd, F⟩ := H.def_ 27 rfl
  exact calMK_mk 0 ["fuel"] F sc_State_advance
    (fun cdv A outer s H1 E hr => (as_cons (as_if (at_cmp ab_lt (ae_var 1) ae_int) (as_one as_never) as_nil)
    (as_cons (as_set 2 sc_State_advance.nd rfl (Or.inl rfl) ae_int)
    (as_cons (as_while PassesOwn.never (PW.pt (at_and (at_cmp ab_lt (ae_var 2) (ae_var 1)) (at_and1 (at_tru (ae_meth0 (cal_State_step H) (hr.mono (by decide)) (ae_var 0)))))) (as_one (as_aug 2 sc_State_advance.nd rfl (Or.inl rfl) ae_int ap_add)))
    (as_one (as_ret (ae_var 2)))))))
    pure_State_advance (H.cls 8) (H.meth 51) (fun _ _ _ _ _ _ us ws hl hw => match us, hl, ws, hw with | [_], _, [_], _ => rfl)
theorem cal_run (H : Hd K mg) : CalK P w0 K mg base 5 "run" C_run 2 ["fuel"] (fun ms zs => ms ++ zs) := by
  obtain ⟨fd, F⟩ := H.def_ 28 rfl
  exact calK_mk 2 ["fuel"] F sc_run
    (fun cdv A outer s H1 E hr => (as_cut (as_cons (as_set 3 sc_run.nd rfl (Or.inl rfl) (ae_make (cal_State___init__ H) (hr.mono (by decide)) rfl (aa_cons (ae_var 0) (aa_cons (ae_var 1) aa_nil))))
    (as_cons (as_set 4 sc_run.nd rfl (Or.inl rfl) (ae_methK (cal_State_advance H) (hr.mono (by decide)) (ae_var 3) (ak_cons (ae_var 2) ak_nil)))
    (as_one (as_ret (ae_tup' (aa_cons (ae_meth0 (cal_State_has_ended H) (hr.mono (by decide)) (ae_var 3)) (aa_cons (ae_frz (ae_fld (H.cls 8) (H.noat 17) (ae_var 3))) (aa_cons (ae_var 4) aa_nil))))))))))
    pure_run (H.glo 52) (fun _ _ _ _ _ _ us ws hl hw => match us, hl, ws, hw with | [_, _], _, [_], _ => rfl)
theorem cal_law_number (H : Hd K mg) : Cal P w0 K mg base 1 "_law_number" C_law_number [] := by
  obtain ⟨fd, F⟩ := H.def_ 29 rfl
  exact cal_mk F sc_law_number
    (fun cdv A outer s H1 E hr => (as_cons (as_if (at_cmp ab_lt (ae_var 0) ae_int) (as_one (as_ret (ae_B ab_sub ae_int (ae_var 0)))) as_nil)
    (as_one (as_ret (ae_var 0)))))
    pure_law_number (H.glo 53) (fun _ _ _ _ _ _ us hl => match us, hl with | [_], _ => rfl)
theorem cal_law_draws (H : Hd K mg) : Cal P w0 K mg base 2 "_law_draws" C_law_draws [] := by
  obtain ⟨fd, F⟩ := H.def_ 30 rfl
  exact cal_mk F sc_law_draws
    (fun cdv A outer s H1 E hr => (as_cons (as_set 1 sc_law_draws.nd rfl (Or.inl rfl) (ae_lst true aa_nil))
    (as_cons (as_for PassesOwn.never rfl (ai_lst (ae_var 0)) (ag_name 2 sc_law_draws.nd rfl (Or.inl rfl)) (as_cons (as_set 3 sc_law_draws.nd rfl (Or.inl rfl) (ae_call (cal_law_number H) (hr.mono (by decide)) rfl (aa_cons (ae_var 2) aa_nil)))
    (as_one (as_if (at_cmp ab_ge (ae_var 3) ae_int) (as_one (as_for PassesOwn.never rfl (ai_rng1 rfl (H.free 4) (aa_cons ae_int aa_nil)) (ag_name 4 sc_law_draws.nd rfl (Or.inl rfl)) (as_cons (as_if (at_cmp (ab_eqA hr) (ae_var 3) ae_int) (as_one as_break) as_nil)
    (as_cons (as_expr (ae_append (ae_var 1) (ae_B ab_mod (ae_cT ac_int rfl (H.free 26) rfl (aa_cons (ae_var 3) aa_nil)) ae_int)))
    (as_one (as_set 3 sc_law_draws.nd rfl (Or.inl rfl) (ae_B ab_div (ae_var 3) ae_int))))))) (as_cons (as_set 5 sc_law_draws.nd rfl (Or.inl rfl) (ae_B ab_mod (ae_cT ac_int rfl (H.free 26) rfl (aa_cons (ae_B ab_add (ae_B ab_mul (ae_var 3) ae_int) ae_int) aa_nil)) ae_int))
    (as_cons (as_set 6 sc_law_draws.nd rfl (Or.inl rfl) (ae_B ab_mod (ae_cT ac_int rfl (H.free 26) rfl (aa_cons (ae_B ab_add (ae_B ab_mul (ae_var 5) ae_int) (ae_var 3)) aa_nil)) ae_int))
    (as_one (as_expr (ae_extend (ae_var 1) (ae_lst false (aa_cons (ae_B ab_mod (ae_cT ac_int rfl (H.free 26) rfl (aa_cons (ae_var 3) aa_nil)) ae_int) (aa_cons (ae_B ab_mod (ae_cT ac_int rfl (H.free 26) rfl (aa_cons (ae_var 5) aa_nil)) ae_int) (aa_cons (ae_B ab_mod (ae_cT ac_int rfl (H.free 26) rfl (aa_cons (ae_var 6) aa_nil)) ae_int) aa_nil)))))))))))))
    (as_one (as_ret (ae_var 1))))))
    pure_law_draws (H.glo 54) (fun _ _ _ _ _ _ us hl => match us, hl with | [_], _ => rfl)
theorem cal_law_next (H : Hd K mg) : Cal P w0 K mg base 1 "_law_next" C_law_next [] := by
  obtain ⟨fd, F⟩ := H.def_ 31 rfl
  exact cal_mk F sc_law_next
    (fun cdv A outer s H1 E hr => (as_cons (as_if (at_tru (ae_var 0)) (as_one (as_ret (ae_pop (ae_var 0)))) as_nil)
    (as_one (as_ret ae_int))))
    pure_law_next (H.glo 55) (fun _ _ _ _ _ _ us hl => match us, hl with | [_], _ => rfl)
theorem cal_law_code (H : Hd K mg) : Cal P w0 K mg base 1 "_law_code" C_law_code [] := by
  obtain ⟨fd, F⟩ := H.def_ 32 rfl
  exact cal_mk F sc_law_code
    (fun cdv A outer s H1 E hr => (as_cons (as_set 1 sc_law_code.nd rfl (Or.inl rfl) (ae_lst false (aa_cons ae_int (aa_cons ae_int (aa_cons ae_int (aa_cons ae_int (aa_cons ae_int (aa_cons ae_int (aa_cons ae_int (aa_cons ae_int aa_nil))))))))))
    (as_cons (as_set 2 sc_law_code.nd rfl (Or.inl rfl) (ae_B ab_mod (ae_cT ac_int rfl (H.free 26) rfl (aa_cons (ae_var 0) aa_nil)) ae_int))
    (as_cons (as_set 3 sc_law_code.nd rfl (Or.inl rfl) (ae_B ab_div (ae_var 0) ae_int))
    (as_cons (as_if (at_cmp ab_lt (ae_var 2) ae_int) (as_one (as_ret (ae_B ab_add ae_int (ae_B ab_mod (ae_cT ac_int rfl (H.free 26) rfl (aa_cons (ae_var 3) aa_nil)) ae_int)))) as_nil)
    (as_cons (as_if (at_cmp ab_lt (ae_var 2) ae_int) (as_one (as_ret (ae_ix (ax_all hr) (ae_var 1) (ae_B ab_mod (ae_cT ac_int rfl (H.free 26) rfl (aa_cons (ae_var 3) aa_nil)) (ae_cB ac_len rfl (H.free 3) rfl (aa_cons (ae_var 1) aa_nil)))))) as_nil)
    (as_cons (as_if (at_cmp (ab_eqA hr) (ae_var 2) ae_int) (as_one (as_ret (ae_B ab_add ae_int (ae_var 3)))) as_nil)
    (as_cons (as_if (at_cmp ab_gt (ae_var 3) ae_int) (as_one (as_ret (ae_B ab_sub ae_int (ae_var 3)))) as_nil)
    (as_one (as_ret (ae_B ab_mul ae_int (ae_var 3))))))))))))
    pure_law_code (H.glo 56) (fun _ _ _ _ _ _ us hl => match us, hl with | [_], _ => rfl)
theorem cal_law_codes (H : Hd K mg) : Cal P w0 K mg base 2 "_law_codes" C_law_codes [] := by
  obtain ⟨fd, F⟩ := H.def_ 33 rfl
  exact cal_mk F sc_law_codes
    (fun cdv A outer s H1 E hr => (as_cons (as_set 2 sc_law_codes.nd rfl (Or.inl rfl) (ae_lst true aa_nil))
    (as_cons (as_for PassesOwn.never rfl (ai_rng1 rfl (H.free 4) (aa_cons (ae_var 1) aa_nil)) (ag_name 3 sc_law_codes.nd rfl (Or.inl rfl)) (as_cons (as_if (at_not (at_tru (ae_var 0))) (as_one as_break) as_nil)
    (as_one (as_expr (ae_append (ae_var 2) (ae_call (cal_law_code H) (hr.mono (by decide)) rfl (aa_cons (ae_call (cal_law_next H) (hr.mono (by decide)) rfl (aa_cons (ae_var 0) aa_nil)) aa_nil)))))))
    (as_one (as_ret (ae_var 2))))))
    pure_law_codes (H.glo 57) (fun _ _ _ _ _ _ us hl => match us, hl with | [_, _], _ => rfl)
theorem cal_law_readable (H : Hd K mg) : Cal P w0 K mg base 1 "_law_readable" C_law_readable [] := by
  obtain ⟨fd, F⟩ := H.def_ 34 rfl
  exact cal_mk F sc_law_readable
    (fun cdv A outer s H1 E hr => (as_cons (as_set 1 sc_law_readable.nd rfl (Or.inl rfl) (ae_lst true aa_nil))
    (as_cons (as_for PassesOwn.never rfl (ai_lst (ae_var 0)) (ag_name 2 sc_law_readable.nd rfl (Or.inl rfl)) (as_cons (as_if (at_cmp ab_lt (ae_var 2) ae_int) (as_one as_break) as_nil)
    (as_one (as_expr (ae_append (ae_var 1) (ae_var 2))))))
    (as_one (as_ret (ae_var 1))))))
    pure_law_readable (H.glo 58) (fun _ _ _ _ _ _ us hl => match us, hl with | [_], _ => rfl)
theorem cal_law_is_integer (H : Hd K mg) : Cal P w0 K mg base 1 "_law_is_integer" C_law_is_integer [] := by
  obtain ⟨fd, F⟩ := H.def_ 35 rfl
  exact cal_mk F sc_law_is_integer
    (fun cdv A outer s H1 E hr => (as_one (as_ret (ae_and (ae_cB ac_isi rfl (H.free 59) rfl (aa_cons (ae_var 0) (aa_cons (ae_ty rfl (H.free 26) rfl) aa_nil))) (ae_one (ae_not (ae_cB ac_isi rfl (H.free 59) rfl (aa_cons (ae_var 0) (aa_cons (ae_ty rfl (H.free 60) rfl) aa_nil)))))))))
    pure_law_is_integer (H.glo 61) (fun _ _ _ _ _ _ us hl => match us, hl with | [_], _ => rfl)
theorem cal_law_is_row (H : Hd K mg) : Cal P w0 K mg base 2 "_law_is_row" C_law_is_row [] := by
  obtain ⟨fd, F⟩ := H.def_ 36 rfl
  exact cal_mk F sc_law_is_row
    (fun cdv A outer s H1 E hr => (as_cons (as_if (at_not (at_tru (ae_cB ac_isi rfl (H.free 59) rfl (aa_cons (ae_var 0) (aa_cons (ae_ty rfl (H.free 1) rfl) aa_nil))))) (as_one (as_ret ae_bl)) as_nil)
    (as_cons (as_for PassesOwn.never rfl (ai_lst (ae_var 0)) (ag_name 1 sc_law_is_row.nd rfl (Or.inl rfl)) (as_one (as_if (at_not (at_tru (ae_call (cal_law_is_integer H) (hr.mono (by decide)) rfl (aa_cons (ae_var 1) aa_nil)))) (as_one (as_ret ae_bl)) as_nil)))
    (as_one (as_ret ae_bl)))))
    pure_law_is_row (H.glo 62) (fun _ _ _ _ _ _ us hl => match us, hl with | [_], _ => rfl)
theorem cal_law_wrote (H : Hd K mg) : Cal P w0 K mg base 3 "_law_wrote" C_law_wrote [] := by
  obtain ⟨fd, F⟩ := H.def_ 37 rfl
  exact cal_mk F sc_law_wrote
    (fun cdv A outer s H1 E hr => (as_cons (as_if (PW.pt (at_or (at_not (at_tru (ae_cB ac_isi rfl (H.free 59) rfl (aa_cons (ae_var 0) (aa_cons (ae_ty rfl (H.free 5) rfl) aa_nil))))) (at_or1 (at_cmp (ab_neA hr) (ae_cB ac_len rfl (H.free 3) rfl (aa_cons (ae_var 0) aa_nil)) ae_int)))) (as_one (as_ret ae_bl)) as_nil)
    (as_cons (as_if (PW.pt (at_or (at_cmp ab_isNot (ae_ix (ax_all hr) (ae_var 0) ae_int) ae_bl) (at_or (at_not (at_tru (ae_call (cal_law_is_row H) (hr.mono (by decide)) rfl (aa_cons (ae_ix (ax_all hr) (ae_var 0) ae_int) aa_nil)))) (at_or1 (at_not (at_tru (ae_call (cal_law_is_integer H) (hr.mono (by decide)) rfl (aa_cons (ae_ix (ax_all hr) (ae_var 0) ae_int) aa_nil)))))))) (as_one (as_ret ae_bl)) as_nil)
    (as_one (as_ret (ae_and (ae_cmp (ab_eqA hr) (ae_ix (ax_all hr) (ae_var 0) ae_int) (ae_var 1)) (ae_one (ae_chain ab_lt ab_le ae_int (ae_ix (ax_all hr) (ae_var 0) ae_int) (ae_var 2)))))))))
    pure_law_wrote (H.glo 63) (fun _ _ _ _ _ _ us hl => match us, hl with | [_, _, _], _ => rfl)
theorem cal_law_digits (H : Hd K mg) : Cal P w0 K mg base 1 "_law_digits" C_law_digits [] := by
  obtain ⟨fd, F⟩ := H.def_ 38 rfl
  exact cal_mk F sc_law_digits
    (fun cdv A outer s H1 E hr => (as_cons (as_set 1 sc_law_digits.nd rfl (Or.inl rfl) (ae_lst true aa_nil))
    (as_cons (as_set 2 sc_law_digits.nd rfl (Or.inl rfl) ae_int)
    (as_cons (as_set 3 sc_law_digits.nd rfl (Or.inl rfl) ae_bl)
    (as_cons (as_for PassesOwn.never rfl (ai_lst (ae_var 0)) (ag_name 4 sc_law_digits.nd rfl (Or.inl rfl)) (as_one (as_if (at_chain ab_le ab_le ae_int (ae_var 4) ae_int) (as_cons (as_set 2 sc_law_digits.nd rfl (Or.inl rfl) (ae_B ab_sub (ae_B ab_add (ae_B ab_mul ae_int (ae_var 2)) (ae_var 4)) ae_int))
    (as_one (as_set 3 sc_law_digits.nd rfl (Or.inl rfl) ae_bl))) (as_cons (as_if (at_tru (ae_var 3)) (as_one (as_expr (ae_append (ae_var 1) (ae_var 2)))) as_nil)
    (as_cons (as_set 2 sc_law_digits.nd rfl (Or.inl rfl) ae_int)
    (as_one (as_set 3 sc_law_digits.nd rfl (Or.inl rfl) ae_bl)))))))
    (as_cons (as_if (at_tru (ae_var 3)) (as_one (as_expr (ae_append (ae_var 1) (ae_var 2)))) as_nil)
    (as_one (as_ret (ae_var 1)))))))))
    pure_law_digits (H.glo 64) (fun _ _ _ _ _ _ us hl => match us, hl with | [_], _ => rfl)
theorem glo_law (H : Hd K mg) : mg "law" = some (.ref (He.ga K "law")) := (H.glo 67)
theorem def_law (H : Hd K mg) : ∃ fd, FunD K "law" "law" (defArgs (top 50)) (defBody (top 50)) (defScope (top 50)) [] [] (He.ga K "law") fd := H.def_ 39 rfl
theorem ok_law (H : Hd K mg) {fd : FuncData} (F : FunD K "law" "law" (defArgs (top 50)) (defBody (top 50)) (defScope (top 50)) [] [] (He.ga K "law") fd) : FnOk  P w0 K mg base CX0 6 (He.ga K "law") fd ["_law_script"] (spC K C_law) :=
  fn_okC F sc_law
    (fun cdv A outer s H1 E hr => (as_cons (as_set 1 sc_law.nd rfl (Or.inl rfl) (ae_call (cal_law_draws H) (hr.mono (by decide)) rfl (aa_cons (ae_var 0) aa_nil)))
    (as_cons (as_expr (ae_reverse (ae_var 1)))
    (as_cons (as_set 2 sc_law.nd rfl (Or.inl rfl) (ae_call (cal_law_next H) (hr.mono (by decide)) rfl (aa_cons (ae_var 1) aa_nil)))
    (as_cons (as_set 3 sc_law.nd rfl (Or.inl rfl) ae_int)
    (as_cons (as_if (at_cmp (ab_eqA hr) (ae_B ab_mod (ae_cT ac_int rfl (H.free 26) rfl (aa_cons (ae_var 2) aa_nil)) ae_int) ae_int) (as_one (as_set 3 sc_law.nd rfl (Or.inl rfl) (ae_B ab_add ae_int (ae_B ab_mod (ae_B ab_div (ae_var 2) ae_int) ae_int)))) as_nil)
    (as_cons (as_set 4 sc_law.nd rfl (Or.inl rfl) (ae_BL false ab_rep (ae_frz (ae_call (cal_law_codes H) (hr.mono (by decide)) rfl (aa_cons (ae_var 1) (aa_cons ae_int aa_nil)))) (ae_var 3)))
    (as_cons (as_set 5 sc_law.nd rfl (Or.inl rfl) (ae_call0 (cal_seed_image H) (hr.mono (by decide)) rfl))
    (as_cons (as_if (PW.pt (at_or (at_not (at_tru (ae_call (cal_law_is_row H) (hr.mono (by decide)) rfl (aa_cons (ae_var 5) aa_nil)))) (at_or (at_cmp ab_gt (ae_cB ac_len rfl (H.free 3) rfl (aa_cons (ae_var 5) aa_nil)) ae_int) (at_or (at_cmp (ab_neA hr) (ae_B ab_mod (ae_cB ac_len rfl (H.free 3) rfl (aa_cons (ae_var 5) aa_nil)) ae_int) ae_int) (at_or1 (at_cmp (ab_eqA hr) (ae_cB ac_len rfl (H.free 3) rfl (aa_cons (ae_var 5) aa_nil)) ae_int)))))) (as_one (as_ret ae_bl)) as_nil)
    (as_cons (as_if (PW.pt (at_or (at_cmp ab_lt (ae_cB (ac_min rfl) rfl (H.free 65) rfl (aa_cons (ae_var 5) aa_nil)) ae_int) (at_or1 (at_cmp ab_gt (ae_cB (ac_max rfl) rfl (H.free 66) rfl (aa_cons (ae_var 5) aa_nil)) ae_int)))) (as_one (as_ret ae_bl)) as_nil)
    (as_cons (as_set 6 sc_law.nd rfl (Or.inl rfl) (ae_frz (ae_call (cal_law_readable H) (hr.mono (by decide)) rfl (aa_cons (ae_var 4) aa_nil))))
    (as_cons (as_set 7 sc_law.nd rfl (Or.inl rfl) (ae_cTL false ac_list rfl (H.free 1) rfl (aa_cons (ae_var 4) aa_nil)))
    (as_cons (as_if (at_not (at_tru (ae_call (cal_law_wrote H) (hr.mono (by decide)) rfl (aa_cons (ae_callK (cal_run H) (hr.mono (by decide)) rfl (aa_cons (ae_var 5) (aa_cons (ae_var 7) aa_nil)) (ak_cons ae_int ak_nil)) (aa_cons (ae_frz (ae_call (cal_law_digits H) (hr.mono (by decide)) rfl (aa_cons (ae_var 6) aa_nil))) (aa_cons (ae_B ab_add (ae_B ab_mul ae_int (ae_cB ac_len rfl (H.free 3) rfl (aa_cons (ae_var 6) aa_nil))) ae_int) aa_nil)))))) (as_one (as_ret ae_bl)) as_nil)
    (as_cons (as_set 8 sc_law.nd rfl (Or.inl rfl) (ae_cTL false ac_list rfl (H.free 1) rfl (aa_cons (ae_var 5) aa_nil)))
    (as_cons (as_lput (ae_var 5) (ae_B ab_mod (ae_cT ac_int rfl (H.free 26) rfl (aa_cons (ae_var 2) aa_nil)) (ae_cB ac_len rfl (H.free 3) rfl (aa_cons (ae_var 5) aa_nil))) (ae_B ab_add (ae_ix (ax_all hr) (ae_var 5) (ae_B ab_mod (ae_cT ac_int rfl (H.free 26) rfl (aa_cons (ae_var 2) aa_nil)) (ae_cB ac_len rfl (H.free 3) rfl (aa_cons (ae_var 5) aa_nil)))) ae_int))
    (as_one (as_ret (ae_and (ae_cmp (ab_eqA hr) (ae_call0 (cal_seed_image H) (hr.mono (by decide)) rfl) (ae_var 8)) (ae_one (ae_cmp (ab_eqA hr) (ae_var 7) (ae_var 4)))))))))))))))))))))
    pure_law
end
end PP

namespace PP
open PySem PySem.Spec PyProof.Rows L2
abbrev Rw : PySem.W.OpenRow := PySem.W.OpenLaw.row PySem.Challenge.rw_plinth_k39_seed_reads_digits
abbrev hk : PySem.W.Hook := hookP (asN 4) fa fn exB
def ob (s : PySem.W.SharedT) : He.AlD := obsP (asN 4) fa fn exB (HandSHeadRun.getT s)
theorem ob_eq (s : PySem.W.SharedT) : ob s = hk.obs s.abs := obsP_eq (HandSHeadRun.getT_eq s)
abbrev RunP (w : World) : Prop := HandSHeadRun.RunEq Rw (PySem.W.view Rw.prog [50]) hk ob 2500 nms w
theorem runF (w : World) : RunP (w.withFollow "special-get-raises" false) := by
  intro os
  kernel_rfl
theorem runT (w : World) : RunP (w.withFollow "special-get-raises" true) := by
  intro os
  kernel_rfl
theorem run_ (w : World) : RunP w := PySem.W.byRow2 "special-get-raises" (P := RunP) runF runT w
end PP

namespace PP
open PySem PySem.Spec PyProof.Rows L2
theorem law_end {K : PySem.W.Frag} {H : Hp} {a : Addr} {ns : List Int} (hn : ns.length ≤ 63) (hS : SqL K H a (ns.map V.int)) : spC K C_law [.ref a] H (fun v _ => v = .bl true) fun _ _ _ => False := by
  refine ⟨{ Z := [], R0 := [], H0 := H, F0 := H, P0 := [] }, [], [.dat (.scr (intL ns))], [], fun m _ => m = .dat (.bl true), ⟨⟨rfl, List.nodup_nil, (fun _ h => nomatch h), (fun _ h => nomatch h), (fun i a c h => nomatch h), (fun _ _ h _ => h), (fun _ h => nomatch h), (fun b o h => ?_), List.prefix_rfl, (fun _ h => nomatch h), (fun _ h => h)⟩, ⟨rfl, (fun i m hm => ?_)⟩⟩, rfl, rfl, ⟨ns, rfl, rfl, hn, fun _ => rfl⟩, fun m st v H' ρ' hm C r => ?_⟩
  · exact (mask_out (by simp [lives])).trans h
  · cases i with
    | zero =>
      cases hm
      exact ⟨.ref a, rfl, a, ns.map V.int, rfl, Ex.l (fun b o h => (mask_out (by simp [lives])).trans h) hS, reps.ints ns⟩
    | succ i => simp at hm
  · cases hm
    exact r
theorem facts {P : Program} {w : World} {K : PySem.W.Frag} {h : Heap} {mg : PySem.Str → Option Value} {f : Addr} (X : K.In h) (G : h.Ns mainGlobals mg) (hfa : mg ("law" : PySem.Str) = some (.ref f)) (c : He.SaysD fa fn K) (ce : exB K = true) :
    ∃ fd : FuncData, (∀ (s : Shared) (v : Value), BindsTo s fd ⟨[v], []⟩ [("_law_script", v)]) ∧ ∀ base : Heap, K.In base → base.Ns mainGlobals mg → FnOk P w K mg base CX0 6 f fd ["_law_script"] (spC K C_law) := by
  have Hd0 : Hd K mg := ⟨c, ce, h, X, G⟩
  obtain ⟨fd, F⟩ := def_law Hd0
  have e := hfa.symm.trans (glo_law Hd0)
  cases e
  have b := FunD.bindsA (ps := ["_law_script"]) F fun _ _ _ _ _ _ us hl => match us, hl with | [_], _ => rfl
  exact ⟨fd, fun s v => b s [v] rfl, fun base _ _ => ok_law Hd0 F⟩
end PP
open PySem PySem.W PySem.Calls PyProof.Rows
theorem PySem.Challenge.cw_plinth_k39_seed_reads_digits_holds : PySem.Challenge.rw_plinth_k39_seed_reads_digits.Holds := by
  w_on; o_law
  refine HandSHeadRun.head_any (r := OpenLaw.row PySem.Challenge.rw_plinth_k39_seed_reads_digits) (q := view (OpenLaw.row PySem.Challenge.rw_plinth_k39_seed_reads_digits).prog [50]) (H := PP.hk) (ob := PP.ob) (M := 2500) (loose := PP.nms) (d := HandSHeadRun.topDef (OpenLaw.row PySem.Challenge.rw_plinth_k39_seed_reads_digits).prog 50) (kwd := []) PP.ob_eq
    (by kernel_rfl) (fun s => by kernel_rfl) PP.run_ (by kernel_rfl) (by kernel_rfl) (by kernel_rfl) (by rfl) (by first | assumption | decide +kernel) (by decide +kernel) ⟨rfl, rfl, rfl, rfl, rfl, by decide +kernel⟩ ?hw ?hc
  case hw => w_witness2
  case hc =>
    refine L2.walk_ofE (l := PySem.Challenge.rw_plinth_k39_seed_reads_digits) (n := 63) (k := 6) (x := "_law_script") (CX := L2.CX0) rfl (by decide) (by kernel_rfl) ⟨rfl, by decide, by decide⟩ ?F (fun _ _ _ _ z => z)
    intro w mg fa h Y G hmg0
    obtain ⟨K, KX, c, ce⟩ := Y
    have hmg : mg ("law" : PySem.Str) = some (.ref fa) := by
      have e : (HandSHeadRun.topDef (OpenLaw.row PySem.Challenge.rw_plinth_k39_seed_reads_digits).prog 50).name = ("law" : PySem.Str) := by kernel_rfl
      rw [← e]
      exact hmg0
    obtain ⟨fd, hb, hF⟩ := PP.facts (P := (PySem.Challenge.rw_plinth_k39_seed_reads_digits).prog) (w := w) KX G hmg c ce
    exact ⟨K, fd, PP.spC K PP.C_law, KX, hb, fun H a ns hl _ hS => PP.law_end hl hS, hF⟩
