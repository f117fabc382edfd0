import PyProof.Rows.All
import PyProof.ReprReads
import PyProof.EqAt
import PyProof.EqKinds
import PyProof.SliceList
import PyProof.Rows.TmSorted
import Wide.All
import OpenK.AllK
import Wide.FinOn
import PyProof.TupleCall
import HandS.ForMost
import HandS.ForExc
import HandS.Walk
import HandS.Lambda
import HandS.Wide
import HandS.TupAny
import HandS.TupMul
import HandS.Conv
import HandS.IsInst
import HandS.Deep
import HandS.More
import PyProof.Rows.SeqMore
import HandS.ForDict
import HandS.Style
import PyProof.Rows.SumAny
import PyProof.ReprRoads
import PyProof.ReprLen
import HandS.Ends
import PyProof.AutoSeq1
import HandS.SetFor
import PyProof.ListIndex
import KE.GoesMore
import HandS.Iter
import KE.GoesEnum
import PyProof.Rows.TupMore
import KE.KRevSl
import HandS.SortInts
import HandS.ExcValue
import PyProof.TupleOfSeq
import KE.KUnpack
import HandS.ExcIs
import HandS.EndTab
import HandS.WordsDict
import HandS.ExcField
import HandS.ExcInit
import HandS.Text
import HandS.List
import KE.KEqDict
import PyProof.NeKinds
import PyProof.Rows.StrMeet
import KE.KIndexOf
import HandS.TupSets
import PySem.Challenge.RW_warpkeep_k55_eyes_doubled_and_empty
set_option Elab.async false
set_option linter.all false
set_option maxRecDepth 100000
namespace DL
open PySem

/-! ## values, objects, results -/
/-- an error: its class's name, its field -/
structure Ex where
  c : Str
  pay : Option (Str × PyData)
/-- a value of the reading: pure data, a tuple that holds a reference, a reference into the store, an error's value -/
inductive D where
  | p (x : PyData)
  | tup (xs : List D)
  | ref (n : Nat)
  | exn (e : Ex)
/-- an object that may change -/
inductive Ob where
  | lst (xs : List D)
  | dct (kvs : List (PyData × D))
  | gone
abbrev Sto := List Ob
inductive R (α : Type) where
  | ok (a : α) (S : Sto)
  | ex (e : Ex) (S : Sto)
  | no
abbrev M (α : Type) := Sto → R α
def ret {α : Type} (a : α) : M α := fun S => .ok a S
def bnd {α β : Type} (m : M α) (f : α → M β) : M β := fun S => match m S with
  | .ok a S' => f a S'
  | .ex e S' => .ex e S'
  | .no => .no
def no {α : Type} : M α := fun _ => .no
/-- an option's value, else no way -/
def opt {α : Type} (o : Option α) : M α := fun S => match o with
  | some a => .ok a S
  | none => .no
/-- no error may leave -/
def hush {α : Type} (m : M α) : M α := fun S => match m S with
  | .ex _ _ => .no
  | r => r
abbrev Env := List (Option D)
abbrev E := Env → M D
abbrev T := Env → M Bool
abbrev As := Env → M (List D)
inductive Fl where
  | nx (env : Env)
  | rt (d : D)
  | bk (env : Env)
  | ct (env : Env)
abbrev B := Env → M Fl
abbrev G := D → Env → M Env

@[simp] theorem bnd_ok {α β : Type} {m : M α} {f : α → M β} {S S' : Sto} {a : α} (h : m S = .ok a S') : bnd m f S = f a S' := by
  unfold bnd; rw [h]
@[simp] theorem bnd_ret {α β : Type} (a : α) (f : α → M β) (S : Sto) : bnd (ret a) f S = f a S := rfl
theorem bnd_ex {α β : Type} {m : M α} {f : α → M β} {S S' : Sto} {e : Ex} (h : m S = .ex e S') : bnd m f S = .ex e S' := by
  unfold bnd; rw [h]

/-! ## reading data -/
mutual
def toP : D → Option PyData
  | .p x => some x
  | .tup xs => (toPs xs).map .tuple
  | .ref _ => none
  | .exn _ => none
def toPs : List D → Option (List PyData)
  | [] => some []
  | d :: ds => match toP d, toPs ds with
    | some x, some xs => some (x :: xs)
    | _, _ => none
end
theorem toPs_map (xs : List PyData) : toPs (xs.map D.p) = some xs := by
  induction xs with
  | nil => rfl
  | cons x xs ih => show (match toP (.p x), toPs (xs.map D.p) with | some x, some xs => some (x :: xs) | _, _ => none) = _; rw [ih]; rfl
/-- the data as it stands now: a list of data that may change counts too -/
def view (S : Sto) : D → Option PyData
  | .p x => some x
  | .tup xs => (toPs xs).map .tuple
  | .ref n => match S[n]? with
    | some (.lst ds) => (toPs ds).map .list
    | _ => none
  | .exn _ => none
/-- a tuple -/
def mkTup (ds : List D) : D := match toPs ds with
  | some xs => .p (.tuple xs)
  | none => .tup ds
/-- a new object -/
def new (o : Ob) : M D := fun S => .ok (.ref S.length) (S ++ [o])
def newP (xs : List PyData) : M D := new (.lst (xs.map .p))
/-- a new list: told as data, or as an object that may change -/
def mkP (fz : Bool) (xs : List PyData) : M D := if fz then ret (.p (.list xs)) else newP xs
def mkL (fz : Bool) (ds : List D) : M D := if fz then (match toPs ds with
  | some xs => ret (.p (.list xs))
  | none => no) else new (.lst ds)
/-- what a value reads as -/
def see (d : D) : M PyData := fun S => match view S d with
  | some x => .ok x S
  | none => .no
@[simp] theorem see_p (x : PyData) (S : Sto) : see (.p x) S = .ok x S := rfl
theorem see_ref {n : Nat} {xs : List PyData} {S : Sto} (h : S[n]? = some (.lst (xs.map .p))) : see (.ref n) S = .ok (.list xs) S := by
  have e : view S (.ref n) = some (.list xs) := by
    show (match S[n]? with | some (.lst ds) => (toPs ds).map PyData.list | _ => none) = _
    rw [h]
    show (toPs (xs.map D.p)).map PyData.list = _
    rw [toPs_map]
    rfl
  unfold see
  rw [e]

/-! ## expressions -/
def eVar (i : Nat) : E := fun env S => match env[i]? with
  | some (some d) => .ok d S
  | _ => .no
def eC (x : PyData) : E := fun _ S => .ok (.p x) S
/-- by what both sides read as -/
def e2 (f : PyData → PyData → M D) (a b : E) : E := fun env => bnd (a env) fun x => bnd (b env) fun y => bnd (see x) fun u => bnd (see y) fun v => f u v
def e1 (f : PyData → M D) (a : E) : E := fun env => bnd (a env) fun x => bnd (see x) fun u => f u
/-- by the values -/
def e2D (f : D → D → M D) (a b : E) : E := fun env => bnd (a env) fun x => bnd (b env) fun y => f x y
def aNil : As := fun _ => ret []
def aCons (a : E) (r : As) : As := fun env => bnd (a env) fun x => bnd (r env) fun xs => ret (x :: xs)
def eTup (a : As) : E := fun env => bnd (a env) fun xs => ret (mkTup xs)
def eTupN (n : Nat) (a : As) : E := fun env => bnd (a env) fun xs => if xs.length = n then ret (mkTup xs) else no
def eLstN (fz : Bool) (n : Nat) (a : As) : E := fun env => bnd (a env) fun xs => if xs.length = n then mkL fz xs else no
def eLst (a : As) : E := fun env => bnd (a env) fun xs => new (.lst xs)
def eIf (t : T) (a b : E) : E := fun env => bnd (t env) fun c => if c then a env else b env
/-- the call of a def whose arguments and answer are data, in a store of its own -/
def pure1 (r : R D) : M D := fun S => match r with
  | .ok d _ => match toP d with
    | some x => .ok (.p x) S
    | none => .no
  | .ex e _ => .ex e S
  | .no => .no
def eCall (F : List D → M D) (a : As) : E := fun env => bnd (a env) fun xs => match toPs xs with
  | some ys => pure1 (F (ys.map .p) [])
  | none => no

/-! ## operations on data -/
def big : Nat := 16777216
def fAdd (fz : Bool) : PyData → PyData → M D
  | .int i, .int j => ret (.p (.int (i + j)))
  | .str x, .str y => if x.length + y.length ≤ big then ret (.p (.str (x ++ y))) else no
  | .tuple xs, .tuple ys => if xs.length + ys.length ≤ big then ret (.p (.tuple (xs ++ ys))) else no
  | .list xs, .list ys => if xs.length + ys.length ≤ big then mkP fz (xs ++ ys) else no
  | _, _ => no
def fSub : PyData → PyData → M D
  | .int i, .int j => ret (.p (.int (i - j)))
  | _, _ => no
/-- the factors have less than a million bits -/
def mulOk (i j : Int) : Bool := decide (i.natAbs.log2 + j.natAbs.log2 < 1000000) || decide (j.natAbs < 2) || decide (i.natAbs < 2)
def fMul (fz : Bool) : PyData → PyData → M D
  | .int i, .int j => if mulOk i j then ret (.p (.int (i * j))) else no
  | .tuple xs, .int k => if xs.length ≤ 1000 ∧ k ≤ 1000 ∧ -1000 ≤ k then ret (.p (.tuple (List.replicate k.toNat xs).flatten)) else no
  | .list xs, .int k => if xs.length ≤ 1000 ∧ k ≤ 1000 ∧ -1000 ≤ k then mkP fz (List.replicate k.toNat xs).flatten else no
  | .str x, .int k => if x.length ≤ 1000 ∧ 0 ≤ k ∧ k ≤ 1000 then ret (.p (.str ⟨(List.replicate k.toNat x.cps.toList).flatten.toArray⟩)) else no
  | _, _ => no
def fDiv : PyData → PyData → M D
  | .int i, .int j => if 0 < j ∧ j.natAbs.log2 < 9000 then ret (.p (.int (i / j))) else no
  | _, _ => no
def fMod : PyData → PyData → M D
  | .int i, .int j => if 0 < j then ret (.p (.int (i % j))) else no
  | _, _ => no
def fPow : PyData → PyData → M D
  | .int i, .int j => if 0 ≤ j ∧ j ≤ 1000000 ∧ i.natAbs < 2 ^ 64 then ret (.p (.int (i ^ j.toNat))) else no
  | _, _ => no
def fShr : PyData → PyData → M D
  | .int i, .int j => if 0 ≤ j then ret (.p (.int (i / 2 ^ j.toNat))) else no
  | _, _ => no
def fCmp (f : Int → Int → Bool) : PyData → PyData → M D
  | .int i, .int j => ret (.p (.bool (f i j)))
  | _, _ => no
def fNeg : PyData → M D
  | .int i => ret (.p (.int (-i)))
  | _ => no
/-- plain values that are told apart at once -/
def scalP : PyData → PyData → Bool
  | .none, .none => true | .none, .int _ => true | .int _, .none => true | .none, .bool _ => true | .bool _, .none => true | .none, .str _ => true | .str _, .none => true
  | .int _, .int _ => true | .bool _, .bool _ => true | .str _, .str _ => true
  | .int _, .str _ => true | .str _, .int _ => true | .bool _, .str _ => true | .str _, .bool _ => true
  | _, _ => false
/-- what has no dict in it is compared -/
def cmpOk (x y : PyData) : Bool := scalP x y || (SeqAt.shaped x && SeqAt.shaped y)
def fEq (x y : PyData) : M D := if cmpOk x y then ret (.p (.bool (PyData.eqv x y))) else no
def fNe (x y : PyData) : M D := if cmpOk x y then ret (.p (.bool (!PyData.eqv x y))) else no
def flatP : PyData → Bool
  | .none | .bool _ | .int _ | .str _ => true
  | _ => false
def memOk (x : PyData) (ys : List PyData) : Bool := (flatP x && ys.all flatP) || (SeqAt.shaped x && SeqAt.shaped (.list ys))
/-- x in y -/
def fIn (neg : Bool) (x : PyData) : PyData → M D
  | .str t => match x with
    | .str z => ret (.p (.bool (neg ^^ !(Builtin.Str.occurrences t z 0 t.length 1).isEmpty)))
    | _ => no
  | .list ys => if memOk x ys then ret (.p (.bool (neg ^^ ys.any fun z => PyData.eqv z x))) else no
  | .tuple ys => if flatP x && ys.all flatP then ret (.p (.bool (neg ^^ ys.any fun z => PyData.eqv z x))) else no
  | _ => no
def fLen : PyData → M D
  | .list xs => ret (.p (.int xs.length))
  | .tuple xs => ret (.p (.int xs.length))
  | .str x => if x.length ≤ big then ret (.p (.int x.length)) else no
  | _ => no
/-- the place that an index names -/
def ixI (n : Nat) (i : Int) : Option Nat := if 0 ≤ i then (if i < n then some i.toNat else none) else if -(n : Int) ≤ i then some (i + n).toNat else none
def atL {α : Type} (xs : List α) (i : Int) : Option α := (ixI xs.length i).bind fun j => xs[j]?
abbrev Ky := Sum Int Str
def keyOf : PyData → Option Ky
  | .int i => some (.inl i)
  | .str x => some (.inr x)
  | _ => none
def dGet (kvs : List (PyData × D)) (k : Ky) : Option D := (kvs.find? fun kv => decide (keyOf kv.1 = some k)).map (·.2)
def dPut (kvs : List (PyData × D)) (k : Ky) (x : PyData) (v : D) : List (PyData × D) :=
  if (kvs.any fun kv => decide (keyOf kv.1 = some k)) = true then kvs.map (fun kv => if keyOf kv.1 = some k then (kv.1, v) else kv) else kvs ++ [(x, v)]
/-- x[y] -/
def fIx : D → D → M D
  | .p (.list xs), .p (.int i) => opt ((atL xs i).map .p)
  | .p (.tuple xs), .p (.int i) => opt ((atL xs i).map .p)
  | .p (.str x), .p (.int i) => if x.length ≤ big then opt ((atL x.cps.toList i).map fun c => .p (.str ⟨#[c]⟩)) else no
  | .tup ds, .p (.int i) => opt (atL ds i)
  | .ref n, .p k => fun S => match S[n]? with
    | some (.lst ds) => match k with
      | .int i => opt (atL ds i) S
      | _ => .no
    | some (.dct kvs) => match keyOf k with
      | some q => opt (dGet kvs q) S
      | none => .no
    | _ => .no
  | _, _ => no
def eIx (a b : E) : E := e2D fIx a b
/-- a cut's ends -/
def cutI (n d : Nat) : Option Int → Nat
  | none => d
  | some v => if v < 0 then (v + (n : Int)).toNat else min v.toNat n
def cutL {α : Type} (xs : List α) (lo hi : Option Int) : List α := (xs.drop (cutI xs.length 0 lo)).take (cutI xs.length xs.length hi - cutI xs.length 0 lo)
def fCut (fz : Bool) : PyData → Option Int → Option Int → M D
  | .list xs, lo, hi => mkP fz (cutL xs lo hi)
  | .tuple xs, lo, hi => ret (.p (.tuple (cutL xs lo hi)))
  | _, _, _ => no
abbrev O := Env → M (Option Int)
def oNone : O := fun _ => ret none
def oSome (a : E) : O := fun env => bnd (a env) fun x => match x with
  | .p (.int i) => ret (some i)
  | _ => no
def eCut (fz : Bool) (a : E) (lo hi : O) : E := fun env => bnd (a env) fun x => bnd (lo env) fun l => bnd (hi env) fun h => bnd (see x) fun u => fCut fz u l h
/-- the kinds that isinstance asks of -/
inductive Kd where
  | int | bool | str | tuple | list | dict
def isK : Kd → PyData → Bool
  | .int, .int _ => true
  | .int, .bool _ => true
  | .bool, .bool _ => true
  | .str, .str _ => true
  | .tuple, .tuple _ => true
  | .list, .list _ => true
  | .dict, .dict _ => true
  | _, _ => false
def fIsK (k : Kd) : D → M D
  | .p x => ret (.p (.bool (isK k x)))
  | .tup _ => ret (.p (.bool (isK k (.tuple []))))
  | .ref n => fun S => match S[n]? with
    | some (.lst _) => .ok (.p (.bool (isK k (.list [])))) S
    | some (.dct _) => .ok (.p (.bool (isK k (.dict [])))) S
    | _ => .no
  | .exn _ => no
def eIsK (k : Kd) (a : E) : E := fun env => bnd (a env) fun x => fIsK k x
def boolsOf : List PyData → Option (List Bool)
  | [] => some []
  | .bool b :: r => (boolsOf r).map (b :: ·)
  | _ => none
def intsOf : List PyData → Option (List Int)
  | [] => some []
  | .int b :: r => (intsOf r).map (b :: ·)
  | _ => none
def fAll : PyData → M D
  | .list xs => opt ((boolsOf xs).map fun bs => .p (.bool (bs.all id)))
  | _ => no
def fAny : PyData → M D
  | .list xs => opt ((boolsOf xs).map fun bs => .p (.bool (bs.any id)))
  | _ => no
def fSum : PyData → M D
  | .list xs => opt ((intsOf xs).map fun ns => .p (.int ns.sum))
  | .tuple xs => opt ((intsOf xs).map fun ns => .p (.int ns.sum))
  | _ => no
def fMax2 : PyData → PyData → M D
  | .int i, .int j => ret (.p (.int (if j > i then j else i)))
  | _, _ => no
def fMin2 : PyData → PyData → M D
  | .int i, .int j => ret (.p (.int (if j < i then j else i)))
  | _, _ => no
def fInt : PyData → M D
  | .int i => ret (.p (.int i))
  | .bool k => ret (.p (.int (if k then 1 else 0)))
  | _ => no
/-- tuple(x), list(x) of a list, a tuple -/
def fTuple : D → M D
  | .p (.list xs) => ret (.p (.tuple xs))
  | .p (.tuple xs) => ret (.p (.tuple xs))
  | .tup ds => ret (.tup ds)
  | .ref n => fun S => match S[n]? with
    | some (.lst ds) => .ok (mkTup ds) S
    | _ => .no
  | _ => no
def eTuple (a : E) : E := fun env => bnd (a env) fTuple
def fList (fz : Bool) : D → M D
  | .p (.list xs) => mkP fz xs
  | .p (.tuple xs) => mkP fz xs
  | .tup ds => mkL fz ds
  | .ref n => fun S => match S[n]? with
    | some (.lst ds) => mkL fz ds S
    | _ => .no
  | _ => no
def eList (fz : Bool) (a : E) : E := fun env => bnd (a env) (fList fz)
/-! what is shown of data: ints below 200 bits, no dict -/
mutual
def plainP : PyData → Bool
  | .none | .bool _ => true
  | .int i => decide (i.natAbs.log2 < 200)
  | .str x => x.cps.toList.all fun c => decide (c < 1114112)
  | .list xs | .tuple xs => plainPs xs
  | .dict _ => false
def plainPs : List PyData → Bool
  | [] => true
  | x :: xs => plainP x && plainPs xs
end
/-! the same, and {} too -/
mutual
def plainQ : PyData → Bool
  | .none | .bool _ => true
  | .int i => decide (i.natAbs.log2 < 200)
  | .str x => x.cps.toList.all fun c => decide (c < 1114112)
  | .list xs | .tuple xs => plainQs xs
  | .dict kvs => kvs.isEmpty
def plainQs : List PyData → Bool
  | [] => true
  | x :: xs => plainQ x && plainQs xs
end
def reprOk (x : PyData) : Bool := plainQ x && decide (x.depth ≤ 40) && decide (x.weight ≤ 75000)
def fRepr (x : PyData) : M D := if reprOk x then ret (.p (.str x.shown)) else no
/-- methods of lists that may change -/
def fApp : D → D → M D
  | .ref n, d => fun S => match S[n]? with
    | some (.lst ds) => if ds.length < big then .ok (.p .none) (S.set n (.lst (ds ++ [d]))) else .no
    | _ => .no
  | _, _ => no
def fPop : D → M D
  | .ref n => fun S => match S[n]? with
    | some (.lst ds) => match ds.getLast? with
      | some d => .ok d (S.set n (.lst ds.dropLast))
      | none => .no
    | _ => .no
  | _ => no
def fIns : D → D → D → M D
  | .ref n, .p (.int i), d => fun S => match S[n]? with
    | some (.lst ds) => if ds.length < big ∧ 0 ≤ i ∧ i < 4611686018427387904 then .ok (.p .none) (S.set n (.lst (ds.take i.toNat ++ [d] ++ ds.drop i.toNat))) else .no
    | _ => .no
  | _, _, _ => no
def isL (S : Sto) : D → Bool
  | .ref n => match S[n]? with
    | some (.lst _) => true
    | _ => false
  | _ => false
/-- a list's method, without and with an argument, with two -/
def eM0 (f : D → M D) (a : E) : E := fun env => bnd (a env) fun x S => if isL S x then f x S else .no
def eM1 (f : D → D → M D) (a b : E) : E := fun env => bnd (a env) fun x S => if isL S x then bnd (b env) (fun y => f x y) S else .no
def eM2 (f : D → D → D → M D) (a b c : E) : E := fun env => bnd (a env) fun x S => if isL S x then bnd (b env) (fun y => bnd (c env) fun z => f x y z) S else .no
def fExt : D → D → M D
  | .ref n, .p (.list ys) => fun S => match S[n]? with
    | some (.lst ds) => if ds.length + ys.length ≤ big then .ok (.p .none) (S.set n (.lst (ds ++ ys.map .p))) else .no
    | _ => .no
  | .ref n, .p (.tuple ys) => fun S => match S[n]? with
    | some (.lst ds) => if ds.length + ys.length ≤ big then .ok (.p .none) (S.set n (.lst (ds ++ ys.map .p))) else .no
    | _ => .no
  | .ref n, .ref m => fun S => match S[n]?, S[m]? with
    | some (.lst ds), some (.lst es) => if ds.length + es.length ≤ big ∧ n ≠ m then .ok (.p .none) (S.set n (.lst (ds ++ es))) else .no
    | _, _ => .no
  | _, _ => no
def e1D (f : D → M D) (a : E) : E := fun env => bnd (a env) f
def e3D (f : D → D → D → M D) (a b c : E) : E := fun env => bnd (a env) fun x => bnd (b env) fun y => bnd (c env) fun z => f x y z
/-- x[i] = v, by values: v, x, i -/
def fSetIx : D → D → D → M Unit
  | v, .ref n, .p k => fun S => match S[n]? with
    | some (.lst ds) => match k with
      | .int i => match ixI ds.length i with
        | some j => .ok () (S.set n (.lst (ds.set j v)))
        | none => .no
      | _ => .no
    | some (.dct kvs) => match keyOf k with
      | some q => if kvs.length < big then .ok () (S.set n (.dct (dPut kvs q k v))) else .no
      | none => .no
    | _ => .no
  | _, _, _ => no
def fInD (neg : Bool) (x y : D) : M D := fun S => match y with
  | .ref n => match S[n]? with
    | some (.dct kvs) => match x with
      | .p k => match keyOf k with
        | some q => .ok (.p (.bool (neg ^^ (dGet kvs q).isSome))) S
        | none => .no
      | _ => .no
    | _ => bnd (see x) (fun u => bnd (see y) fun v => fIn neg u v) S
  | _ => bnd (see x) (fun u => bnd (see y) fun v => fIn neg u v) S
/-- a display of a dict with text or int keys -/
def ePairs : List (E × E) → Env → M (List (PyData × D))
  | [], _ => ret []
  | (a, b) :: r, env => bnd (a env) fun k => bnd (b env) fun v => bnd (ePairs r env) fun kvs => match k with
    | .p x => ret ((x, v) :: kvs)
    | _ => no
def mergeD : List (PyData × D) → List (PyData × D) → Option (List (PyData × D))
  | acc, [] => some acc
  | acc, (x, v) :: r => match keyOf x with
    | some k => mergeD (dPut acc k x v) r
    | none => none
def eDict (ps : List (E × E)) : E := fun env => bnd (ePairs ps env) fun kvs => match mergeD [] kvs with
  | some m => if kvs.length ≤ 15 then new (.dct m) else no
  | none => no
/-- what is walked by range -/
def iRange (a : E) : Env → M (List D) := fun env => bnd (a env) fun x => match x with
  | .p (.int n) => if n ≤ 16777216 ∧ -16777216 ≤ n then ret ((List.range n.toNat).map fun i => .p (.int (i : Nat))) else no
  | _ => no
def iRange2 (a b : E) : Env → M (List D) := fun env => bnd (a env) fun x => bnd (b env) fun y => match x, y with
  | .p (.int m), .p (.int n) => if n - m ≤ 16777216 ∧ -4611686018427387904 ≤ m ∧ m < 4611686018427387904 ∧ -4611686018427387904 ≤ n ∧ n < 4611686018427387904 then ret ((List.range (n - m).toNat).map fun i => .p (.int (m + (i : Nat)))) else no
  | _, _ => no

/-! ## calls that hand references -/
mutual
def refsD : D → List Nat
  | .p _ => []
  | .tup ds => refsDs ds
  | .ref n => [n]
  | .exn _ => []
def refsDs : List D → List Nat
  | [] => []
  | d :: ds => refsD d ++ refsDs ds
end

/-- a op b op' c -/
def eChain (f f' : PyData → PyData → M D) (a b c : E) : E := fun env => bnd (a env) fun x => bnd (b env) fun y => bnd (bnd (see x) fun u => bnd (see y) fun v => f u v) fun k => match k with
  | .p (.bool true) => bnd (c env) fun z => bnd (see y) fun u => bnd (see z) fun v => f' u v
  | .p (.bool false) => ret (.p (.bool false))
  | _ => no
/-! ## tests -/
def tVal (a : E) : T := fun env => bnd (a env) fun x => match x with
  | .p (.bool b) => ret b
  | _ => no
def tAnd (a b : T) : T := fun env => bnd (a env) fun c => if c then b env else ret false
def tOr (a b : T) : T := fun env => bnd (a env) fun c => if c then ret true else b env
def tNot (a : T) : T := fun env => bnd (a env) fun c => ret (!c)
def tYes : T := fun _ => ret true
/-- and, or, not as values of True, False -/
def eAnd (a b : E) : E := fun env => bnd (a env) fun x => match x with
  | .p (.bool true) => b env
  | .p (.bool false) => ret (.p (.bool false))
  | _ => no
def eOr (a b : E) : E := fun env => bnd (a env) fun x => match x with
  | .p (.bool false) => b env
  | .p (.bool true) => ret (.p (.bool true))
  | _ => no
def eNot (a : E) : E := fun env => bnd (a env) fun x => match x with
  | .p (.bool c) => ret (.p (.bool (!c)))
  | _ => no

/-! ## statements -/
def sNil : B := fun env => ret (.nx env)
def sCons (a b : B) : B := fun env => bnd (a env) fun f => match f with
  | .nx env' => b env'
  | f => ret f
def sExpr (a : E) : B := fun env => bnd (a env) fun _ => ret (.nx env)
def sSet (i : Nat) (a : E) : B := fun env => bnd (a env) fun x => ret (.nx (env.set i (some x)))
def gSub (a b : E) : G := fun v env => bnd (hush (a env)) fun x => bnd (hush (b env)) fun y => bnd (fSetIx v x y) fun _ => ret env
def sAsg (g : G) (a : E) : B := fun env => bnd (a env) fun x => bnd (hush (g x env)) fun env' => ret (.nx env')
def sRet (a : E) : B := fun env => bnd (a env) fun x => ret (.rt x)
def sRetN : B := fun _ => ret (.rt (.p .none))
def sIf (t : T) (a b : B) : B := fun env => bnd (t env) fun c => if c then a env else b env
def sRaise (e : Ex) : B := fun _ S => .ex e S
/-- i, j = .. ; i, j, k = .. -/
def sPar2 (i j : Nat) (a : As) : B := fun env => bnd (a env) fun ds => match ds with
  | [d, e] => ret (.nx ((env.set i (some d)).set j (some e)))
  | _ => no
def sPar3 (i j k : Nat) (a : As) : B := fun env => bnd (a env) fun ds => match ds with
  | [d, e, f] => ret (.nx (((env.set i (some d)).set j (some e)).set k (some f)))
  | _ => no
def sBreak : B := fun env => ret (.bk env)
def sCont : B := fun env => ret (.ct env)
/-- targets -/
def gName (i : Nat) : G := fun x env => ret (env.set i (some x))
def gsFill : List G → List D → Env → M Env
  | [], [], env => ret env
  | g :: gs, x :: xs, env => bnd (g x env) fun env' => gsFill gs xs env'
  | _, _, _ => no
def items : D → Option (List D)
  | .p (.tuple xs) => some (xs.map .p)
  | .tup xs => some xs
  | _ => none
def gTup (gs : List G) : G := fun x env => bnd (opt (items x)) fun xs => if xs.length = gs.length then gsFill gs xs env else no

/-! ## loops -/
def forL (g : G) (b : B) : List D → Env → M Fl
  | [], env => ret (.nx env)
  | x :: xs, env => bnd (hush (g x env)) fun env1 => bnd (b env1) fun f => match f with
    | .nx env2 => forL g b xs env2
    | .ct env2 => forL g b xs env2
    | .bk env2 => ret (.nx env2)
    | .rt d => ret (.rt d)
abbrev I := Env → M (List D)
def sFor (i : I) (g : G) (b : B) : B := fun env => bnd (i env) fun xs => forL g b xs env
def whileN (t : T) (b : B) : Nat → Env → M Fl
  | 0, _ => no
  | n + 1, env => bnd (t env) fun c => if c then bnd (b env) fun f => match f with
    | .nx env2 => whileN t b n env2
    | .ct env2 => whileN t b n env2
    | .bk env2 => ret (.nx env2)
    | .rt d => ret (.rt d)
    else ret (.nx env)
/-- at most n turns -/
def sWhile (n : Nat) (t : T) (b : B) : B := fun env => whileN t b n env
def wipe (env : Env) : List Nat → Env
  | [] => env
  | v :: vs => (wipe env vs).set v none
/-- one turn: an item, or none where the test fails -/
def lcT (g : G) (t : T) (e : E) (env : Env) (x : D) : M (Option D) := bnd (hush (g x env)) fun env1 => bnd (t env1) fun c => if c then bnd (e env1) fun y => ret (some y) else ret none
def lcL (g : G) (t : T) (e : E) (env : Env) : List D → M (List D)
  | [] => ret []
  | x :: xs => bnd (lcT g t e env x) fun o => bnd (lcL g t e env xs) fun ys => ret (o.toList ++ ys)
/-- a list comprehension -/
def eLc (fz : Bool) (own : List Nat) (i : I) (g : G) (t : T) (e : E) : E := fun env => bnd (i env) fun xs => hush (bnd (lcL g t e (wipe env own) xs) fun ys => mkL fz ys)
/-- what is walked: data -/
def elems : PyData → Option (List PyData)
  | .list xs => some xs
  | .tuple xs => some xs
  | _ => none
def iVal (a : E) : I := fun env => bnd (a env) fun d => match d with
  | .tup xs => ret xs
  | .p x => opt ((elems x).map fun xs => xs.map .p)
  | .ref _ => no
  | .exn _ => no
/-- a list of data is told as data from here on -/
def eFrz (a : E) : E := fun env => bnd (a env) fun d S => match d with
  | .ref n => match S[n]? with
    | some (.lst ds) => match toPs ds with
      | some xs => .ok (.p (.list xs)) (S.set n .gone)
      | none => .no
    | _ => .no
  | d => .ok d S
/-- a def's body: what it leaves in the store is dropped where nothing can be asked of it -/
def start (n : Nat) (ds : List D) : Env := ds.map some ++ List.replicate (n - ds.length) none
def body (p n : Nat) (b : B) : List D → M D := fun ds => if ds.length = p then bnd (b (start n ds)) fun f => match f with
  | .nx _ => ret (.p .none)
  | .rt d => ret d
  | _ => no else no
/-- a call in the caller's store -/
def eCallL (F : List D → M D) (a : As) : E := fun env => bnd (a env) F
/-- .. of which nothing new is kept: the answer is data -/
def cut1 (n : Nat) (r : R D) : R D := match r with
  | .ok d S => match toP d with
    | some x => if (S.take n).all (fun o => match o with
        | .lst ds => decide (∀ m ∈ refsDs ds, m < n)
        | .dct kvs => kvs.all fun kv => decide (∀ m ∈ refsD kv.2, m < n)
        | .gone => true) then .ok (.p x) (S.take n) else .no
    | none => .no
  | r => r
def eCallT (F : List D → M D) (a : As) : E := fun env => bnd (a env) fun ds S => cut1 S.length (F ds S)
def fIsN (neg : Bool) (d : D) : M D := match d with
  | .p y => ret (.p (.bool (neg ^^ match y with | .none => true | _ => false)))
  | _ => ret (.p (.bool neg))
/-- i op= .., of ints -/
def sAug (i : Nat) (f : Int → Int → Int) (a : E) : B := fun env => bnd (eVar i env) fun x => bnd (a env) fun y => match x, y with
  | .p (.int m), .p (.int n) => ret (.nx (env.set i (some (.p (.int (f m n))))))
  | _, _ => no
/-- x[y] of a list that may change, of an int from 0 on; its setting -/
def fIxL : D → D → M D
  | .ref n, .p (.int i) => fun S => match S[n]? with
    | some (.lst ds) => if 0 ≤ i then opt (atL ds i) S else .no
    | _ => .no
  | _, _ => no
def fSetL : D → D → D → M Unit
  | v, .ref n, .p (.int i) => fun S => match S[n]? with
    | some (.lst ds) => match ixI ds.length i with
      | some j => .ok () (S.set n (.lst (ds.set j v)))
      | none => .no
    | _ => .no
  | _, _, _ => no
def sAugL (f : Int → Int → Int) (a b e : E) : B := fun env => bnd (a env) fun x => bnd (b env) fun y => bnd (fIxL x y) fun old => bnd (e env) fun z => match old, z with
  | .p (.int m), .p (.int n) => bnd (fSetL (.p (.int (f m n))) x y) fun _ => ret (.nx env)
  | _, _ => no
/-- how many unlike ints -/
def dist : List Int → List Int
  | [] => []
  | x :: xs => if x ∈ dist xs then dist xs else x :: dist xs
/-- len(set(x)), x a tuple of ints -/
def fLenSet : PyData → M D
  | .tuple xs => match intsOf xs with
    | some ns => if ns.length ≤ 4000 then ret (.p (.int (dist ns).length)) else no
    | none => no
  | _ => no
/-- pairs of places and items -/
def enumD : Nat → List D → List D
  | _, [] => []
  | k, d :: ds => mkTup [.p (.int (k : Nat)), d] :: enumD (k + 1) ds
def iEnumD (a : E) : I := fun env => bnd (iVal a env) fun ds => ret (enumD 0 ds)
def zipD : List D → List D → List D
  | d :: ds, e :: es => mkTup [d, e] :: zipD ds es
  | _, _ => []
def iZipD (a b : E) : I := fun env => bnd (iVal a env) fun ds => bnd (iVal b env) fun es => ret (zipD ds es)
/-- a loop over a list that may change: the i-th item as the list stands -/
def forR (g : G) (b : B) (n : Nat) : Nat → Nat → Env → M Fl
  | 0, _, _ => no
  | k + 1, i, env => fun S => match S[n]? with
    | some (.lst es) => match es[i]? with
      | some x => bnd (hush (g x env)) (fun env1 => bnd (b env1) fun f => match f with
        | .nx env2 => forR g b n k (i + 1) env2
        | .ct env2 => forR g b n k (i + 1) env2
        | .bk env2 => ret (.nx env2)
        | .rt d => ret (.rt d)) S
      | none => .ok (.nx env) S
    | _ => .no
def sForR (a : E) (g : G) (b : B) : B := fun env => bnd (a env) fun x S => match x with
  | .ref n => match S[n]? with
    | some (.lst es) => forR g b n (es.length + 1) 0 env S
    | _ => .no
  | _ => .no
/-- a comprehension over a list that may change -/
def lcR (g : G) (t : T) (e : E) (env : Env) (n : Nat) : Nat → Nat → M (List D)
  | 0, _ => no
  | k + 1, i => fun S => match S[n]? with
    | some (.lst es) => match es[i]? with
      | some x => bnd (lcT g t e env x) (fun o => bnd (lcR g t e env n k (i + 1)) fun ys => ret (o.toList ++ ys)) S
      | none => .ok [] S
    | _ => .no
def eLcR (fz : Bool) (own : List Nat) (a : E) (g : G) (t : T) (e : E) : E := fun env => bnd (a env) fun x S => match x with
  | .ref n => match S[n]? with
    | some (.lst es) => if es.length < big then hush (bnd (lcR g t e (wipe env own) n (es.length + 1) 0) fun ys => mkL fz ys) S else .no
    | _ => .no
  | _ => .no
/-- the law's promise -/
def lawP (F : List D → M D) : Prop := ∀ ns : List Int, ns.length ≤ 63 → ∃ S, F [.p (.list (ns.map .int))] [] = .ok (.p (.bool true)) S
end DL

namespace DL
open PySem
/-- x[lo:hi:st] -/
def stepL {α : Type} (xs : List α) (lo hi : Option Int) (st : Int) : List α :=
  (sliceRange (sliceBounds lo hi (some st) xs.length).1 (sliceBounds lo hi (some st) xs.length).2.1 (sliceBounds lo hi (some st) xs.length).2.2).filterMap (xs[·]?)
def fStep (fz : Bool) : PyData → Option Int → Option Int → Int → M D
  | .list xs, lo, hi, st => if st ≠ 0 then mkP fz (stepL xs lo hi st) else no
  | .tuple xs, lo, hi, st => if st ≠ 0 then ret (.p (.tuple (stepL xs lo hi st))) else no
  | _, _, _, _ => no
def eStep (fz : Bool) (a : E) (lo hi st : O) : E := fun env => bnd (a env) fun x => bnd (lo env) fun l => bnd (hi env) fun h => bnd (st env) fun k => bnd (see x) fun u => match k with
  | some k => fStep fz u l h k
  | none => no
end DL
namespace DL
open PySem
/-- x.pop(i) -/
def fPopAt : D → D → M D
  | .ref n, .p (.int i) => fun S => match S[n]? with
    | some (.lst ds) => match ixI ds.length i with
      | some k => if -4611686018427387904 ≤ i ∧ i < 4611686018427387904 then (match ds[k]? with
        | some d => .ok d (S.set n (.lst (ds.eraseIdx k)))
        | none => .no) else .no
      | none => .no
    | _ => .no
  | _, _ => no
/-- the ints, rising -/
def sortI (ns : List Int) : List Int := ns.mergeSort fun a b => decide (a ≤ b)
def fSorted (fz : Bool) : PyData → M D
  | .list xs => match intsOf xs with
    | some ns => mkP fz ((sortI ns).map .int)
    | none => no
  | .tuple xs => match intsOf xs with
    | some ns => mkP fz ((sortI ns).map .int)
    | none => no
  | _ => no
/-- max(x), min(x), x a list of ints -/
def fMaxL : PyData → M D
  | .list xs => match intsOf xs with
    | some (n :: ns) => ret (.p (.int (ns.foldl max n)))
    | _ => no
  | _ => no
def fMinL : PyData → M D
  | .list xs => match intsOf xs with
    | some (n :: ns) => ret (.p (.int (ns.foldl min n)))
    | _ => no
  | _ => no
def rngL (m n : Int) : List Int := (List.range (n - m).toNat).map fun i => m + (i : Nat)
def rngOk (m n : Int) : Bool := decide (-1000000 ≤ m) && decide (m ≤ 1000000) && decide (-1000000 ≤ n) && decide (n ≤ 1000000)
/-- list(range(a, b)), tuple(range(a, b)) -/
def rgP (a b : E) : Env → M (Int × Int) := fun env => bnd (a env) fun x => bnd (b env) fun y => match x, y with
  | .p (.int m), .p (.int n) => ret (m, n)
  | _, _ => no
def eListRg (fz : Bool) (a b : E) : E := fun env => bnd (rgP a b env) fun mn => if rngOk mn.1 mn.2 then mkP fz ((rngL mn.1 mn.2).map .int) else no
def eTupRg (a b : E) : E := fun env => bnd (rgP a b env) fun mn => if rngOk mn.1 mn.2 then ret (.p (.tuple ((rngL mn.1 mn.2).map .int))) else no
/-- range(a, b, c), c > 0 -/
def iRange3 (a b c : E) : Env → M (List D) := fun env => bnd (a env) fun x => bnd (b env) fun y => bnd (c env) fun z => match x, y, z with
  | .p (.int m), .p (.int n), .p (.int k) => if rngOk m n ∧ rngOk 0 k ∧ 0 < k then ret ((List.range ((n - m + k - 1) / k).toNat).map fun i => .p (.int (m + (i : Nat) * k))) else no
  | _, _, _ => no
/-- x is True, x is False, x a True or False -/
def fIsB (neg : Bool) (k : Bool) : D → M D
  | .p (.bool c) => ret (.p (.bool (neg ^^ (c == k))))
  | _ => no
/-- x.index(y), where it is -/
def fIndex : PyData → PyData → M D
  | .list xs, y => if SeqAt.shaped (.list xs) && SeqAt.shaped y then (match xs.findIdx? fun z => PyData.eqv z y with
    | some j => ret (.p (.int (j : Nat)))
    | none => no) else no
  | _, _ => no
/-- x.count(y), ints -/
def fCount : PyData → PyData → M D
  | .list xs, .int k => match intsOf xs with
    | some ns => ret (.p (.int (ns.count k : Nat)))
    | none => no
  | _, _ => no
end DL
namespace DL
open PySem
def pairsOf : List PyData → Option (List (PyData × D))
  | [] => some []
  | .tuple [k, v] :: xs => (pairsOf xs).map ((k, .p v) :: ·)
  | _ :: _ => none
/-- dict(x), x a list of pairs -/
def fDictP : PyData → M D
  | .list xs => match pairsOf xs with
    | some kvs => match mergeD [] kvs with
      | some m => new (.dct m)
      | none => no
    | none => no
  | _ => no
def isDct (S : Sto) : D → Bool
  | .ref n => match S[n]? with
    | some (.dct _) => true
    | _ => false
  | _ => false
def fGet : D → D → D → M D
  | .ref n, .p k, z => fun S => match S[n]? with
    | some (.dct kvs) => match keyOf k with
      | some q => .ok ((dGet kvs q).getD z) S
      | none => .no
    | _ => .no
  | _, _, _ => no
/-- x.get(y, z) -/
def eGet (a b c : E) : E := fun env => bnd (a env) fun x S => if isDct S x then bnd (b env) (fun y => bnd (c env) fun z => fGet x y z) S else .no
end DL
namespace DL
open PySem
/-- x is a list (data or one that may change) -/
def isLq (S : Sto) : D → Bool
  | .p (.list _) => true
  | d => isL S d
/-- a method of a list that only reads it -/
def eMq (f : PyData → PyData → M D) (a b : E) : E := fun env => bnd (a env) fun x S => if isLq S x then bnd (b env) (fun y => bnd (see x) fun u => bnd (see y) fun w => f u w) S else .no
end DL
namespace DL
open PySem
/-- len(set(x)), x a tuple or a list of ints -/
def fLenSetA : PyData → M D
  | .tuple xs => match intsOf xs with
    | some ns => if ns.length ≤ 4000 then ret (.p (.int (dist ns).length)) else no
    | none => no
  | .list xs => match intsOf xs with
    | some ns => if ns.length ≤ 4000 then ret (.p (.int (dist ns).length)) else no
    | none => no
  | _ => no
end DL
namespace DL
open PySem
/-- a list's or a tuple's items, taken apart -/
def itemsQ (S : Sto) : D → Option (List D)
  | .p (.tuple xs) => some (xs.map .p)
  | .p (.list xs) => some (xs.map .p)
  | .tup xs => some xs
  | .ref n => match S[n]? with
    | some (.lst ds) => some ds
    | _ => none
  | _ => none
def gTupQ (gs : List G) : G := fun x env S => match itemsQ S x with
  | some xs => if xs.length = gs.length then gsFill gs xs env S else .no
  | none => .no
/-- the data as it stands now, with lists that may change at any depth -/
def viewsF (f : D → Option PyData) : List D → Option (List PyData)
  | [] => some []
  | d :: ds => match f d, viewsF f ds with
    | some x, some xs => some (x :: xs)
    | _, _ => none
def viewD (S : Sto) : Nat → D → Option PyData
  | _, .p x => some x
  | 0, _ => none
  | k + 1, .tup ds => (viewsF (viewD S k) ds).map .tuple
  | k + 1, .ref n => match S[n]? with
    | some (.lst ds) => (viewsF (viewD S k) ds).map .list
    | _ => none
  | _ + 1, .exn _ => none
/-- by what both sides read as, at any depth -/
def e2V (f : PyData → PyData → M D) (a b : E) : E := fun env => bnd (a env) fun x => bnd (b env) fun y S => match viewD S 8 x, viewD S 8 y with
  | some u, some w => f u w S
  | _, _ => .no
def fEqS (x y : PyData) : M D := if SeqAt.shaped x && SeqAt.shaped y then ret (.p (.bool (PyData.eqv x y))) else no
def fNeS (x y : PyData) : M D := if SeqAt.shaped x && SeqAt.shaped y then ret (.p (.bool (!PyData.eqv x y))) else no
end DL
namespace DL
open PySem
/-! errors as values -/
def tabGet (tab : List (Str × Bool)) (c : Str) : Option Bool := (tab.find? fun p => decide (p.1 = c)).map (·.2)
/-- isinstance(x, ..), x an error of the table's classes, or None -/
def fIsX (tab : List (Str × Bool)) : D → M D
  | .exn e => match tabGet tab e.c with
    | some b => match e.pay with
      | none => ret (.p (.bool b))
      | some _ => no
    | none => no
  | .p .none => ret (.p (.bool false))
  | _ => no
def eIsX (tab : List (Str × Bool)) (a : E) : E := fun env => bnd (a env) (fIsX tab)
/-- try: k = a / except ..: as i: j = i -/
def sTryA (cs : List Str) (k : Option Nat) (i j : Nat) (a : E) : B := fun env S => match a env S with
  | .ok d S' => .ok (.nx (match k with
    | some k => env.set k (some d)
    | none => env)) S'
  | .ex e S' => if e.c ∈ cs ∧ i < env.length then .ok (.nx (((env.set i (some (.exn e))).set j (some (.exn e))).set i none)) S' else .no
  | .no => .no
end DL
namespace DL
open PySem
/-- a def that gets a deed: what it makes of the deed's outcome. env: its slots ahead of the try; k: the outcome's slot, i: the error's name, j: where the error is kept -/
def told (env : Env) (cs : List Str) (k i j : Nat) (rest : B) (m : M D) : M D := fun S => match m S with
  | .ok d S' => bnd (hush (rest (env.set k (some d)))) (fun f => match f with
    | .nx _ => ret (.p .none)
    | .rt d => ret d
    | _ => no) S'
  | .ex e S' => if e.c ∈ cs ∧ i < env.length then bnd (hush (rest (((env.set i (some (.exn e))).set j (some (.exn e))).set i none))) (fun f => match f with
    | .nx _ => ret (.p .none)
    | .rt d => ret d
    | _ => no) S' else .no
  | .no => .no
def eLam (R : M D → M D) (e : E) : E := fun env => R (e env)
abbrev envT (n t1 t2 : Nat) : DL.Env := ((List.replicate n none).set t1 (some (D.p .none))).set t2 (some (D.p .none))
end DL

namespace DL
open PySem
/-- x.count(y), what has a shape -/
def fCountD : PyData → PyData → M D
  | .list xs, y => if SeqAt.shaped (.list xs) && SeqAt.shaped y then ret (.p (.int ((xs.countP fun z => PyData.eqv z y : Nat) : Int))) else no
  | _, _ => no
end DL
namespace DL
open PySem
/-- {}: a dict that may change -/
def eDict0 : E := fun _ => new (.dct [])
/-- a dict's method with an argument -/
def eMd1 (f : D → D → M D) (a b : E) : E := fun env => bnd (a env) fun x S => if isDct S x then bnd (b env) (fun y => f x y) S else .no
/-- x.update(y), both dicts -/
def fUpd : D → D → M D
  | .ref n, .ref m => fun S => match S[n]?, S[m]? with
    | some (.dct kvs), some (.dct more) => if n ≠ m ∧ kvs.length + more.length ≤ big then (match mergeD kvs more with
      | some r => .ok (.p .none) (S.set n (.dct r))
      | none => .no) else .no
    | _, _ => .no
  | _, _ => no
end DL
namespace DL
open PySem
/-- x[lo:hi] = ys: what stands then -/
def spliceL {α : Type} (xs ys : List α) (lo hi : Option Int) : List α :=
  xs.take (sliceBounds lo hi none xs.length).1.toNat ++ ys ++ xs.drop (max (sliceBounds lo hi none xs.length).1 (sliceBounds lo hi none xs.length).2.1).toNat
def fSetSl : D → D → Option Int → Option Int → M Unit
  | .p (.list ys), .ref n, lo, hi => fun S => match S[n]? with
    | some (.lst ds) => if ds.length + ys.length ≤ big then .ok () (S.set n (.lst (spliceL ds (ys.map .p) lo hi))) else .no
    | _ => .no
  | _, _, _, _ => no
/-- x[lo:hi] as a target -/
def gSl (a : E) (lo hi : O) : G := fun v env => bnd (hush (a env)) fun x => bnd (hush (lo env)) fun l => bnd (hush (hi env)) fun h => bnd (fSetSl v x l h) fun _ => ret env
end DL
namespace DL
open PySem
/-- len(x), x a dict that may change -/
def fLenD : D → M D
  | .ref n => fun S => match S[n]? with
    | some (.dct kvs) => .ok (.p (.int (kvs.length : Nat))) S
    | _ => .no
  | _ => no
end DL

namespace DL
open PySem
/-! ## an error with a field -/
/-- isinstance(x, ..), x an error of the table's classes, with a field or without, or None -/
def fIsF (tab : List (Str × Bool)) : D → M D
  | .exn e => match tabGet tab e.c with
    | some b => ret (.p (.bool b))
    | none => no
  | .p .none => ret (.p (.bool false))
  | _ => no
def eIsF (tab : List (Str × Bool)) (a : E) : E := fun env => bnd (a env) (fIsF tab)
/-- x.f, x an error of these classes -/
def fFld (cs : List Str) (f : Str) : D → M D
  | .exn e => match e.pay with
    | some (g, x) => if e.c ∈ cs ∧ g = f then ret (.p x) else no
    | none => no
  | _ => no
def eFld (cs : List Str) (f : Str) (a : E) : E := fun env => bnd (a env) (fFld cs f)
/-- raise C(a): its one field holds a's value -/
def sRaiseF (c f : Str) (a : E) : B := fun env => bnd (a env) fun d => match d with
  | .p x => fun S => .ex ⟨c, some (f, x)⟩ S
  | _ => no
end DL

namespace DL
open PySem
/-! ## texts: cut, walked; ranges downwards -/
/-- x[lo:hi] of a text, too -/
def fCutA (fz : Bool) (x : PyData) (lo hi : Option Int) : M D := match x with
  | .str z => if z.length ≤ big then ret (.p (.str ⟨(cutL z.cps.toList lo hi).toArray⟩)) else no
  | x => fCut fz x lo hi
def eCutA (fz : Bool) (a : E) (lo hi : O) : E := fun env => bnd (a env) fun x => bnd (lo env) fun l => bnd (hi env) fun h => bnd (see x) fun u => fCutA fz u l h
def signs (z : Str) : List D := z.cps.toList.map fun c => .p (.str ⟨#[c]⟩)
/-- the signs of a text -/
def iStr (a : E) : I := fun env => bnd (a env) fun d => match d with
  | .p (.str z) => if z.length ≤ big then ret (signs z) else no
  | _ => no
/-- range(a, b, -1) -/
def iRangeD (a b c : E) : Env → M (List D) := fun env => bnd (a env) fun x => bnd (b env) fun y => bnd (c env) fun z => match x, y, z with
  | .p (.int m), .p (.int n), .p (.int k) => if rngOk m n ∧ k = -1 then ret ((List.range (m - n).toNat).map fun i => .p (.int (m - (i : Nat)))) else no
  | _, _, _ => no
/-- {} as data -/
def eD0 : E := fun _ S => .ok (.p (.dict [])) S
/-- texts in order -/
def fLeS : PyData → PyData → M D
  | .str i, .str j => ret (.p (.bool (!decide (j.cps.toList < i.cps.toList))))
  | _, _ => no
end DL

namespace DL
open PySem
/-- a list that is held against the empty list -/
def fNeN : PyData → PyData → M D
  | .list xs, .list [] => ret (.p (.bool (!xs.isEmpty)))
  | _, _ => no
/-- str(x) of a tuple -/
def fStrT : PyData → M D
  | .tuple xs => if reprOk (.tuple xs) && SeqAt.shaped (.tuple xs) then ret (.p (.str (PyData.tuple xs).shown)) else no
  | _ => no
/-- the empty tuple -/
def isU : PyData → Bool
  | .tuple [] => true
  | _ => false
/-- anything that is held against the empty tuple -/
def fNeU : PyData → PyData → M D
  | .dict [], .tuple [] => ret (.p (.bool true))
  | .dict _, _ => no
  | x, .tuple [] => ret (.p (.bool (!isU x)))
  | _, _ => no
def fEqU : PyData → PyData → M D
  | .dict [], .tuple [] => ret (.p (.bool false))
  | .dict _, _ => no
  | x, .tuple [] => ret (.p (.bool (isU x)))
  | _, _ => no
end DL

namespace DL
open PySem
/-- x.remove(k), a list of ints that has it -/
def fRemove : D → D → M D
  | .ref n, .p (.int k) => fun S => match S[n]? with
    | some (.lst ds) => match (toPs ds).bind intsOf with
      | some ns => if k ∈ ns then .ok (.p .none) (S.set n (.lst ((ns.erase k).map fun i => .p (.int i)))) else .no
      | none => .no
    | _ => .no
  | _, _ => no
def strsOf : List PyData → Option (List Str)
  | [] => some []
  | .str z :: r => (strsOf r).map (z :: ·)
  | _ => none
/-- a text is not behind another -/
def leS (a b : Str) : Bool := !Spec.ltCps b.cps.toList a.cps.toList
def sortS (zs : List Str) : List Str := zs.mergeSort leS
/-- sorted(x), x a list of texts -/
def fSortedS (fz : Bool) : PyData → M D
  | .list xs => match strsOf xs with
    | some zs => if zs.length < 64 then mkP fz ((sortS zs).map .str) else no
    | none => no
  | _ => no
end DL

namespace DL
open PySem
/-- t.index(k), t a tuple of ints that has k -/
def fIdxT : D → D → M D
  | .p (.tuple xs), .p (.int k) => match intsOf xs with
    | some ns => if k ∈ ns then ret (.p (.int (ns.idxOf k : Nat))) else no
    | none => no
  | _, _ => no
def isTq : D → Bool
  | .p (.tuple _) => true
  | _ => false
def eIdxT (a b : E) : E := fun env => bnd (a env) fun x S => if isTq x then bnd (b env) (fun y => fIdxT x y) S else .no
end DL

namespace DL
open PySem
/-- x in t, t a tuple of anything that is compared -/
def fInT (neg : Bool) (x : PyData) : PyData → M D
  | .tuple ys => if SeqAt.shaped x && SeqAt.shaped (.tuple ys) then ret (.p (.bool (neg ^^ ys.any fun z => PyData.eqv z x))) else no
  | _ => no
end DL

namespace DL
open PySem
/-- pairs of small ints -/
def prsOf : List PyData → Option (List (Int × Int))
  | [] => some []
  | .tuple [.int a, .int b] :: xs => if 0 ≤ a ∧ a < 64 ∧ 0 ≤ b ∧ b < 64 then (prsOf xs).map ((a, b) :: ·) else none
  | _ :: _ => none
def prC (p : Int × Int) : Int := p.1 * 64 + p.2
def prT (p : Int × Int) : PyData := .tuple [.int p.1, .int p.2]
/-- the distinct ones in order -/
def sortP (ps : List (Int × Int)) : List (Int × Int) := (sortI (dist (ps.map prC))).map fun c => (c / 64, c % 64)
/-- sorted(set(pairs)) -/
def fSetSort (fz : Bool) : PyData → M D
  | .list xs => match prsOf xs with
    | some ps => if ps.length < 64 then mkP fz ((sortP ps).map prT) else no
    | none => no
  | _ => no
/-- repr(x) of a list of lists that may change -/
def fReprV (x : D) : M D := fun S => match viewD S 8 x with
  | some (.list xs) => if reprOk (.list xs) && SeqAt.shaped (.list xs) then .ok (.p (.str (PyData.list xs).shown)) S else .no
  | _ => .no
def eReprV (a : E) : E := fun env => bnd (a env) fReprV
end DL

namespace DL
open PySem PySem.Spec L2
/-- what is known of the row: its tables of code objects, its module's names -/
class Nfo where
  T : List (Addr × Str)
  mg : Str → Option Value
variable [Nfo]

/-! ## what a value is by the heap -/
/-- a list that never changes -/
def Fz (K : PySem.W.Frag) (H : Hp) (a : Addr) (vs : List V) : Prop :=
  (∃ o, H a = some (.frz o (.lst vs))) ∨
    ∃ (o : Obj) (its : Array Value) (n : Nat), K.lookup a = some o ∧ o.cls = .type "list" ∧ o.dict = none ∧ o.data = .seq its n ∧ its.size ≤ sizeLine ∧ Vals vs its.toList
/-- a tuple without a dict of its own -/
def SqN (K : PySem.W.Frag) (H : Hp) (a : Addr) (vs : List V) : Prop := ∃ o : Obj, H a = some (.frz o (.tup vs)) ∧ o.dict = none
mutual
inductive DV (K : PySem.W.Frag) (H : Hp) : PyData → V → Prop
  | non : DV K H .none .non
  | bl (b : Bool) : DV K H (.bool b) (.bl b)
  | int (i : Int) : DV K H (.int i) (.int i)
  | str (x : Str) : DV K H (.str x) (.str x)
  | lst {a : Addr} {vs : List V} {xs : List PyData} : Fz K H a vs → DVs K H xs vs → DV K H (.list xs) (.ref a)
  | tup {a : Addr} {vs : List V} {xs : List PyData} : SqN K H a vs → DVs K H xs vs → DV K H (.tuple xs) (.ref a)
  | dct0 {a : Addr} : (∃ o, H a = some (.frz o (.dK []))) → DV K H (.dict []) (.ref a)
inductive DVs (K : PySem.W.Frag) (H : Hp) : List PyData → List V → Prop
  | nil : DVs K H [] []
  | cons {x : PyData} {v : V} {xs : List PyData} {vs : List V} : DV K H x v → DVs K H xs vs → DVs K H (x :: xs) (v :: vs)
end
/-- what never changes stays -/
def stO : HO → Bool
  | .tup _ => true
  | .frz _ _ => true
  | .ext _ => true
  | .xd _ => true
  | _ => false
def Stb (H H' : Hp) : Prop := ∀ b o, H b = some o → stO o = true → H' b = some o
theorem Stb.refl (H : Hp) : Stb H H := fun _ _ h _ => h
theorem Stb.trans {H H1 H2 : Hp} (a : Stb H H1) (b : Stb H1 H2) : Stb H H2 := fun c o h q => b c o (a c o h q) q
section
variable {K : PySem.W.Frag} {H H' : Hp}
theorem Fz.mono {a : Addr} {vs : List V} (h : Fz K H a vs) (s : Stb H H') : Fz K H' a vs := by
  rcases h with ⟨o, h⟩ | h
  · exact .inl ⟨o, s _ _ h rfl⟩
  · exact .inr h
theorem Fz.sq {a : Addr} {vs : List V} (h : Fz K H a vs) : SqL K H a vs := by
  rcases h with ⟨o, h⟩ | h
  · exact .inl (.inr ⟨o, h⟩)
  · exact .inr h
theorem sqT_mono {a : Addr} {vs : List V} (h : SqT K H a vs) (s : Stb H H') : SqT K H' a vs := by
  rcases h with (h | ⟨o, h⟩) | h
  · exact .inl (.inl (s _ _ h rfl))
  · exact .inl (.inr ⟨o, s _ _ h rfl⟩)
  · exact .inr h
theorem SqN.mono {a : Addr} {vs : List V} (h : SqN K H a vs) (s : Stb H H') : SqN K H' a vs := by
  obtain ⟨o, h, d⟩ := h
  exact ⟨o, s _ _ h rfl, d⟩
theorem SqN.sq {a : Addr} {vs : List V} (h : SqN K H a vs) : SqT K H a vs := by
  obtain ⟨o, h, d⟩ := h
  exact .inl (.inr ⟨o, h⟩)
theorem SqN.of {a : Addr} {vs : List V} {o : Obj} (d : o.dict = none) : SqN K (upd H a (.frz o (.tup vs))) a vs := ⟨o, upd_same, d⟩
mutual
theorem DV.mono (s : Stb H H') : ∀ {x : PyData} {v : V}, DV K H x v → DV K H' x v
  | _, _, .non => .non
  | _, _, .bl b => .bl b
  | _, _, .int i => .int i
  | _, _, .str x => .str x
  | _, _, .lst h t => .lst (h.mono s) (DVs.mono s t)
  | _, _, .tup h t => .tup (h.mono s) (DVs.mono s t)
  | _, _, .dct0 ⟨o, h⟩ => .dct0 ⟨o, s _ _ h rfl⟩
theorem DVs.mono (s : Stb H H') : ∀ {xs : List PyData} {vs : List V}, DVs K H xs vs → DVs K H' xs vs
  | _, _, .nil => .nil
  | _, _, .cons h t => .cons (DV.mono s h) (DVs.mono s t)
end
theorem DVs.length : ∀ {xs : List PyData} {vs : List V}, DVs K H xs vs → xs.length = vs.length
  | _, _, .nil => rfl
  | _, _, .cons _ t => congrArg (· + 1) t.length
theorem DVs.get : ∀ {xs : List PyData} {vs : List V} {i : Nat} {x : PyData}, DVs K H xs vs → xs[i]? = some x → ∃ v, vs[i]? = some v ∧ DV K H x v
  | _, _, _, _, .nil, e => by simp at e
  | _, _, 0, _, .cons h _, e => by simp at e; subst e; exact ⟨_, rfl, h⟩
  | _, _, i + 1, _, .cons _ t, e => by
    obtain ⟨v, h1, h2⟩ := t.get (i := i) (by simpa using e)
    exact ⟨v, by simpa using h1, h2⟩
theorem DVs.getV : ∀ {xs : List PyData} {vs : List V} {i : Nat} {v : V}, DVs K H xs vs → vs[i]? = some v → ∃ x, xs[i]? = some x ∧ DV K H x v
  | _, _, _, _, .nil, e => by simp at e
  | _, _, 0, _, .cons h _, e => by simp at e; subst e; exact ⟨_, rfl, h⟩
  | _, _, i + 1, _, .cons _ t, e => by
    obtain ⟨v, h1, h2⟩ := t.getV (i := i) (by simpa using e)
    exact ⟨v, by simpa using h1, h2⟩
theorem DVs.append : ∀ {xs ys : List PyData} {vs us : List V}, DVs K H xs vs → DVs K H ys us → DVs K H (xs ++ ys) (vs ++ us)
  | _, _, _, _, .nil, s => s
  | _, _, _, _, .cons h t, s => .cons h (t.append s)
theorem DVs.take : ∀ {xs : List PyData} {vs : List V} (n : Nat), DVs K H xs vs → DVs K H (xs.take n) (vs.take n)
  | _, _, 0, _ => .nil
  | _, _, _ + 1, .nil => .nil
  | _, _, n + 1, .cons h t => .cons h (t.take n)
theorem DVs.drop : ∀ {xs : List PyData} {vs : List V} (n : Nat), DVs K H xs vs → DVs K H (xs.drop n) (vs.drop n)
  | _, _, 0, r => r
  | _, _, _ + 1, .nil => .nil
  | _, _, n + 1, .cons _ t => t.drop n
end
/-- how an error lies -/
def ExR (K : PySem.W.Frag) (mg : Str → Option Value) (H : Hp) (e : Ex) (cls : Value) (d : Option Addr) : Prop :=
  ∃ C, mg e.c = some (.ref C) ∧ cls = .ref C ∧ match e.pay with
    | none => d = none
    | some (f, x) => ∃ dd v, d = some dd ∧ H dd = some (.xd [(f, v)]) ∧ DV K H x v
/-- an error that was caught -/
def ExcT (a : Addr) (cls : Value) (d : Option Addr) : HO := .ext fun h => ∃ (oe : Obj) (vs : Array Value), h.get? a = some oe ∧ Zc cls d oe ∧ oe.data = .fields vs
theorem ExR.mono {K : PySem.W.Frag} {mg : Str → Option Value} {H H' : Hp} {e : Ex} {cls : Value} {d : Option Addr} (h : ExR K mg H e cls d) (s : Stb H H') : ExR K mg H' e cls d := by
  obtain ⟨C, h1, h2, h3⟩ := h
  refine ⟨C, h1, h2, ?_⟩
  cases q : e.pay with
  | none => rw [q] at h3; exact h3
  | some p =>
    rw [q] at h3
    obtain ⟨dd, v, e1, e2, e3⟩ := h3
    exact ⟨dd, v, e1, s _ _ e2 rfl, e3.mono s⟩
/-- a value of the reading; ρ: where the store's objects lie -/
inductive DR (K : PySem.W.Frag) (H : Hp) (ρ : List Addr) : D → V → Prop
  | p {x : PyData} {v : V} : DV K H x v → DR K H ρ (.p x) v
  | tup {a : Addr} {vs : List V} {ds : List D} : SqN K H a vs → ds.length = vs.length → (∀ (i : Nat) (d : D) (v : V), ds[i]? = some d → vs[i]? = some v → DR K H ρ d v) → DR K H ρ (.tup ds) (.ref a)
  | ref {n : Nat} {a : Addr} : ρ[n]? = some a → DR K H ρ (.ref n) (.ref a)
  | exn {e : Ex} {a : Addr} {cls : Value} {d : Option Addr} : H a = some (ExcT a cls d) → ExR K Nfo.mg H e cls d → DR K H ρ (.exn e) (.ref a)
def DRs (K : PySem.W.Frag) (H : Hp) (ρ : List Addr) (ds : List D) (vs : List V) : Prop := Paired (DR K H ρ) ds vs
section
variable {K : PySem.W.Frag} {H H' : Hp} {ρ ρ' : List Addr}
theorem pre_get {n : Nat} {a : Addr} (q : ρ <+: ρ') (h : ρ[n]? = some a) : ρ'[n]? = some a := by
  obtain ⟨t, rfl⟩ := q
  rw [List.getElem?_append_left (List.getElem?_eq_some_iff.mp h).1]
  exact h
theorem DR.mono (s : Stb H H') (q : ρ <+: ρ') {d : D} {v : V} (h : DR K H ρ d v) : DR K H' ρ' d v := by
  induction h with
  | p h => exact .p (h.mono s)
  | tup h l _ ih => exact .tup (h.mono s) l fun i d v e1 e2 => ih i d v e1 e2
  | ref h => exact .ref (pre_get q h)
  | exn h1 h2 => exact .exn (s _ _ h1 rfl) (h2.mono s)
theorem DRs.mono (s : Stb H H') (q : ρ <+: ρ') : ∀ {ds : List D} {vs : List V}, DRs K H ρ ds vs → DRs K H' ρ' ds vs
  | _, _, .nil => .nil
  | _, _, .cons h t => .cons (h.mono s q) (DRs.mono s q t)
theorem DRs.length {ds : List D} {vs : List V} (h : DRs K H ρ ds vs) : ds.length = vs.length := Paired.length h
theorem DVs.drs : ∀ {xs : List PyData} {vs : List V}, DVs K H xs vs → DRs K H ρ (xs.map D.p) vs
  | _, _, .nil => .nil
  | _, _, .cons h t => .cons (.p h) (DVs.drs t)
theorem DRs.get : ∀ {ds : List D} {vs : List V} {i : Nat} {d : D}, DRs K H ρ ds vs → ds[i]? = some d → ∃ v, vs[i]? = some v ∧ DR K H ρ d v
  | _, _, _, _, .nil, e => by simp at e
  | _, _, 0, _, .cons h _, e => by simp at e; subst e; exact ⟨_, rfl, h⟩
  | _, _, i + 1, _, .cons _ t, e => by
    obtain ⟨v, h1, h2⟩ := DRs.get (i := i) t (by simpa using e)
    exact ⟨v, by simpa using h1, h2⟩
theorem DRs.getV : ∀ {ds : List D} {vs : List V} {i : Nat} {v : V}, DRs K H ρ ds vs → vs[i]? = some v → ∃ d, ds[i]? = some d ∧ DR K H ρ d v
  | _, _, _, _, .nil, e => by simp at e
  | _, _, 0, _, .cons h _, e => by simp at e; subst e; exact ⟨_, rfl, h⟩
  | _, _, i + 1, _, .cons _ t, e => by
    obtain ⟨v, h1, h2⟩ := DRs.getV (i := i) t (by simpa using e)
    exact ⟨v, by simpa using h1, h2⟩
theorem DRs.of_get : ∀ {ds : List D} {vs : List V}, ds.length = vs.length → (∀ (i : Nat) (d : D) (v : V), ds[i]? = some d → vs[i]? = some v → DR K H ρ d v) → DRs K H ρ ds vs
  | [], [], _, _ => .nil
  | d :: ds, v :: vs, l, h => .cons (h 0 d v rfl rfl) (DRs.of_get (by simpa using l) fun i d v e1 e2 => h (i + 1) d v (by simpa using e1) (by simpa using e2))
theorem DRs.append : ∀ {ds es : List D} {vs us : List V}, DRs K H ρ ds vs → DRs K H ρ es us → DRs K H ρ (ds ++ es) (vs ++ us)
  | _, _, _, _, .nil, s => s
  | _, _, _, _, .cons h t, s => .cons h (DRs.append t s)
mutual
/-- what reads as data, but for what may change, is that data -/
theorem toP_dv : ∀ {d : D} {v : V} {x : PyData}, toP d = some x → DR K H ρ d v → DV K H x v
  | .p _, _, _, e, h => by
    cases e
    cases h with
    | p h => exact h
  | .tup ds, _, _, e, h => by
    cases h with
    | tup h1 h2 h3 =>
      unfold toP at e
      cases q : toPs ds with
      | none => rw [q] at e; cases e
      | some xs =>
        rw [q] at e
        cases e
        exact .tup h1 (toPs_dv q (DRs.of_get h2 h3))
  | .ref _, _, _, e, _ => by unfold toP at e; cases e
  | .exn _, _, _, e, _ => by unfold toP at e; cases e
theorem toPs_dv : ∀ {ds : List D} {vs : List V} {xs : List PyData}, toPs ds = some xs → DRs K H ρ ds vs → DVs K H xs vs
  | [], _, _, e, h => by
    unfold toPs at e
    cases e
    cases h
    exact .nil
  | d :: ds, _, _, e, h => by
    cases h with
    | cons h1 h2 =>
      unfold toPs at e
      cases q1 : toP d with
      | none => rw [q1] at e; cases e
      | some x =>
        cases q2 : toPs ds with
        | none => rw [q1, q2] at e; cases e
        | some xs =>
          rw [q1, q2] at e
          cases e
          exact .cons (toP_dv q1 h1) (toPs_dv q2 h2)
end
theorem mkTup_dr {ds : List D} {vs : List V} {a : Addr} (h : SqN K H a vs) (r : DRs K H ρ ds vs) : DR K H ρ (mkTup ds) (.ref a) := by
  unfold mkTup
  cases q : toPs ds with
  | none =>
    refine .tup h r.length fun i d v e1 e2 => ?_
    obtain ⟨u, e3, h3⟩ := r.get e1
    rw [e2] at e3
    cases e3
    exact h3
  | some xs => exact .p (.tup h (toPs_dv q r))
end

/-! ## the store -/
def ObR (K : PySem.W.Frag) (H : Hp) (ρ : List Addr) : Ob → Addr → Prop
  | .lst ds, a => ∃ vs, H a = some (.lst vs) ∧ DRs K H ρ ds vs
  | .dct kvs, a => ∃ ws : List (Key × V), H a = some (.dK ws) ∧ Paired (fun (p : PyData × D) (q : Key × V) => keyOf p.1 = some q.1 ∧ DR K H ρ p.2 q.2) kvs ws
  | .gone, _ => True
def Live (S : Sto) (ρ : List Addr) (a : Addr) : Prop := ∃ (i : Nat) (o : Ob), S[i]? = some o ∧ o ≠ .gone ∧ ρ[i]? = some a
structure SimS (K : PySem.W.Frag) (H : Hp) (ρ : List Addr) (S : Sto) : Prop where
  len : ρ.length = S.length
  inj : ∀ (i j : Nat) (o u : Ob) (a : Addr), S[i]? = some o → S[j]? = some u → o ≠ .gone → u ≠ .gone → ρ[i]? = some a → ρ[j]? = some a → i = j
  ob : ∀ (i : Nat) (o : Ob) (a : Addr), S[i]? = some o → ρ[i]? = some a → ObR K H ρ o a
  tab : LamX.Tabs Nfo.T H
/-- behind a part: what is not live stays, what is live new was not tracked -/
structure Ext (S : Sto) (ρ : List Addr) (S' : Sto) (ρ' : List Addr) (H H' : Hp) : Prop where
  pre : ρ <+: ρ'
  fr : ∀ b o, H b = some o → ¬ Live S ρ b → (∀ ps, o ≠ .tbl ps) → H' b = some o
  st : Stb H H'
  new : ∀ b, Live S' ρ' b → Live S ρ b ∨ ∀ o, H b = some o → ∃ ps, o = .tbl ps
section
variable {K : PySem.W.Frag} {H H1 H2 H' : Hp} {ρ ρ1 ρ2 ρ' : List Addr} {S S1 S2 S' : Sto}
theorem Ext.refl : Ext S ρ S ρ H H := ⟨List.prefix_refl _, fun _ _ h _ _ => h, Stb.refl _, fun _ h => .inl h⟩
theorem Ext.trans (a : Ext S ρ S1 ρ1 H H1) (b : Ext S1 ρ1 S2 ρ2 H1 H2) : Ext S ρ S2 ρ2 H H2 where
  pre := a.pre.trans b.pre
  fr := fun c o h n t => b.fr c o (a.fr c o h n t) (fun l => (a.new c l).elim n fun z => by
    obtain ⟨ps, e⟩ := z o h
    exact t ps e) t
  st := a.st.trans b.st
  new := fun c l => (b.new c l).elim (a.new c) fun z => by
    by_cases n : Live S ρ c
    · exact .inl n
    · refine .inr fun o h => Classical.byContradiction fun t => ?_
      have t' : ∀ ps, o ≠ .tbl ps := fun ps e => t ⟨ps, e⟩
      exact t (z o (a.fr c o h n t'))
/-- the slots -/
structure SimE (K : PySem.W.Frag) (H : Hp) (ρ : List Addr) (env : Env) (σ : St) : Prop where
  len : env.length = σ.length
  at_ : ∀ (i : Nat) (d : D), env[i]? = some (some d) → ∃ v, σ[i]? = some (some v) ∧ DR K H ρ d v
theorem SimE.mono {env : Env} {σ : St} (s : SimE K H ρ env σ) (e : Stb H H') (q : ρ <+: ρ') : SimE K H' ρ' env σ :=
  ⟨s.len, fun i d h => let ⟨v, h1, h2⟩ := s.at_ i d h; ⟨v, h1, h2.mono e q⟩⟩
theorem SimE.set {env : Env} {σ : St} (s : SimE K H ρ env σ) (i : Nat) {d : D} {v : V} (r : DR K H ρ d v) : SimE K H ρ (env.set i (some d)) (σ.set i (some v)) := by
  refine ⟨by simpa using s.len, fun j e h => ?_⟩
  by_cases hj : i = j
  · subst hj
    have hl : i < env.length := by
      have := (List.getElem?_eq_some_iff.mp h).1
      simpa using this
    rw [List.getElem?_set_self hl] at h
    cases h
    rw [List.getElem?_set_self (by rw [← s.len]; exact hl)]
    exact ⟨v, rfl, r⟩
  · rw [List.getElem?_set_ne hj] at h ⊢
    exact s.at_ j e h
/-- the wish about an error: its class, its own dict, the heap -/
abbrev XW := Value → Option Addr → Hp → Prop
/-- what follows of an outcome -/
def Post {α : Type} (K : PySem.W.Frag) (mg : Str → Option Value) (W : XW) (S : Sto) (ρ : List Addr) (H : Hp) (r : R α) (k : α → Sto → List Addr → Hp → Prop) : Prop := match r with
  | .ok a S' => ∀ H' ρ', Ext S ρ S' ρ' H H' → SimS K H' ρ' S' → k a S' ρ' H'
  | .ex e S' => ∀ H' ρ' cls d, Ext S ρ S' ρ' H H' → SimS K H' ρ' S' → ExR K mg H' e cls d → W cls d H'
  | .no => False
variable {mg : Str → Option Value} {W : XW}
theorem Post.shift {α : Type} {r : R α} {k : α → Sto → List Addr → Hp → Prop} (e : Ext S ρ S1 ρ1 H H1) (h : Post K mg W S ρ H r k) : Post K mg W S1 ρ1 H1 r k := by
  cases r with
  | ok a S' => exact fun H' ρ' e' s' => h H' ρ' (e.trans e') s'
  | ex x S' => exact fun H' ρ' cls d e' s' => h H' ρ' cls d (e.trans e') s'
  | no => exact h
theorem Post.bnd {α β : Type} {m : M α} {f : α → M β} {k : β → Sto → List Addr → Hp → Prop} (h : Post K mg W S ρ H (bnd m f S) k) :
    Post K mg W S ρ H (m S) fun a S1 ρ1 H1 => Post K mg W S1 ρ1 H1 (f a S1) k := by
  unfold DL.bnd at h
  cases q : m S with
  | ok a S' =>
    rw [q] at h
    exact fun H' ρ' e _ => Post.shift e h
  | ex x S' => rw [q] at h; exact h
  | no => rw [q] at h; exact h
theorem Post.imp {α : Type} {r : R α} {k k' : α → Sto → List Addr → Hp → Prop} (h : Post K mg W S ρ H r k) (f : ∀ a S' ρ' H', r = .ok a S' → Ext S ρ S' ρ' H H' → SimS K H' ρ' S' → k a S' ρ' H' → k' a S' ρ' H') : Post K mg W S ρ H r k' := by
  cases r with
  | ok a S' => exact fun H' ρ' e s => f a S' ρ' H' rfl e s (h H' ρ' e s)
  | ex x S' => exact h
  | no => exact h
theorem Post.ret {α : Type} {a : α} {k : α → Sto → List Addr → Hp → Prop} (s : SimS K H ρ S) (h : Post K mg W S ρ H (DL.ret a S) k) : k a S ρ H := h H ρ Ext.refl s
end
/-! ## the readings -/
/-- an expression's -/
def rE (K : PySem.W.Frag) (mg : Str → Option Value) (W : WX) (r : E) : TE := fun σ H Q => ∃ env S ρ, SimE K H ρ env σ ∧ SimS K H ρ S ∧
  Post K mg (fun c d H' => W c d σ H') S ρ H (r env S) fun d _ ρ' H' => ∀ v, DR K H' ρ' d v → Q v H'
def rT (K : PySem.W.Frag) (mg : Str → Option Value) (W : WX) (r : T) : TT := fun σ H Q => ∃ env S ρ, SimE K H ρ env σ ∧ SimS K H ρ S ∧
  Post K mg (fun c d H' => W c d σ H') S ρ H (r env S) fun b _ _ H' => Q b H'
def rA (K : PySem.W.Frag) (mg : Str → Option Value) (W : WX) (r : As) : TA := fun σ H Q => ∃ env S ρ, SimE K H ρ env σ ∧ SimS K H ρ S ∧
  Post K mg (fun c d H' => W c d σ H') S ρ H (r env S) fun ds _ ρ' H' => ∀ vs, DRs K H' ρ' ds vs → Q vs H'
def rB (K : PySem.W.Frag) (mg : Str → Option Value) (W : WX) (r : B) : TS := fun D σ H => ∃ env S ρ, SimE K H ρ env σ ∧ SimS K H ρ S ∧
  Post K mg (fun c d H' => ∀ σ', W c d σ' H') S ρ H (r env S) fun f _ ρ' H' => match f with
    | .nx env' => ∀ σ', SimE K H' ρ' env' σ' → D.nx σ' H'
    | .bk env' => ∀ σ', SimE K H' ρ' env' σ' → D.bk σ' H'
    | .ct env' => ∀ σ', SimE K H' ρ' env' σ' → D.ct σ' H'
    | .rt d => ∀ v, DR K H' ρ' d v → D.rt v H'
end DL

/-! ## tuples without a dict of their own -/
namespace DL
open PySem PySem.Spec L2 PyProof.Rows
/-- a new tuple is wanted -/
def NewT (Q : VK) (H : Hp) (xs : List V) : Prop := ∀ (o : Obj) (p : Addr), o.dict = none → H p = none → Q (.ref p) (upd H p (.frz o (.tup xs)))
section
variable {X : Cx} {pins : List (Addr × Obj)} {σ : L2.St} {H : Hp} {s : Shared} {Q : VK} {xs : List V}
theorem laidT {its : List Value} (I : Inv X pins σ H s) (r : Vals xs its) (hz : xs.length ≤ sizeLine) (q : NewT Q H xs) :
    EP X pins σ Q (.ref s.heap.objs.size) { s with heap := s.heap.push { cls := .type "tuple", data := .seq its.toArray } } :=
  ⟨.ref s.heap.objs.size, upd H s.heap.objs.size (.frz { cls := .type "tuple", data := .seq its.toArray } (.tup xs)),
    I.laid (t' := s.toks) (fun b u e => Heap.get?_push_of_some _ e) (Nat.le_refl _) ⟨Heap.get?_push_size _ rfl, hz, its, r, IsTup.new _ _⟩, rfl, q _ _ rfl (I.hok.fresh (Nat.le_refl _))⟩
end
section
variable {X : Cx} {es : List Expr} {t : TA} {pos : Pos}
theorem pe_tupN {k : Nat} (h : PA X es t) : PE X (.Tuple es k pos) (fun σ H Q => t σ H fun xs H1 => xs.length ≤ sizeLine ∧ NewT Q H1 xs) := by
  refine ⟨fun pins s σ H Q I hq => ?_⟩
  refine wpAny_Tuple_spliced (thn (h.run pos pins s σ H _ I hq) fun us s1 z => ?_)
  obtain ⟨xs, H1, I1, r, hz, q⟩ := z
  exact ⟨by rw [← r.length]; exact hz, laidT I1 r hz q⟩
theorem call_tupleN : CallR X (.type "tuple") (fun xs H Q => ∃ p ys, xs = [.ref p] ∧ ((SqL X.K H p ys ∧ NewT Q H ys) ∨ (SqT X.K H p ys ∧ Q (.ref p) H))) := by
  intro pins s σ H xs us Q I r h
  obtain ⟨p, ys, rfl, h⟩ := h
  obtain ⟨u, rfl, ru⟩ := vals1 r
  cases ru
  rcases h with ⟨hl, q⟩ | ⟨ht, q⟩
  · obtain ⟨its, rv, pl, hz⟩ := I.list hl
    refine call_tuple_list pl.isList (fun h' keep => ?_) (by rw [List.size_toArray, ← rv.length]; exact hz)
    have J : Inv X pins σ H { s with heap := h' } := I.kept (t' := s.toks) keep
    exact laidT J rv hz q
  · obtain ⟨its, _, pt, _⟩ := I.tuple ht
    exact call_tuple_tup pt ⟨.ref p, H, I, rfl, q⟩
def rCatN (K : PySem.W.Frag) : R2 := fun x y H Q => ∃ a b xs ys, x = .ref a ∧ y = .ref b ∧ SqT K H a xs ∧ SqT K H b ys ∧ xs.length + ys.length ≤ sizeLine ∧
  (xs = [] → Q (.ref b) H) ∧ (xs ≠ [] → ys = [] → Q (.ref a) H) ∧ (xs ≠ [] → ys ≠ [] → NewT Q H (xs ++ ys))
theorem op_catN : OpR X (binaryOp .Add) (rCatN X.K) := by
  intro pins s σ H x y v u Q I rx ry h
  obtain ⟨a, b, xs, ys, rfl, rfl, ta, tb, hz, q0, q1, q2⟩ := h
  cases rx
  cases ry
  obtain ⟨ia, ra, pa, _⟩ := I.tuple ta
  obtain ⟨ib, rb, pb, _⟩ := I.tuple tb
  by_cases hx : xs = []
  · subst hx
    cases ra
    exact cat_tup0 pa pb ⟨.ref b, H, I, rfl, q0 rfl⟩
  · refine HT.cat_tup pa pb (fun z => hx (ra.nil_iff.mp z)) (fun z => ⟨.ref a, H, I, rfl, q1 hx (rb.nil_iff.mp z)⟩) (fun z => ?_) (by rw [← ra.length, ← rb.length]; exact hz)
    exact laidT I (ra.append rb) (by rw [List.length_append]; exact hz) (q2 hx fun w => z (rb.nil_iff.mpr w))
def rSlN (K : PySem.W.Frag) : V → Option Int → Option Int → Hp → VK → Prop := fun x lo hi H Q => ∃ a xs, x = .ref a ∧ SqT K H a xs ∧
  (HT.sIx xs.length 0 lo = 0 ∧ HT.sIx xs.length xs.length hi = xs.length → Q (.ref a) H) ∧ (¬ (HT.sIx xs.length 0 lo = 0 ∧ HT.sIx xs.length xs.length hi = xs.length) → NewT Q H (cutV xs lo hi))
theorem sl_tupN : SlR X (rSlN X.K) := by
  intro pins s σ H x v vl vu lo hi sl Q I rx hs pl pu h
  obtain ⟨a, xs, rfl, hx, q1, q2⟩ := h
  cases rx
  obtain ⟨its, r, ht, hz⟩ := I.tuple hx
  have len : its.toArray.size = xs.length := by rw [List.size_toArray, ← r.length]
  refine ⟨"tuple", _, PyProof.Rows.slot_tuple_getitem.lookup, ht.typeIs, ?_⟩
  by_cases hw : HT.sIx xs.length 0 lo = 0 ∧ HT.sIx xs.length xs.length hi = xs.length
  · exact getItem_tuple_whole ht hs pl pu (by rw [len]; exact hw) ⟨.ref a, H, I, rfl, q1 hw⟩
  · refine HT.getItem_tuple_cut ht hs pl pu (by rw [len]; exact hw) ?_ (by rw [len]; exact hz)
    rw [len]
    exact laidT I ((r.drop (HT.sIx xs.length 0 lo)).take (HT.sIx xs.length xs.length hi - HT.sIx xs.length 0 lo)) (Nat.le_trans (cutV_length xs lo hi) hz) (q2 hw)
def rRepN (K : PySem.W.Frag) : R2 := fun x y H Q => ∃ l k xs, x = .ref l ∧ y = .int k ∧ SqT K H l xs ∧ xs ≠ [] ∧ 2 ≤ k ∧ k ≤ 1000 ∧ xs.length ≤ 1000 ∧ NewT Q H (List.replicate k.toNat xs).flatten
theorem pe_tupRgN {e : Expr} {te : L2.St → Hp → (Int → Int → Hp → Prop) → Prop} {p : Pos} (hc : X.calm = true) (hg : Gl X "tuple") (hm : X.mg "tuple" = none) (he : PRg X e te) (na : starEach [e] X.env = (false, eval e X.env) :: starEach [] X.env := by rfl) :
    PE X (.Call (.Name "tuple" p) [e] [] pos) (fun σ H Q => te σ H fun a b H1 => RgOk a b ∧ NewT Q H1 (rgV a b)) := by
  refine ⟨fun pins s σ H Q I h => ?_⟩
  have arg := he pins s σ H _ I h
  refine Call_ (ld_blt I hg hm boot_tuple (PyProof.Rows.callWith_type1 (args_cons (thn arg fun x s1 z => args_nil ?_) na) na))
  obtain ⟨r, a, b, t, u, v, H1, rfl, hr, I1, ok, q⟩ := z
  obtain ⟨b1, b2, b3, b4, b5⟩ := ok
  refine call_tuple_range (n := (b - a).toNat) (I1.ok.hd hc) hr (small_one b1 b2 b3 b4) (rangeSize_nat a b) b5 fun h' tk acc keep hi => ?_
  have J : Inv X pins σ H1 { s1 with heap := h', toks := tk } := I1.kept keep
  have fin := laidT (its := acc.toList) J (vals_rg hi) (by rw [rgV_length, sizeLine_eq]; omega) q
  rw [Array.toArray_toList] at fin
  exact fin
end
end DL

namespace DL
open PySem PySem.Spec L2
variable [Nfo]

theorem PE.imp {X : Cx} {e : Expr} {t t' : TE} (h : PE X e t) (f : ∀ σ H Q, t' σ H Q → t σ H Q) : PE X e t' := ⟨fun pins s σ H Q I q => h.run pins s σ H Q I (f σ H Q q)⟩
theorem PT.imp {X : Cx} {e : Expr} {t t' : TT} (h : PT X e t) (f : ∀ σ H Q, t' σ H Q → t σ H Q) : PT X e t' := ⟨fun pins s σ H Q I q => h.run pins s σ H Q I (f σ H Q q)⟩
theorem PW.imp {X : Cx} {e : Expr} {t t' : TT} (h : PW X e t) (f : ∀ σ H Q, t' σ H Q → t σ H Q) : PW X e t' := ⟨fun wh pins s σ H Q I q => h.run wh pins s σ H Q I (f σ H Q q)⟩
theorem PA.imp {X : Cx} {e : List Expr} {t t' : TA} (h : PA X e t) (f : ∀ σ H Q, t' σ H Q → t σ H Q) : PA X e t' := ⟨fun pos pins s σ H Q I q => h.run pos pins s σ H Q I (f σ H Q q)⟩
theorem PS.imp {X : Cx} {e : Stmt} {t t' : TS} (h : PS X e t) (f : ∀ D σ H, t' D σ H → t D σ H) : PS X e t' := ⟨fun pins s σ H D I q => h.run pins s σ H D I (f D σ H q)⟩
theorem PSs.imp {X : Cx} {e : List Stmt} {t t' : TS} (h : PSs X e t) (f : ∀ D σ H, t' D σ H → t D σ H) : PSs X e t' := ⟨fun pins s σ H D I q => h.run pins s σ H D I (f D σ H q)⟩

/-- what an expression has in this reading -/
def GE (X : Cx) (W : WX) (e : Expr) (r : E) : Prop := PE X e (rE X.K X.mg W r)
def GT (X : Cx) (W : WX) (e : Expr) (r : T) : Prop := PT X e (rT X.K X.mg W r)
def GA (X : Cx) (W : WX) (e : List Expr) (r : As) : Prop := PA X e (rA X.K X.mg W r)
def GB (X : Cx) (W : WX) (e : Stmt) (r : B) : Prop := PS X e (rB X.K X.mg W r)
def GBs (X : Cx) (W : WX) (e : List Stmt) (r : B) : Prop := PSs X e (rB X.K X.mg W r)
section
variable {X : Cx} {W : WX} {a b c : Expr} {ra rb rc : E} {pos : Pos}

/-! ## names, constants -/
theorem g_var (i : Nat) {x : Str} (hN : X.N[i]? = some x := by rfl) (hv : Vis X.env.scope x := by first | exact Or.inl rfl | exact Or.inr (Or.inl rfl) | exact Or.inr (Or.inr rfl)) (hd : (x == ("__debug__" : Str)) = false := by decide)
    (hcd : (x == ("__classdict__" : Str)) = false := by decide) : GE X W (.Name x pos) (eVar i) := by
  refine PE.imp (pe_var hN hv hd hcd) fun σ H Q h => ?_
  obtain ⟨env, S, ρ, se, ss, h⟩ := h
  unfold eVar at h
  cases q : env[i]? with
  | none => rw [q] at h; exact h.elim
  | some o =>
    cases o with
    | none => rw [q] at h; exact h.elim
    | some d =>
      rw [q] at h
      obtain ⟨v, e, r⟩ := se.at_ i d q
      exact ⟨v, e, h H ρ Ext.refl ss v r⟩
theorem g_const {x : PyData} {v : V} {k : Const} {j : Nat} (h : PE X (.Constant k j pos) (tC v)) (hv : ∀ H, DV X.K H x v) : GE X W (.Constant k j pos) (eC x) := by
  refine PE.imp h fun σ H Q h => ?_
  obtain ⟨env, S, ρ, se, ss, h⟩ := h
  exact h H ρ Ext.refl ss v (.p (hv H))
theorem g_int {i : Int} {j : Nat} : GE X W (.Constant (.int i) j pos) (eC (.int i)) := g_const pe_int fun _ => .int i
theorem g_bl {i : Bool} {j : Nat} : GE X W (.Constant (.bool i) j pos) (eC (.bool i)) := g_const pe_bl fun _ => .bl i
theorem g_none {j : Nat} : GE X W (.Constant .none j pos) (eC .none) := g_const pe_non fun _ => .non
theorem g_str {i : Str} {j : Nat} : GE X W (.Constant (.str i) j pos) (eC (.str i)) := g_const pe_str fun _ => .str i
/-- a module's constant that is a flat value -/
theorem g_glob {x : Str} {d : PyData} {v : V} {u : Value} (hg : Gl X x) (hm : X.mg x = some u) (r : RelV v u) (hv : ∀ H, DV X.K H d v) (hdb : (x == ("__debug__" : Str)) = false := by decide) : GE X W (.Name x pos) (eC d) := by
  refine PE.imp (pe_glob hg hm r hdb) fun σ H Q h => ?_
  obtain ⟨env, S, ρ, se, ss, h⟩ := h
  exact h H ρ Ext.refl ss v (.p (hv H))

/-! ## two in a row -/
/-- the way from a reading of two parts to the hand layer's -/
theorem two {f : D → D → M D} {r : R2} {σ : L2.St} {H : Hp} {Q : VK} (h : rE X.K X.mg W (e2D f ra rb) σ H Q)
    (hr : ∀ (d e : D) (S : Sto) (ρ : List Addr) (H2 : Hp) (v u : V), SimS X.K H2 ρ S → DR X.K H2 ρ d v → DR X.K H2 ρ e u →
      Post X.K X.mg (fun c d H' => W c d σ H') S ρ H2 (f d e S) (fun d _ ρ' H' => ∀ v, DR X.K H' ρ' d v → Q v H') → r v u H2 Q) :
    tOp r (rE X.K X.mg W ra) (rE X.K X.mg W rb) σ H Q := by
  obtain ⟨env, S, ρ, se, ss, h⟩ := h
  refine ⟨env, S, ρ, se, ss, (Post.bnd h).imp fun d S1 ρ1 H1 _ x1 s1 h1 v rv => ?_⟩
  refine ⟨env, S1, ρ1, se.mono x1.st x1.pre, s1, (Post.bnd h1).imp fun e S2 ρ2 H2 _ x2 s2 h2 u ru => ?_⟩
  exact hr d e S2 ρ2 H2 v u s2 (rv.mono x2.st x2.pre) ru h2
theorem one {f : D → M D} {r : V → Hp → VK → Prop} {σ : L2.St} {H : Hp} {Q : VK} (h : rE X.K X.mg W (fun env => bnd (ra env) f) σ H Q)
    (hr : ∀ (d : D) (S : Sto) (ρ : List Addr) (H2 : Hp) (v : V), SimS X.K H2 ρ S → DR X.K H2 ρ d v →
      Post X.K X.mg (fun c d H' => W c d σ H') S ρ H2 (f d S) (fun d _ ρ' H' => ∀ v, DR X.K H' ρ' d v → Q v H') → r v H2 Q) :
    tUn r (rE X.K X.mg W ra) σ H Q := by
  obtain ⟨env, S, ρ, se, ss, h⟩ := h
  refine ⟨env, S, ρ, se, ss, (Post.bnd h).imp fun d S1 ρ1 H1 _ x1 s1 h1 v rv => ?_⟩
  exact hr d S1 ρ1 H1 v s1 rv h1
/-- what a value reads as, now -/
theorem view_dp {K : PySem.W.Frag} {H : Hp} {ρ : List Addr} {S : Sto} {d : D} {v : V} {x : PyData} (ss : SimS K H ρ S) (r : DR K H ρ d v) (h : view S d = some x) :
    DV K H x v ∨ ∃ (a : Addr) (vs : List V) (xs : List PyData), v = .ref a ∧ x = .list xs ∧ H a = some (.lst vs) ∧ DVs K H xs vs := by
  cases d with
  | p y =>
    cases h
    cases r with
    | p r => exact .inl r
  | tup ds => exact .inl (toP_dv (d := .tup ds) (by unfold toP; exact h) r)
  | ref n =>
    cases r with
    | ref e =>
      rename_i a
      replace h : (match S[n]? with | some (.lst ds) => (toPs ds).map PyData.list | _ => none) = some x := h
      cases q : S[n]? with
      | none => rw [q] at h; cases h
      | some o =>
        rw [q] at h
        cases o with
        | lst ds =>
          have h' : (toPs ds).map PyData.list = some x := h
          cases q2 : toPs ds with
          | none => rw [q2] at h'; cases h'
          | some xs =>
            rw [q2] at h'
            cases h'
            obtain ⟨vs, h1, h2⟩ := ss.ob n _ a q e
            exact .inr ⟨a, vs, xs, rfl, rfl, h1, toPs_dv q2 h2⟩
        | dct kvs => cases h
        | gone => cases h
  | exn e => cases h
/-- what reads as x, now -/
def Vw (K : PySem.W.Frag) (H : Hp) (x : PyData) (v : V) : Prop := DV K H x v ∨ ∃ (a : Addr) (vs : List V) (xs : List PyData), v = .ref a ∧ x = .list xs ∧ H a = some (.lst vs) ∧ DVs K H xs vs
theorem Vw.int {K : PySem.W.Frag} {H : Hp} {v : V} {i : Int} (h : Vw K H (.int i) v) : v = .int i := by
  rcases h with h | ⟨_, _, _, _, e, _⟩
  · cases h; rfl
  · cases e
theorem Vw.str {K : PySem.W.Frag} {H : Hp} {v : V} {i : Str} (h : Vw K H (.str i) v) : v = .str i := by
  rcases h with h | ⟨_, _, _, _, e, _⟩
  · cases h; rfl
  · cases e
theorem Vw.bl {K : PySem.W.Frag} {H : Hp} {v : V} {i : Bool} (h : Vw K H (.bool i) v) : v = .bl i := by
  rcases h with h | ⟨_, _, _, _, e, _⟩
  · cases h; rfl
  · cases e
theorem Vw.non {K : PySem.W.Frag} {H : Hp} {v : V} (h : Vw K H .none v) : v = .non := by
  rcases h with h | ⟨_, _, _, _, e, _⟩
  · cases h; rfl
  · cases e
theorem Vw.list {K : PySem.W.Frag} {H : Hp} {v : V} {xs : List PyData} (h : Vw K H (.list xs) v) : ∃ a vs, v = .ref a ∧ SqL K H a vs ∧ DVs K H xs vs := by
  rcases h with h | ⟨a, vs, ys, e, e2, h1, h2⟩
  · cases h with
    | lst h t => exact ⟨_, _, rfl, h.sq, t⟩
  · cases e2; exact ⟨a, vs, e, SqL.of h1, h2⟩
theorem Vw.tuple {K : PySem.W.Frag} {H : Hp} {v : V} {xs : List PyData} (h : Vw K H (.tuple xs) v) : ∃ a vs, v = .ref a ∧ SqT K H a vs ∧ DVs K H xs vs := by
  rcases h with h | ⟨_, _, _, _, e, _⟩
  · cases h with
    | tup h t => exact ⟨_, _, rfl, h.sq, t⟩
  · cases e
theorem Vw.tupleN {K : PySem.W.Frag} {H : Hp} {v : V} {xs : List PyData} (h : Vw K H (.tuple xs) v) : ∃ a vs, v = .ref a ∧ SqN K H a vs ∧ DVs K H xs vs := by
  rcases h with h | ⟨_, _, _, _, e, _⟩
  · cases h with
    | tup h t => exact ⟨_, _, rfl, h, t⟩
  · cases e
/-! what reads as data, in the hand layer's word (no dict) -/
/-! no dict in it -/
mutual
def nod : PyData → Bool
  | .dict _ => false
  | .list xs => nods xs
  | .tuple xs => nods xs
  | _ => true
def nods : List PyData → Bool
  | [] => true
  | x :: xs => nod x && nods xs
end
mutual
theorem nod_lay : ∀ x : PyData, x.canLay0 = true → nod x = true
  | .none, _ => by simp only [nod]
  | .bool _, _ => by simp only [nod]
  | .int _, _ => by simp only [nod]
  | .str _, _ => by simp only [nod]
  | .list xs, h => by simp only [nod]; exact nods_lay xs h
  | .tuple xs, h => by simp only [nod]; exact nods_lay xs h
  | .dict _, h => by simp only [PyData.canLay0] at h; cases h
theorem nods_lay : ∀ xs : List PyData, PyData.canLayAll0 xs = true → nods xs = true
  | [], _ => by simp only [nods]
  | x :: xs, h => by
    have h2 : (x.canLay0 && PyData.canLayAll0 xs) = true := h
    simp only [Bool.and_eq_true] at h2
    simp only [nods, nod_lay x h2.1, nods_lay xs h2.2, Bool.and_self]
end
theorem nod_shaped {x : PyData} (h : SeqAt.shaped x = true) : nod x = true := nod_lay x (SeqAt.canLay_of_shaped h)
mutual
theorem dv_dp {K : PySem.W.Frag} {H : Hp} : ∀ {x : PyData} {v : V}, nod x = true → DV K H x v → Dp K H v x
  | _, _, _, .non => .non
  | _, _, _, .bl b => .bl b
  | _, _, _, .int i => .int i
  | _, _, _, .str s => .str s
  | _, _, n, .lst h t => .lst h.sq (dvs_dp (by simpa only [nod] using n) t)
  | _, _, n, .tup h t => .tup h.sq (dvs_dp (by simpa only [nod] using n) t)
  | _, _, n, .dct0 _ => by simp only [nod] at n; cases n
theorem dvs_dp {K : PySem.W.Frag} {H : Hp} : ∀ {xs : List PyData} {vs : List V}, nods xs = true → DVs K H xs vs → DpAll K H vs xs
  | _, _, _, .nil => .nil
  | _, _, n, .cons h t => by
    simp only [nods, Bool.and_eq_true] at n
    exact .cons (dv_dp n.1 h) (dvs_dp n.2 t)
end
theorem Vw.dp {K : PySem.W.Frag} {H : Hp} {v : V} {x : PyData} (h : Vw K H x v) (n : nod x = true) : Dp K H v x := by
  rcases h with h | ⟨a, vs, xs, rfl, rfl, h1, h2⟩
  · exact dv_dp n h
  · exact .lst (SqL.of h1) (dvs_dp (by simpa only [nod] using n) h2)
/-- by what both sides read as -/
theorem two_see {f : PyData → PyData → M D} {r : R2} {σ : L2.St} {H : Hp} {Q : VK} (h : rE X.K X.mg W (e2 f ra rb) σ H Q)
    (hr : ∀ (x y : PyData) (S : Sto) (ρ : List Addr) (H2 : Hp) (v u : V), SimS X.K H2 ρ S → Vw X.K H2 x v → Vw X.K H2 y u →
      Post X.K X.mg (fun c d H' => W c d σ H') S ρ H2 (f x y S) (fun d _ ρ' H' => ∀ v, DR X.K H' ρ' d v → Q v H') → r v u H2 Q) :
    tOp r (rE X.K X.mg W ra) (rE X.K X.mg W rb) σ H Q := by
  refine two (f := fun x y => bnd (see x) fun u => bnd (see y) fun v => f u v) h fun d e S ρ H2 v u ss rv ru h2 => ?_
  unfold bnd see at h2
  cases q1 : view S d with
  | none => rw [q1] at h2; exact h2.elim
  | some x =>
    cases q2 : view S e with
    | none => simp only [q1, q2] at h2; exact h2.elim
    | some y =>
      simp only [q1, q2] at h2
      exact hr x y S ρ H2 v u ss (view_dp ss rv q1) (view_dp ss ru q2) h2
/-- .. where the answer's wish is another one -/
theorem two_seeF {f : PyData → PyData → M D} {r : R2} {σ : L2.St} {H : Hp} {Q Q' : VK} (h : rE X.K X.mg W (e2 f ra rb) σ H Q)
    (hr : ∀ (x y : PyData) (S : Sto) (ρ : List Addr) (H2 : Hp) (v u : V), SimS X.K H2 ρ S → Vw X.K H2 x v → Vw X.K H2 y u →
      Post X.K X.mg (fun c d H' => W c d σ H') S ρ H2 (f x y S) (fun d _ ρ' H' => ∀ v, DR X.K H' ρ' d v → Q v H') → r v u H2 Q') :
    tOp r (rE X.K X.mg W ra) (rE X.K X.mg W rb) σ H Q' := by
  obtain ⟨env, S, ρ, se, ss, h⟩ := h
  refine ⟨env, S, ρ, se, ss, (Post.bnd h).imp fun d S1 ρ1 H1 _ x1 s1 h1 v rv => ?_⟩
  refine ⟨env, S1, ρ1, se.mono x1.st x1.pre, s1, (Post.bnd h1).imp fun e S2 ρ2 H2 _ x2 s2 h2 u ru => ?_⟩
  replace rv := rv.mono x2.st x2.pre
  unfold bnd see at h2
  cases q1 : view S2 d with
  | none => rw [q1] at h2; exact h2.elim
  | some x =>
    cases q2 : view S2 e with
    | none => simp only [q1, q2] at h2; exact h2.elim
    | some y =>
      simp only [q1, q2] at h2
      exact hr x y S2 ρ2 H2 v u s2 (view_dp s2 rv q1) (view_dp s2 ru q2) h2
theorem oneF {f : D → M D} {r : V → Hp → VK → Prop} {σ : L2.St} {H : Hp} {Q Q' : VK} (h : rE X.K X.mg W (fun env => bnd (ra env) f) σ H Q)
    (hr : ∀ (d : D) (S : Sto) (ρ : List Addr) (H2 : Hp) (v : V), SimS X.K H2 ρ S → DR X.K H2 ρ d v →
      Post X.K X.mg (fun c d H' => W c d σ H') S ρ H2 (f d S) (fun d _ ρ' H' => ∀ v, DR X.K H' ρ' d v → Q v H') → r v H2 Q') :
    tUn r (rE X.K X.mg W ra) σ H Q' := by
  obtain ⟨env, S, ρ, se, ss, h⟩ := h
  refine ⟨env, S, ρ, se, ss, (Post.bnd h).imp fun d S1 ρ1 H1 _ x1 s1 h1 v rv => ?_⟩
  exact hr d S1 ρ1 H1 v s1 rv h1
theorem one_see {f : PyData → M D} {r : V → Hp → VK → Prop} {σ : L2.St} {H : Hp} {Q : VK} (h : rE X.K X.mg W (e1 f ra) σ H Q)
    (hr : ∀ (x : PyData) (S : Sto) (ρ : List Addr) (H2 : Hp) (v : V), SimS X.K H2 ρ S → Vw X.K H2 x v →
      Post X.K X.mg (fun c d H' => W c d σ H') S ρ H2 (f x S) (fun d _ ρ' H' => ∀ v, DR X.K H' ρ' d v → Q v H') → r v H2 Q) :
    tUn r (rE X.K X.mg W ra) σ H Q := by
  refine one (f := fun x => bnd (see x) fun u => f u) h fun d S ρ H2 v ss rv h2 => ?_
  unfold bnd see at h2
  cases q1 : view S d with
  | none => rw [q1] at h2; exact h2.elim
  | some x =>
    simp only [q1] at h2
    exact hr x S ρ H2 v ss (view_dp ss rv q1) h2
/-- an answer that is flat -/
theorem ans {S : Sto} {ρ : List Addr} {H : Hp} {Q : VK} {Wx : XW} {x : PyData} {v : V} (ss : SimS X.K H ρ S) (h : Post X.K X.mg Wx S ρ H (DL.ret (D.p x) S) (fun d _ ρ' H' => ∀ v, DR X.K H' ρ' d v → Q v H')) (hv : DV X.K H x v) : Q v H :=
  h H ρ Ext.refl ss v (.p hv)
end
end DL

namespace DL
open PySem PySem.Spec L2
variable [Nfo]

theorem big_line : big = sizeLine := by rw [sizeLine_eq]; rfl
/-! ## the store by steps -/
section
variable {K : PySem.W.Frag} {H H' : Hp} {ρ : List Addr} {S : Sto}
theorem stb_new {p : Addr} {o : HO} (h : H p = none) : Stb H (upd H p o) := fun b u e _ => by rw [upd_ne (ne_of_none e h)]; exact e
theorem SimS.live_some3 (ss : SimS K H ρ S) {a : Addr} (l : Live S ρ a) : ∃ o, H a = some o ∧ stO o = false ∧ ∀ ps, o ≠ .tbl ps := by
  obtain ⟨i, o, h1, h2, h3⟩ := l
  have q := ss.ob i o a h1 h3
  cases o with
  | lst ds => obtain ⟨vs, e, _⟩ := q; exact ⟨_, e, rfl, fun _ z => nomatch z⟩
  | dct kvs => obtain ⟨vs, e, _⟩ := q; exact ⟨_, e, rfl, fun _ z => nomatch z⟩
  | gone => exact absurd rfl h2
theorem SimS.live_some (ss : SimS K H ρ S) {a : Addr} (l : Live S ρ a) : ∃ o, H a = some o ∧ stO o = false := by
  obtain ⟨o, h1, h2, _⟩ := ss.live_some3 l
  exact ⟨o, h1, h2⟩
/-- tables of code objects stay where something else changes -/
theorem tabs_put {T : List (Addr × Str)} {H : Hp} {a : Addr} {x o : HO} (t : LamX.Tabs T H) (ea : H a = some x) (sx : stO x = false) (nx : ∀ ps, x ≠ .tbl ps) : LamX.Tabs T (upd H a o) := fun p hp => by
  obtain ⟨ps, h1, h2, h3⟩ := t p hp
  refine ⟨ps, ?_, h2, fun pos cv hc => ?_⟩
  · rw [upd_ne (fun z => by rw [z, ea] at h1; exact nx ps (Option.some.inj h1))]
    exact h1
  · obtain ⟨c, e1, e2⟩ := h3 pos cv hc
    refine ⟨c, e1, ?_⟩
    rw [upd_ne (fun z => by
      rw [z, ea] at e2
      cases e2
      cases sx)]
    exact e2
theorem tabs_new {T : List (Addr × Str)} {H : Hp} {a : Addr} {o : HO} (t : LamX.Tabs T H) (ea : H a = none) : LamX.Tabs T (upd H a o) := t.ext fun b u e => by rw [upd_ne (ne_of_none e ea)]; exact e
theorem SimS.ne_live (ss : SimS K H ρ S) {p : Addr} (h : H p = none) : ¬ Live S ρ p := fun l => by
  obtain ⟨o, e, _⟩ := ss.live_some l
  rw [h] at e
  cases e
theorem obR_mono {ρ' : List Addr} {o : Ob} {a : Addr} (q : ρ <+: ρ') (st : Stb H H') (hk : o ≠ .gone → H' a = H a) (h : ObR K H ρ o a) : ObR K H' ρ' o a := by
  cases o with
  | lst ds =>
    obtain ⟨vs, e, r⟩ := h
    exact ⟨vs, (hk (fun z => by cases z)).trans e, r.mono st q⟩
  | dct kvs =>
    obtain ⟨ws, e, r⟩ := h
    exact ⟨ws, (hk (fun z => by cases z)).trans e, Paired.mapP r fun p w z => ⟨z.1, z.2.mono st q⟩⟩
  | gone => trivial
/-- the store stands where its objects do -/
theorem SimS.at_ (ss : SimS K H ρ S) (st : Stb H H') (hk : ∀ a, Live S ρ a → H' a = H a) (tb : LamX.Tabs Nfo.T H') : SimS K H' ρ S :=
  ⟨ss.len, ss.inj, fun i o a e1 e2 => obR_mono (List.prefix_refl _) st (fun z => hk a ⟨i, o, e1, z, e2⟩) (ss.ob i o a e1 e2), tb⟩
/-- an object that the store doesn't know is laid -/
theorem SimS.lay (ss : SimS K H ρ S) {p : Addr} {o : HO} (h : H p = none) : SimS K (upd H p o) ρ S ∧ Ext S ρ S ρ H (upd H p o) := by
  refine ⟨ss.at_ (stb_new h) (fun a l => ?_) (tabs_new ss.tab h), List.prefix_refl _, fun b u e _ _ => by rw [upd_ne (ne_of_none e h)]; exact e, stb_new h, fun b l => .inl l⟩
  · obtain ⟨u, e, _⟩ := ss.live_some l
    exact upd_ne (ne_of_none e h)
/-- a new object of the store -/
theorem SimS.push (ss : SimS K H ρ S) {p : Addr} {o : HO} {u : Ob} (h : H p = none) (q : ObR K (upd H p o) (ρ ++ [p]) u p) :
    SimS K (upd H p o) (ρ ++ [p]) (S ++ [u]) ∧ Ext S ρ (S ++ [u]) (ρ ++ [p]) H (upd H p o) := by
  have hpre : ρ <+: ρ ++ [p] := List.prefix_append _ _
  have old : ∀ {i : Nat} {w : Ob}, (S ++ [u])[i]? = some w → i < S.length → S[i]? = some w := fun {i w} e l => by
    rw [List.getElem?_append_left l] at e; exact e
  have oldA : ∀ {i : Nat} {a : Addr}, (ρ ++ [p])[i]? = some a → i < S.length → ρ[i]? = some a := fun {i a} e l => by
    rw [List.getElem?_append_left (by rw [ss.len]; exact l)] at e; exact e
  have lt : ∀ {i : Nat} {w : Ob}, (S ++ [u])[i]? = some w → i < S.length ∨ (i = S.length ∧ w = u) := fun {i w} e => by
    have hl := (List.getElem?_eq_some_iff.mp e).1
    rw [List.length_append, List.length_singleton] at hl
    by_cases hi : i < S.length
    · exact .inl hi
    · have hi' : i = S.length := by omega
      subst hi'
      rw [List.getElem?_append_right (Nat.le_refl _), Nat.sub_self] at e
      exact .inr ⟨rfl, by simpa using e.symm⟩
  have atp : ∀ {a : Addr}, (ρ ++ [p])[S.length]? = some a → a = p := fun {a} e => by
    rw [List.getElem?_append_right (by rw [ss.len]; exact Nat.le_refl _), ss.len, Nat.sub_self] at e
    simpa using e.symm
  have nl := ss.ne_live h
  refine ⟨⟨by simp [ss.len], fun i j w w' a e1 e2 n1 n2 e3 e4 => ?_, fun i w a e1 e2 => ?_, tabs_new ss.tab h⟩, hpre, fun b w e _ _ => by rw [upd_ne (ne_of_none e h)]; exact e, stb_new h, fun b l => ?_⟩
  · rcases lt e1 with l1 | ⟨rfl, rfl⟩
    · rcases lt e2 with l2 | ⟨rfl, rfl⟩
      · exact ss.inj i j w w' a (old e1 l1) (old e2 l2) n1 n2 (oldA e3 l1) (oldA e4 l2)
      · have := atp e4
        subst this
        exact absurd ⟨i, w, old e1 l1, n1, oldA e3 l1⟩ nl
    · rcases lt e2 with l2 | ⟨rfl, rfl⟩
      · have := atp e3
        subst this
        exact absurd ⟨j, w', old e2 l2, n2, oldA e4 l2⟩ nl
      · rfl
  · rcases lt e1 with l1 | ⟨rfl, rfl⟩
    · refine obR_mono hpre (stb_new h) (fun z => ?_) (ss.ob i w a (old e1 l1) (oldA e2 l1))
      obtain ⟨x, e, _⟩ := ss.live_some ⟨i, w, old e1 l1, z, oldA e2 l1⟩
      exact upd_ne (ne_of_none e h)
    · have := atp e2
      subst this
      exact q
  · obtain ⟨i, w, e1, n1, e2⟩ := l
    rcases lt e1 with l1 | ⟨rfl, rfl⟩
    · exact .inl ⟨i, w, old e1 l1, n1, oldA e2 l1⟩
    · have := atp e2
      subst this
      exact .inr fun o e => by rw [h] at e; cases e
/-- an object of the store changes -/
theorem SimS.put (ss : SimS K H ρ S) {n : Nat} {a : Addr} {o : HO} {w u : Ob} (h : S[n]? = some w) (hw : w ≠ .gone) (ha : ρ[n]? = some a) (q : ObR K (upd H a o) ρ u a) :
    SimS K (upd H a o) ρ (S.set n u) ∧ Ext S ρ (S.set n u) ρ H (upd H a o) := by
  have la : Live S ρ a := ⟨n, w, h, hw, ha⟩
  obtain ⟨x, ex, sx, nx⟩ := ss.live_some3 la
  have st : Stb H (upd H a o) := fun b y e s => by
    rw [upd_ne]
    · exact e
    · rintro rfl
      rw [ex] at e; cases e
      rw [sx] at s; cases s
  have hn : n < S.length := (List.getElem?_eq_some_iff.mp h).1
  have cases_ : ∀ {i : Nat} {y : Ob}, (S.set n u)[i]? = some y → (i = n ∧ y = u) ∨ (i ≠ n ∧ S[i]? = some y) := fun {i y} e => by
    by_cases hi : n = i
    · subst hi
      rw [List.getElem?_set_self hn] at e
      exact .inl ⟨rfl, by simpa using e.symm⟩
    · rw [List.getElem?_set_ne hi] at e
      exact .inr ⟨fun z => hi z.symm, e⟩
  have live_old : ∀ {b : Addr}, Live (S.set n u) ρ b → Live S ρ b := fun {b} ⟨i, y, e1, n1, e2⟩ => by
    rcases cases_ e1 with ⟨rfl, rfl⟩ | ⟨_, e1⟩
    · rw [ha] at e2; cases e2; exact la
    · exact ⟨i, y, e1, n1, e2⟩
  have only : ∀ {i : Nat} {y : Ob} {b : Addr}, i ≠ n → S[i]? = some y → y ≠ .gone → ρ[i]? = some b → b ≠ a := fun {i y b} hi e1 n1 e2 z => by
    subst z
    exact hi (ss.inj i n y w b e1 h n1 hw e2 ha)
  refine ⟨⟨by simpa using ss.len, fun i j y y' b e1 e2 n1 n2 e3 e4 => ?_, fun i y b e1 e2 => ?_, tabs_put ss.tab ex sx nx⟩, List.prefix_refl _, fun b y e l _ => ?_, st, fun b l => .inl (live_old l)⟩
  · rcases cases_ e1 with ⟨d1, z1⟩ | ⟨d1, f1⟩
    · rcases cases_ e2 with ⟨d2, z2⟩ | ⟨d2, f2⟩
      · rw [d1, d2]
      · rw [d1, ha] at e3; cases e3
        exact (only d2 f2 n2 e4 rfl).elim
    · rcases cases_ e2 with ⟨d2, z2⟩ | ⟨d2, f2⟩
      · rw [d2, ha] at e4; cases e4
        exact (only d1 f1 n1 e3 rfl).elim
      · exact ss.inj i j y y' b f1 f2 n1 n2 e3 e4
  · rcases cases_ e1 with ⟨rfl, rfl⟩ | ⟨d1, e1⟩
    · rw [ha] at e2; cases e2; exact q
    · exact obR_mono (List.prefix_refl _) st (fun z => upd_ne (only d1 e1 z e2)) (ss.ob i y b e1 e2)
  · rw [upd_ne]
    · exact e
    · rintro rfl; exact l la
end

section
variable {X : Cx} {W : WX} {a b c : Expr} {ra rb rc : E} {pos : Pos} {S : Sto} {ρ : List Addr} {H : Hp} {Q : VK} {Wx : XW}
/-- a new list may be told as data -/
def frzQ (Q : VK) : VK := fun x H1 => (∃ a xs, x = .ref a ∧ H1 a = some (.lst xs) ∧ ∀ o, Q x (upd H1 a (.frz o (.lst xs)))) ∨ Q x H1
def tFrz (t : TE) : TE := fun σ H Q => t σ H (frzQ Q)
theorem pe_frz {t : TE} (h : PE X a t) : PE X a (tFrz t) := by
  refine ⟨fun pins s σ H Q I q => thn (h.run pins s σ H _ I q) fun u s1 ⟨x, H1, I1, rx, q1⟩ => ?_⟩
  rcases q1 with ⟨l, xs, rfl, hl, q1⟩ | q1
  · obtain ⟨od, I2⟩ := I1.lock hl trivial
    exact ⟨_, _, I2, rx, q1 od⟩
  · exact ⟨_, _, I1, rx, q1⟩
def frzN (N : L2.St → Hp → Prop) : L2.St → Hp → Prop := fun σ' H' => (∃ a xs, H' a = some (.lst xs) ∧ ∀ o, N σ' (upd H' a (.frz o (.lst xs)))) ∨ N σ' H'
theorem ps_frz {st : Stmt} {t : TS} (h : PS X st t) : PS X st (fun D σ H => t { D with nx := frzN D.nx } σ H) := by
  refine ⟨fun pins s σ H D I q => thn (h.run pins s σ H _ I q) fun f s1 q1 => ?_⟩
  cases f with
  | next =>
    obtain ⟨σ', H', I', q⟩ := q1
    rcases q with ⟨l, xs, hl, q⟩ | q
    · obtain ⟨od, I2⟩ := I'.lock hl trivial
      exact ⟨σ', _, I2, q od⟩
    · exact ⟨σ', H', I', q⟩
  | ret u => exact q1
  | brk => exact q1
  | cont => exact q1
/-- an answer that is a new tuple of data -/
theorem ansT {xs : List PyData} {vs : List V} (ss : SimS X.K H ρ S) (h : Post X.K X.mg Wx S ρ H (DL.ret (D.p (.tuple xs)) S) (fun d _ ρ' H' => ∀ v, DR X.K H' ρ' d v → Q v H')) (hv : DVs X.K H xs vs) : NewT Q H vs := fun o p od hp => by
  obtain ⟨s1, x1⟩ := ss.lay (o := .frz o (.tup vs)) hp
  exact h _ ρ x1 s1 _ (.p (.tup (SqN.of od) (hv.mono x1.st)))
theorem ansTF {xs : List PyData} {vs : List V} (ss : SimS X.K H ρ S) (h : Post X.K X.mg Wx S ρ H (DL.ret (D.p (.tuple xs)) S) (fun d _ ρ' H' => ∀ v, DR X.K H' ρ' d v → Q v H')) (hv : DVs X.K H xs vs) : NewT (frzQ Q) H vs := fun o p od hp => .inr (ansT ss h hv o p od hp)
/-- an answer that is a new list -/
theorem ansN {ds : List D} {vs : List V} {p : Addr} (ss : SimS X.K H ρ S) (h : Post X.K X.mg Wx S ρ H (DL.new (.lst ds) S) (fun d _ ρ' H' => ∀ v, DR X.K H' ρ' d v → Q v H')) (hv : DRs X.K H ρ ds vs) (hp : H p = none) :
    Q (.ref p) (upd H p (.lst vs)) := by
  obtain ⟨s1, x1⟩ := ss.push (o := .lst vs) (u := .lst ds) hp ⟨vs, upd_same, hv.mono (stb_new hp) (List.prefix_append _ _)⟩
  exact h _ _ x1 s1 _ (.ref (by rw [List.getElem?_append_right (by rw [ss.len]; exact Nat.le_refl _), ss.len, Nat.sub_self]; rfl))
theorem ansL {fz : Bool} {ds : List D} {vs : List V} {p : Addr} (ss : SimS X.K H ρ S) (h : Post X.K X.mg Wx S ρ H (mkL fz ds S) (fun d _ ρ' H' => ∀ v, DR X.K H' ρ' d v → Q v H')) (hv : DRs X.K H ρ ds vs) (hp : H p = none) :
    frzQ Q (.ref p) (upd H p (.lst vs)) := by
  unfold mkL at h
  cases fz with
  | false => exact .inr (ansN ss h hv hp)
  | true =>
    replace h : Post X.K X.mg Wx S ρ H ((match toPs ds with | some xs => DL.ret (D.p (.list xs)) | none => no) S) _ := h
    cases q : toPs ds with
    | none => rw [q] at h; exact h.elim
    | some xs =>
      rw [q] at h
      refine .inl ⟨p, vs, rfl, upd_same, fun o => ?_⟩
      rw [upd_upd]
      obtain ⟨s1, x1⟩ := ss.lay (o := .frz o (.lst vs)) hp
      exact h _ ρ x1 s1 _ (.p (.lst (.inl ⟨o, upd_same⟩) ((toPs_dv q hv).mono x1.st)))
theorem ansP {fz : Bool} {xs : List PyData} {vs : List V} {p : Addr} (ss : SimS X.K H ρ S) (h : Post X.K X.mg Wx S ρ H (mkP fz xs S) (fun d _ ρ' H' => ∀ v, DR X.K H' ρ' d v → Q v H')) (hv : DVs X.K H xs vs) (hp : H p = none) :
    frzQ Q (.ref p) (upd H p (.lst vs)) := by
  have e : mkP fz xs = mkL fz (xs.map .p) := by
    unfold mkP mkL
    cases fz with
    | false => rfl
    | true => rw [toPs_map]; rfl
  rw [e] at h
  exact ansL ss h hv.drs hp
end
end DL

namespace DL
open PySem PySem.Spec L2
variable [Nfo]
/-! the operations that the hand layer has in part alone -/
section
variable {X : Cx}
theorem op_catL : OpR X (binaryOp .Add) (fun x y H Q => ∃ l b xs zs, x = .ref l ∧ y = .ref b ∧ SqL X.K H l xs ∧ SqL X.K H b zs ∧ xs.length + zs.length ≤ sizeLine ∧ ∀ p, H p = none → Q (.ref p) (upd H p (.lst (xs ++ zs)))) := by
  intro pins s σ H x y v u Q I rx ry h
  obtain ⟨l, b, xs, zs, rfl, rfl, hH, hB, hz, q⟩ := h
  cases rx
  cases ry
  obtain ⟨its, r, ⟨⟨cls, dd, data, sl⟩, n, e, ec, ed, es⟩, z⟩ := I.list hH
  obtain ⟨its2, r2, ⟨⟨cls2, dd2, data2, sl2⟩, n2, e2, ec2, ed2, es2⟩, z2⟩ := I.list hB
  simp only at ec ed es ec2 ed2 es2
  subst ec ed es ec2 ed2 es2
  have l1 := r.length
  have l2 := r2.length
  refine concat_meets ⟨_, e, rfl⟩ ⟨_, e2, rfl⟩ noFill_list_add seq_list_add PySem.F.slot_list_add PySem.F.entry_list_add (PySem.F.args_list_add_2 _ _)
    (PyProof.Rows.list_addW l b its.toArray its2.toArray n n2 none none sl sl2 (by rw [List.size_toArray, List.size_toArray]; omega)) ⟨e, e2, ?_⟩
  have ea : its.toArray ++ its2.toArray = (its ++ its2).toArray := by simp
  rw [ea]
  exact ⟨.ref _, _, I.lnew (t' := s.toks) (r.append r2) (by rw [List.length_append]; omega), rfl, q _ I.fresh⟩
theorem tuple_mulSame (l : Addr) (items : Array Value) (n : Nat) (dd : Option Addr) (sl : Array (Option Value)) (x : Int) (u : Tok) (c0 : (decide (x < -(2 ^ 63)) || decide (x ≥ 2 ^ 63)) = false) (c1 : (items.isEmpty || x == 1) = true) :
    Meets (Builtin.«tuple.__mul__» ⟨[.ref l, .int x u], []⟩) (fun _ R s => s.heap.get? l = some { cls := .type "tuple", dict := dd, data := .seq items n, slots := sl } ∧ R (.ok (.ret (Value.ref l))) { s with heap := s.heap, toks := s.toks }) :=
  .of_wp fun prog w A R s h => by
    obtain ⟨hp, g, d, tk, os⟩ := s
    obtain ⟨hl, h⟩ := h
    have f1 := AutoSeq1.idx_int
    wp_walk using wpAny_loadPart' hl
    repeat (first
      | (refine wpAny_ite_false (decide_eq_false (by rw [c0]; exact Bool.false_ne_true)) ?_; wp_walk using wpAny_loadPart' hl)
      | (refine wpAny_ite_true (decide_eq_true (by rw [c1])) ?_; wp_walk using wpAny_loadPart' hl))
    exact ⟨_, rfl, h⟩
theorem tuple_mulNone (l : Addr) (items : Array Value) (n : Nat) (dd : Option Addr) (sl : Array (Option Value)) (x : Int) (u : Tok) (c0 : (decide (x < -(2 ^ 63)) || decide (x ≥ 2 ^ 63)) = false) (c1 : (items.isEmpty || x == 1) = false) (c2 : (decide (x ≤ 0) || items.isEmpty) = true) :
    Meets (Builtin.«tuple.__mul__» ⟨[.ref l, .int x u], []⟩) (fun _ R s => s.heap.get? l = some { cls := .type "tuple", dict := dd, data := .seq items n, slots := sl } ∧ R (.ok (.ret (Value.ref s.heap.objs.size))) { s with heap := s.heap.push { cls := Value.type "tuple", data := Data.seq #[] }, toks := s.toks }) :=
  .of_wp fun prog w A R s h => by
    obtain ⟨hp, g, d, tk, os⟩ := s
    obtain ⟨hl, h⟩ := h
    have f1 := AutoSeq1.idx_int
    wp_walk using wpAny_loadPart' hl
    repeat (first
      | (refine wpAny_ite_false (decide_eq_false (by rw [c0]; exact Bool.false_ne_true)) ?_; wp_walk using wpAny_loadPart' hl)
      | (refine wpAny_ite_false (decide_eq_false (by rw [c1]; exact Bool.false_ne_true)) ?_; wp_walk using wpAny_loadPart' hl)
      | (refine wpAny_ite_true (decide_eq_true (by rw [c2])) ?_; wp_walk using wpAny_loadPart' hl))
    exact ⟨_, rfl, h⟩
def rRepA (K : PySem.W.Frag) : R2 := fun x y H Q => ∃ l k xs, x = .ref l ∧ y = .int k ∧ SqT K H l xs ∧ -1000 ≤ k ∧ k ≤ 1000 ∧ xs.length ≤ 1000 ∧
  (xs = [] ∨ k = 1 → Q (.ref l) H) ∧ (xs ≠ [] → k ≤ 0 → NewT Q H []) ∧
  (xs ≠ [] → 2 ≤ k → NewT Q H (List.replicate k.toNat xs).flatten)
theorem op_repN : OpR X (binaryOp .Mult) (rRepN X.K) := by
  intro pins s σ H x y v u Q I rx ry h
  obtain ⟨l, k, xs, rfl, rfl, tl, hne, h1, h2, hz, q⟩ := h
  cases rx
  obtain ⟨t, rfl⟩ := ry
  obtain ⟨its, r, ⟨⟨cls, dd, data, sl⟩, ho, hc, n, hd⟩, hs⟩ := I.tuple tl
  simp only at hc hd
  subst hc hd
  have le : its.length = xs.length := r.length.symm
  have ne : its ≠ [] := fun e => by
    rw [e] at le
    exact hne (List.eq_nil_of_length_eq_zero le.symm)
  have emp : its.toArray.isEmpty = false := by
    cases its with
    | nil => exact absurd rfl ne
    | cons a b => rfl
  have sz : its.toArray.size = xs.length := by rw [List.size_toArray, le]
  have prod : xs.length * k.toNat ≤ 1000 * 1000 := Nat.mul_le_mul hz (by omega)
  have prodI : ((xs.length : Nat) : Int) * k ≤ 1000000 := by
    have e : ((xs.length * k.toNat : Nat) : Int) = ((xs.length : Nat) : Int) * k := by
      rw [Int.natCast_mul, Int.toNat_of_nonneg (by omega)]
    omega
  have flat : (List.replicate k.toNat its).flatten.length ≤ sizeLine := by
    rw [PyProof.Rows.lm_len_rep_flat, le, sizeLine_eq, Nat.mul_comm]
    omega
  have c0 : (decide (k < -(2 ^ 63)) || decide (k ≥ 2 ^ 63)) = false := by
    rw [decide_eq_false (by omega), decide_eq_false (by omega)] <;> rfl
  have c1 : (its.toArray.isEmpty || k == 1) = false := by
    rw [emp, Bool.false_or, beq_eq_false_iff_ne]
    omega
  have c2 : (decide (k ≤ 0) || its.toArray.isEmpty) = false := by
    rw [emp, Bool.or_false, decide_eq_false_iff_not]
    omega
  have c4 : Builtin.Tuple.tupleTooMany (((its.toArray.size : Nat) : Int) * k) = false := by
    rw [sz]
    unfold Builtin.Tuple.tupleTooMany
    rw [sizeLine_eq, decide_eq_false_iff_not]
    omega
  have lim : ((its.toArray.size : Nat) : Int) * k ≤ 1000000 := by rw [sz]; exact prodI
  have mul := tuple_mulW l its.toArray n dd sl k t c0 c1 c2 (by omega) c4 (by rw [size_rep, List.size_toArray]; exact flat)
  refine wpAny_binaryOp_repeat_ref (T := "tuple") (U := "int") (by decide) ⟨_, ho, rfl⟩ (fun s' => typeIs_int s' k t) noFill_tuple_mul F.fills_int_mul F.slot_int_rmul repeat_tuple F.slot_int_index.lookup
    (call_meets F.slot_int_rmul (typeIs_int s k t) F.entry_int_rmul (F.args_int_rmul_2 _ _) (int_rmul_tuple k t l its.toArray n dd sl)
      ⟨ho, rfl, ⟨_, ho, rfl⟩, call_meets F.slot_tuple_mul ⟨_, ho, rfl⟩ F.entry_tuple_mul (F.args_tuple_mul_2 _ _) mul ⟨ho, ?_⟩⟩)
  rw [size_rep]
  exact laidT I (r.rep k.toNat) (by rw [PyProof.Rows.lm_len_rep_flat, sizeLine_eq, Nat.mul_comm]; omega) q
theorem op_repA : OpR X (binaryOp .Mult) (rRepA X.K) := by
  intro pins s σ H x y v u Q I rx ry h
  obtain ⟨l, k, xs, rfl, rfl, hT, h1, h2, hz, q1, q2, q3⟩ := h
  by_cases hne : xs ≠ [] ∧ 2 ≤ k
  · exact op_repN pins s σ H _ _ v u Q I rx ry ⟨l, k, xs, rfl, rfl, hT, hne.1, hne.2, h2, hz, q3 hne.1 hne.2⟩
  · cases rx
    obtain ⟨t, rfl⟩ := ry
    obtain ⟨its, r, ⟨⟨cls, dd, data, sl⟩, ho, hc, n, hd⟩, hs⟩ := I.tuple hT
    simp only at hc hd
    subst hc hd
    have hle : its.length = xs.length := r.length.symm
    have c0 : (decide (k < -(2 ^ 63)) || decide (k ≥ 2 ^ 63)) = false := by
      rw [decide_eq_false (by omega), decide_eq_false (by omega)] <;> rfl
    by_cases hs : xs = [] ∨ k = 1
    · have c1 : (its.toArray.isEmpty || k == 1) = true := by
        rcases hs with z | z
        · subst z
          cases r
          rfl
        · subst z
          rw [Bool.or_eq_true]
          exact .inr rfl
      refine wpAny_binaryOp_repeat_ref (T := "tuple") (U := "int") (by decide) ⟨_, ho, rfl⟩ (fun s' => typeIs_int s' k t) noFill_tuple_mul F.fills_int_mul F.slot_int_rmul repeat_tuple F.slot_int_index.lookup
        (call_meets F.slot_int_rmul (typeIs_int s k t) F.entry_int_rmul (F.args_int_rmul_2 _ _) (int_rmul_tuple k t l its.toArray n dd sl)
          ⟨ho, rfl, ⟨_, ho, rfl⟩, call_meets F.slot_tuple_mul ⟨_, ho, rfl⟩ F.entry_tuple_mul (F.args_tuple_mul_2 _ _) (tuple_mulSame l its.toArray n dd sl k t c0 c1) ⟨ho, ?_⟩⟩)
      exact ⟨.ref l, H, I, rfl, q1 hs⟩
    · have hx : xs ≠ [] := fun z => hs (.inl z)
      have hk : k ≤ 0 := by
        by_cases h2 : 2 ≤ k
        · exact absurd ⟨hx, h2⟩ hne
        · have : k ≠ 1 := fun z => hs (.inr z)
          omega
      have hi : its.toArray.isEmpty = false := by
        cases its with
        | nil => cases r; exact absurd rfl hx
        | cons a b => rfl
      have c1 : (its.toArray.isEmpty || k == 1) = false := by
        rw [hi, Bool.false_or]
        exact beq_eq_false_iff_ne.mpr (by omega)
      have c2 : (decide (k ≤ 0) || its.toArray.isEmpty) = true := by
        rw [decide_eq_true hk] <;> rfl
      refine wpAny_binaryOp_repeat_ref (T := "tuple") (U := "int") (by decide) ⟨_, ho, rfl⟩ (fun s' => typeIs_int s' k t) noFill_tuple_mul F.fills_int_mul F.slot_int_rmul repeat_tuple F.slot_int_index.lookup
        (call_meets F.slot_int_rmul (typeIs_int s k t) F.entry_int_rmul (F.args_int_rmul_2 _ _) (int_rmul_tuple k t l its.toArray n dd sl)
          ⟨ho, rfl, ⟨_, ho, rfl⟩, call_meets F.slot_tuple_mul ⟨_, ho, rfl⟩ F.entry_tuple_mul (F.args_tuple_mul_2 _ _) (tuple_mulNone l its.toArray n dd sl k t c0 c1 c2) ⟨ho, ?_⟩⟩)
      exact laidT I .nil (Nat.zero_le _) (q2 hx hk)
end
end DL
namespace DL
open PySem PySem.Spec L2
variable [Nfo]
section
variable {X : Cx}
theorem list_mulW (l : Addr) (items : Array Value) (n : Nat) (dd : Option Addr) (sl : Array (Option Value)) (x : Int) (u : Tok) (hc0 : ¬(!Builtin.List.listFitsIndex x) = true) (hc1 : ¬items.size * x.toNat > (2 ^ 63 - 1) / 8) (hc2 : ¬Builtin.List.listTooLong (items.size * x.toNat) = true) :
    Meets (Builtin.«list.__mul__» ⟨[.ref l, .int x u], []⟩) (fun _ R s => s.heap.get? l = some { cls := .type "list", dict := dd, data := .seq items n, slots := sl } ∧ R (.ok (.ret (Value.ref s.heap.objs.size))) { s with heap := s.heap.push { cls := Value.type "list", data := Data.seq (List.foldl (fun x1 x2 => x1 ++ x2) #[] (List.replicate (if items.isEmpty = true then 0 else x.toNat) items)) }, toks := s.toks }) :=
  .of_wp fun prog w A R s h => by
    obtain ⟨hp, g, d, tk, os⟩ := s; obtain ⟨hl, h⟩ := h
    have hsz := AutoListH.joined_fits hc2
    have f1 := AutoSeq1.idx_int
    wp_walk using wpAny_loadPart' hl
    refine wpAny_ite_false (decide_eq_false (Nat.not_lt.mpr hsz)) ?_
    wp_walk using wpAny_loadPart' hl
    exact ⟨_, rfl, h⟩
theorem int_rmul_listW (a : Int) (t : Tok) (l : Addr) (items : Array Value) (n : Nat) (dd : Option Addr) (sl : Array (Option Value)) :
    Meets (Builtin.«int.__rmul__» ⟨[.int a t, .ref l], []⟩) (fun _ R s => s.heap.get? l = some { cls := .type "list", dict := dd, data := .seq items n, slots := sl } ∧ R (.ok (.ret Value.notImplemented)) s) :=
  .of_wp fun prog w A R s h => by obtain ⟨hp, g, d, tk, os⟩ := s; obtain ⟨hl, h⟩ := h; wp_walk using wpAny_loadPart' hl; exact ⟨_, rfl, h⟩
theorem op_repL : OpR X (binaryOp .Mult) (fun x y H Q => ∃ l k xs, x = .ref l ∧ y = .int k ∧ SqL X.K H l xs ∧ -1000 ≤ k ∧ k ≤ 1000 ∧ xs.length ≤ 1000 ∧ ∀ p, H p = none → Q (.ref p) (upd H p (.lst (List.replicate k.toNat xs).flatten))) := by
  intro pins s σ H x y v u Q I rx ry h
  obtain ⟨l, k, xs, rfl, rfl, hH, h1, h2, hz, q⟩ := h
  cases rx
  obtain ⟨t, rfl⟩ := ry
  obtain ⟨its, r, ⟨⟨cls, dd, data, sl⟩, n, e, ec, ed, es⟩, z⟩ := I.list hH
  simp only at ec ed es
  subst ec ed es
  have hl := r.length
  have hm : xs.length * k.toNat ≤ 1000 * 1000 := Nat.mul_le_mul hz (by omega)
  have hlen : its.toArray.size * k.toNat ≤ sizeLine := by rw [List.size_toArray, ← hl, sizeLine_eq]; omega
  have hcap : ¬ its.toArray.size * k.toNat > (2 ^ 63 - 1) / 8 := by
    have : (sizeLine : Nat) ≤ (2 ^ 63 - 1) / 8 := by decide
    omega
  have hfit : ¬ (!Builtin.List.listFitsIndex k) = true := by
    rw [fitsIndex_both (by omega) (by omega)]
    exact Bool.false_ne_true
  have hlong : ¬ Builtin.List.listTooLong (its.toArray.size * k.toNat) = true := by
    rw [notLongL hlen]
    exact Bool.false_ne_true
  have hnew : List.foldl (fun x1 x2 => x1 ++ x2) #[] (List.replicate (if its.toArray.isEmpty = true then 0 else k.toNat) its.toArray) = (List.replicate k.toNat its).flatten.toArray := by
    have f0 : ∀ m : Nat, List.foldl (fun x1 x2 => x1 ++ x2) #[] (List.replicate m its.toArray) = (List.replicate m its).flatten.toArray := fun m => by
      have := foldl_rep its m []
      rw [List.nil_append] at this
      exact this
    rw [f0]
    cases its with
    | nil => simp
    | cons a r' => rw [if_neg (by simp)]
  refine wpAny_binaryOp_repeat_ref (T := "list") (U := "int") (by decide) ⟨_, e, rfl⟩ (fun s' => typeIs_int s' k t) noFill_list_mul F.fills_int_mul F.slot_int_rmul repeat_list F.slot_int_index.lookup
    (call_meets F.slot_int_rmul (typeIs_int s k t) F.entry_int_rmul (F.args_int_rmul_2 _ _) (int_rmul_listW k t l its.toArray n none sl)
      ⟨e, rfl, ⟨_, e, rfl⟩, call_meets F.slot_list_mul ⟨_, e, rfl⟩ F.entry_list_mul (F.args_list_mul_2 _ _) (list_mulW l its.toArray n none sl k t hfit hcap hlong) ⟨e, ?_⟩⟩)
  rw [hnew]
  exact ⟨.ref _, _, I.lnew (t' := s.toks) (r.rep k.toNat) (by rw [PyProof.Rows.lm_len_rep_flat, Nat.mul_comm, sizeLine_eq]; omega), rfl, q _ I.fresh⟩
theorem txt_mul {x : Str} {k : Int} (h : 0 ≤ k) : Txt.mul x k = ⟨(List.replicate k.toNat x.cps.toList).flatten.toArray⟩ := by
  have f0 : ∀ m : Nat, (List.replicate m x.cps).foldl (· ++ ·) #[] = (List.replicate m x.cps.toList).flatten.toArray := fun m => by
    have g : ∀ (m : Nat) (acc : Array Nat), (List.replicate m x.cps).foldl (· ++ ·) acc = acc ++ (List.replicate m x.cps.toList).flatten.toArray := fun m => by
      induction m with
      | zero => intro acc; simp
      | succ m ih =>
        intro acc
        rw [List.replicate_succ, List.foldl_cons, ih, List.replicate_succ, List.flatten_cons]
        apply Array.ext'
        simp
    rw [g]
    simp
  unfold Txt.mul
  by_cases h1 : k < 1
  · rw [if_pos h1]
    have : k.toNat = 0 := by omega
    rw [this]
    rfl
  · rw [if_neg h1]
    by_cases h2 : (k == 1 || x.length == 0) = true
    · rw [if_pos h2]
      rw [Bool.or_eq_true] at h2
      rcases h2 with h2 | h2
      · have e : k = 1 := by simpa using h2
        subst e
        show x = ⟨(x.cps.toList ++ []).toArray⟩
        simp
      · have e : x.cps.size = 0 := by
          have h3 : x.length = 0 := by simpa using h2
          exact h3
        have e2 : x.cps = #[] := Array.size_eq_zero_iff.mp e
        have e3 : ∀ m : Nat, (List.replicate m ([] : List Nat)).flatten = [] := fun m => by induction m with
          | zero => rfl
          | succ m ih => rw [List.replicate_succ, List.flatten_cons, ih]; rfl
        cases x with
        | mk cps =>
          simp only at e2
          subst e2
          rw [show (#[] : Array Nat).toList = [] from rfl, e3]
    · rw [if_neg h2, f0]
theorem op_mulS : OpR X (binaryOp .Mult) (fun x y H Q => ∃ z k, x = .str z ∧ y = .int k ∧ z.length ≤ 1000 ∧ 0 ≤ k ∧ k ≤ 1000 ∧ Q (.str ⟨(List.replicate k.toNat z.cps.toList).flatten.toArray⟩) H) := by
  intro pins s σ H x y v u Q I rx ry h
  obtain ⟨z, k, rfl, rfl, hz, h0, h1, q⟩ := h
  obtain ⟨t, rfl⟩ := rx
  obtain ⟨t', rfl⟩ := ry
  refine PySem.SB.mul ⟨?_, fun a1 a2 => ?_, fun a1 a2 => ?_⟩ fun tt k' => ?_
  · rw [decide_eq_false (by omega), decide_eq_false (by omega)] <;> rfl
  · intro z2
    have hk : (2 ^ 63 - 1 : Int) / k ≥ (2 ^ 63 - 1) / 1000 := by
      have : (0 : Int) < k := by omega
      rw [ge_iff_le, Int.le_ediv_iff_mul_le this]
      have e : (2 ^ 63 - 1 : Int) / 1000 * k ≤ (2 ^ 63 - 1 : Int) / 1000 * 1000 := Int.mul_le_mul_of_nonneg_left h1 (by decide)
      omega
    omega
  · have hm : z.length * k.toNat ≤ 1000 * 1000 := Nat.mul_le_mul hz (by omega)
    exact decide_eq_false (by rw [sizeLine_eq]; omega)
  · rw [txt_mul h0]
    exact ⟨.str _, H, I.tok _, ⟨_, rfl⟩, q⟩
end
end DL

namespace DL
open PySem PySem.Spec L2
variable [Nfo]
section
variable {X : Cx} {W : WX} {a b c : Expr} {ra rb rc : E} {pos : Pos}

/-! ## two-place operations on data -/
theorem g_op {op : Operator} {r : R2} {f : PyData → PyData → M D} (ho : OpR X (binaryOp op) r) (ha : GE X W a ra) (hb : GE X W b rb)
    (h : ∀ (x y : PyData) (S : Sto) (ρ : List Addr) (H2 : Hp) (v u : V) (Q : VK) (Wx : XW), SimS X.K H2 ρ S → Vw X.K H2 x v → Vw X.K H2 y u →
      Post X.K X.mg Wx S ρ H2 (f x y S) (fun d _ ρ' H' => ∀ v, DR X.K H' ρ' d v → Q v H') → r v u H2 Q) : GE X W (.BinOp a op b pos) (e2 f ra rb) :=
  PE.imp (pe_op ho ha hb) fun σ H Q q => two_see q fun x y S ρ H2 v u ss hv hu p => h x y S ρ H2 v u Q _ ss hv hu p
theorem g_opF {op : Operator} {r : R2} {f : PyData → PyData → M D} (ho : OpR X (binaryOp op) r) (ha : GE X W a ra) (hb : GE X W b rb)
    (h : ∀ (x y : PyData) (S : Sto) (ρ : List Addr) (H2 : Hp) (v u : V) (Q : VK) (Wx : XW), SimS X.K H2 ρ S → Vw X.K H2 x v → Vw X.K H2 y u →
      Post X.K X.mg Wx S ρ H2 (f x y S) (fun d _ ρ' H' => ∀ v, DR X.K H' ρ' d v → Q v H') → r v u H2 (frzQ Q)) : GE X W (.BinOp a op b pos) (e2 f ra rb) :=
  PE.imp (pe_frz (pe_op ho ha hb)) fun σ H Q q => two_seeF q fun x y S ρ H2 v u ss hv hu p => h x y S ρ H2 v u Q _ ss hv hu p
/-- a comparison by what both sides read as -/
structure CmpG (X : Cx) (op : CmpOp) (f : PyData → PyData → M D) : Prop where
  ex : ∃ r : R2, OpR X (compareOp op) r ∧ ∀ (x y : PyData) (S : Sto) (ρ : List Addr) (H2 : Hp) (v u : V) (Q : VK) (Wx : XW), SimS X.K H2 ρ S → Vw X.K H2 x v → Vw X.K H2 y u →
      Post X.K X.mg Wx S ρ H2 (f x y S) (fun d _ ρ' H' => ∀ v, DR X.K H' ρ' d v → Q v H') → r v u H2 Q
theorem g_cmp {op : CmpOp} {f : PyData → PyData → M D} (c : CmpG X op f) (ha : GE X W a ra) (hb : GE X W b rb) (hm : behindInMarks op b = false) : GE X W (.Compare a [op] [b] pos) (e2 f ra rb) := by
  obtain ⟨r, ho, h⟩ := c.ex
  exact PE.imp (pe_cmpR ho ha hb hm) fun σ H Q q => two_see q fun x y S ρ H2 v u ss hv hu p => h x y S ρ H2 v u Q _ ss hv hu p
/-- a test, from a value of True, False -/
theorem rT_val {re : E} {σ : L2.St} {H : Hp} {Q : Bool → Hp → Prop} (h : rT X.K X.mg W (tVal re) σ H Q) : rE X.K X.mg W re σ H fun x H' => ∃ k, x = .bl k ∧ Q k H' := by
  obtain ⟨env, S, ρ, se, ss, h⟩ := h
  refine ⟨env, S, ρ, se, ss, (Post.bnd h).imp fun d S1 ρ1 H1 _ x1 s1 h1 v rv => ?_⟩
  cases d with
  | p x =>
    cases x with
    | bool k =>
      cases rv with
      | p rv =>
        cases rv
        exact ⟨k, rfl, h1 H1 ρ1 Ext.refl s1⟩
    | _ => exact h1.elim
  | _ => exact h1.elim
theorem gt_cmp {op : CmpOp} {f : PyData → PyData → M D} (c : CmpG X op f) (ha : GE X W a ra) (hb : GE X W b rb) (hm : behindInMarks op b = false) : GT X W (.Compare a [op] [b] pos) (tVal (e2 f ra rb)) := by
  obtain ⟨r, ho, h⟩ := c.ex
  exact PT.imp (pt_cmpR ho ha hb hm) fun σ H Q q => two_see (rT_val q) fun x y S ρ H2 v u ss hv hu p => h x y S ρ H2 v u _ _ ss hv hu p
theorem gt_val (ha : GE X W a ra) (he : ∀ whole, isTrue a X.env whole = (do let v ← whole; standAt a.pos; holding [v] (truthy v)) := by intro _; rfl) : GT X W a (tVal ra) := PT.imp (pt_val ha he) fun σ H Q q => rT_val q
theorem postIf {α : Type} {c : Prop} [Decidable c] {m : M α} {K : PySem.W.Frag} {mg : Str → Option Value} {Wx : XW} {S : Sto} {ρ : List Addr} {H : Hp} {k : α → Sto → List Addr → Hp → Prop} (h : Post K mg Wx S ρ H ((if c then m else no) S) k) : c ∧ Post K mg Wx S ρ H (m S) k := by
  by_cases hc : c
  · rw [if_pos hc] at h; exact ⟨hc, h⟩
  · rw [if_neg hc] at h; exact h.elim
theorem postOpt {α : Type} {o : Option α} {K : PySem.W.Frag} {mg : Str → Option Value} {Wx : XW} {S : Sto} {ρ : List Addr} {H : Hp} {k : α → Sto → List Addr → Hp → Prop} (h : Post K mg Wx S ρ H (opt o S) k) : ∃ a, o = some a ∧ Post K mg Wx S ρ H (DL.ret a S) k := by
  cases o with
  | none => exact h.elim
  | some a => exact ⟨a, rfl, h⟩
/-- a way that isn't one -/
theorem noWay {α : Type} {K : PySem.W.Frag} {mg : Str → Option Value} {Wx : XW} {S : Sto} {ρ : List Addr} {H : Hp} {k : α → Sto → List Addr → Hp → Prop} {p : Prop} (h : Post K mg Wx S ρ H R.no k) : p := h.elim
theorem op_mulG : OpR X (binaryOp .Mult) (rI (fun i j => mulOk i j = true) fun i j => .int (i * j)) := opI fun i j _ _ _ _ _ hc q => PyProof.Rows.mul_int q (by
  have b : ∀ x : Int, Builtin.Int.intBits x ≤ x.natAbs.log2 + 1 := fun x => by
    unfold Builtin.Int.intBits
    split <;> omega
  have h1 := b i
  have h2 := b j
  have e : bitsLine = 134217728 := by decide
  unfold mulOk at hc
  have small : ∀ x : Int, x.natAbs < 2 → x.natAbs.log2 = 0 := fun x hx => by
    have : x.natAbs = 0 ∨ x.natAbs = 1 := by omega
    rcases this with z | z <;> rw [z] <;> decide
  simp only [Bool.or_eq_true, decide_eq_true_eq] at hc
  rcases hc with (hc | hc) | hc
  · unfold IntMulOk
    intro z
    rw [Bool.and_eq_true] at z
    have z2 := z.2
    unfold Builtin.Int.intTooBig at z2
    have z3 := of_decide_eq_true z2
    rw [e] at z3
    omega
  · exact .of_right (by have := small j hc; omega)
  · exact .of_left (by have := small i hc; omega))
theorem g_add (fz : Bool) (ha : GE X W a ra) (hb : GE X W b rb) : GE X W (.BinOp a .Add b pos) (e2 (fAdd fz) ra rb) := by
  refine g_opF (((op_add.or op_add_str).or op_catN).or op_catL) ha hb fun x y S ρ H2 v u Q Wx ss hv hu p => ?_
  cases x with
  | int i =>
    cases y with
    | int j => exact .inl (.inl (.inl ⟨i, j, hv.int, hu.int, (.inr (ans ss p (.int _)))⟩))
    | _ => exact p.elim
  | str i =>
    cases y with
    | str j =>
      obtain ⟨hl, p⟩ := postIf (c := i.length + j.length ≤ big) p
      exact .inl (.inl (.inr ⟨i, j, hv.str, hu.str, by rw [← big_line]; exact hl, (.inr (ans ss p (.str _)))⟩))
    | _ => exact p.elim
  | tuple xs =>
    cases y with
    | tuple ys =>
      obtain ⟨hl, p⟩ := postIf (c := xs.length + ys.length ≤ big) p
      obtain ⟨t, vs, rfl, h1, r1⟩ := hv.tupleN
      obtain ⟨t', us, rfl, h2, r2⟩ := hu.tupleN
      have e1 := r1.length
      have e2 := r2.length
      refine .inl (.inr ⟨t, t', vs, us, rfl, rfl, h1.sq, h2.sq, by rw [← big_line]; omega, fun z => ?_, fun _ z => ?_, fun _ _ => ansTF ss p (r1.append r2)⟩)
      · subst z
        cases r1
        exact .inr (p _ _ Ext.refl ss _ (.p (.tup h2 r2)))
      · subst z
        cases r2
        rw [List.append_nil] at p
        exact .inr (p _ _ Ext.refl ss _ (.p (.tup h1 r1)))
    | _ => exact p.elim
  | list xs =>
    cases y with
    | list ys =>
      obtain ⟨hl, p⟩ := postIf (c := xs.length + ys.length ≤ big) p
      obtain ⟨t, vs, rfl, h1, r1⟩ := hv.list
      obtain ⟨t', us, rfl, h2, r2⟩ := hu.list
      have e1 := r1.length
      have e2 := r2.length
      exact .inr ⟨t, t', vs, us, rfl, rfl, h1, h2, by rw [← big_line]; omega, fun q hq => ansP ss p (r1.append r2) hq⟩
    | _ => exact p.elim
  | _ => exact p.elim
theorem g_sub (ha : GE X W a ra) (hb : GE X W b rb) : GE X W (.BinOp a .Sub b pos) (e2 fSub ra rb) := by
  refine g_op op_sub ha hb fun x y S ρ H2 v u Q Wx ss hv hu p => ?_
  cases x with
  | int i =>
    cases y with
    | int j => exact ⟨i, j, hv.int, hu.int, ans ss p (.int _)⟩
    | _ => exact p.elim
  | _ => exact p.elim
theorem g_div (ha : GE X W a ra) (hb : GE X W b rb) : GE X W (.BinOp a .FloorDiv b pos) (e2 fDiv ra rb) := by
  refine g_op op_fdivW ha hb fun x y S ρ H2 v u Q Wx ss hv hu p => ?_
  cases x with
  | int i =>
    cases y with
    | int j =>
      obtain ⟨hl, p⟩ := postIf (c := 0 < j ∧ j.natAbs.log2 < 9000) p
      exact ⟨i, j, hv.int, hu.int, hl, ans ss p (.int _)⟩
    | _ => exact p.elim
  | _ => exact p.elim
theorem g_mod (ha : GE X W a ra) (hb : GE X W b rb) : GE X W (.BinOp a .Mod b pos) (e2 fMod ra rb) := by
  refine g_op op_mod ha hb fun x y S ρ H2 v u Q Wx ss hv hu p => ?_
  cases x with
  | int i =>
    cases y with
    | int j =>
      obtain ⟨hl, p⟩ := postIf (c := 0 < j) p
      exact ⟨i, j, hv.int, hu.int, hl, ans ss p (.int _)⟩
    | _ => exact p.elim
  | _ => exact p.elim
theorem g_pow (ha : GE X W a ra) (hb : GE X W b rb) : GE X W (.BinOp a .Pow b pos) (e2 fPow ra rb) := by
  refine g_op op_pow ha hb fun x y S ρ H2 v u Q Wx ss hv hu p => ?_
  cases x with
  | int i =>
    cases y with
    | int j =>
      obtain ⟨hl, p⟩ := postIf (c := 0 ≤ j ∧ j ≤ 1000000 ∧ i.natAbs < 2 ^ 64) p
      exact ⟨i, j, hv.int, hu.int, hl, ans ss p (.int _)⟩
    | _ => exact p.elim
  | _ => exact p.elim
theorem g_shr (ha : GE X W a ra) (hb : GE X W b rb) : GE X W (.BinOp a .RShift b pos) (e2 fShr ra rb) := by
  refine g_op op_shr ha hb fun x y S ρ H2 v u Q Wx ss hv hu p => ?_
  cases x with
  | int i =>
    cases y with
    | int j =>
      obtain ⟨hl, p⟩ := postIf (c := 0 ≤ j) p
      exact ⟨i, j, hv.int, hu.int, hl, ans ss p (.int _)⟩
    | _ => exact p.elim
  | _ => exact p.elim
theorem cmp_int {f : Int → Int → Bool} {x y : PyData} {S : Sto} {ρ : List Addr} {H2 : Hp} {v u : V} {Q : VK} {Wx : XW} (ss : SimS X.K H2 ρ S) (hv : Vw X.K H2 x v) (hu : Vw X.K H2 y u)
    (p : Post X.K X.mg Wx S ρ H2 (fCmp f x y S) (fun d _ ρ' H' => ∀ v, DR X.K H' ρ' d v → Q v H')) : rI0 (fun i j => .bl (f i j)) v u H2 Q := by
  cases x with
  | int i =>
    cases y with
    | int j => exact ⟨i, j, hv.int, hu.int, ans ss p (.bl _)⟩
    | _ => exact p.elim
  | _ => exact p.elim
theorem cg_lt : CmpG X .Lt (fCmp fun i j => decide (i < j)) := ⟨_, op_lt, fun x y S ρ H2 v u Q Wx ss hv hu p => cmp_int ss hv hu p⟩
theorem cg_le : CmpG X .LtE (fCmp fun i j => decide (i ≤ j)) := ⟨_, op_le, fun x y S ρ H2 v u Q Wx ss hv hu p => cmp_int ss hv hu p⟩
theorem cg_gt : CmpG X .Gt (fCmp fun i j => decide (j < i)) := ⟨_, op_gt, fun x y S ρ H2 v u Q Wx ss hv hu p => cmp_int ss hv hu p⟩
theorem cg_ge : CmpG X .GtE (fCmp fun i j => decide (j ≤ i)) := ⟨_, op_ge, fun x y S ρ H2 v u Q Wx ss hv hu p => cmp_int ss hv hu p⟩
/-! ### == -/
theorem scal_of {x y : PyData} {v u : V} {K : PySem.W.Frag} {H : Hp} (h : scalP x y = true) (hv : Vw K H x v) (hu : Vw K H y u) : scal v u = true ∧ decide (v = u) = PyData.eqv x y := by
  cases x with
  | none =>
    have e := hv.non
    subst e
    cases y with
    | none => have e := hu.non; subst e; exact ⟨rfl, by simp [PyData.eqv]⟩
    | bool j => have e := hu.bl; subst e; exact ⟨rfl, by simp [PyData.eqv]⟩
    | int j => have e := hu.int; subst e; exact ⟨rfl, by simp [PyData.eqv]⟩
    | str j => have e := hu.str; subst e; exact ⟨rfl, by simp [PyData.eqv]⟩
    | _ => cases h
  | bool i =>
    have e := hv.bl
    subst e
    cases y with
    | none => have e := hu.non; subst e; exact ⟨rfl, by simp [PyData.eqv]⟩
    | bool j => have e := hu.bl; subst e; exact ⟨rfl, by rw [dec_bl]; simp [PyData.eqv]⟩
    | str j => have e := hu.str; subst e; exact ⟨rfl, by simp [PyData.eqv]⟩
    | _ => cases h
  | int i =>
    have e := hv.int
    subst e
    cases y with
    | none => have e := hu.non; subst e; exact ⟨rfl, by simp [PyData.eqv]⟩
    | int j => have e := hu.int; subst e; exact ⟨rfl, by rw [dec_int]; simp [PyData.eqv]⟩
    | str j => have e := hu.str; subst e; exact ⟨rfl, by simp [PyData.eqv]⟩
    | _ => cases h
  | str i =>
    have e := hv.str
    subst e
    cases y with
    | none => have e := hu.non; subst e; exact ⟨rfl, by simp [PyData.eqv]⟩
    | bool j => have e := hu.bl; subst e; exact ⟨rfl, by simp [PyData.eqv]⟩
    | int j => have e := hu.int; subst e; exact ⟨rfl, by simp [PyData.eqv]⟩
    | str j => have e := hu.str; subst e; exact ⟨rfl, by rw [dec_str]; simp [PyData.eqv]⟩
    | _ => cases h
  | _ => cases y <;> cases h
theorem cg_eq (hu : X.A.units + 64 < cLine) : CmpG X .Eq fEq := by
  refine ⟨_, op_eq.or (op_eqD hu), fun x y S ρ H2 v u Q Wx ss hv hw p => ?_⟩
  unfold fEq at p
  by_cases hc : cmpOk x y = true
  · rw [if_pos hc] at p
    have q := ans ss p (.bl _)
    unfold cmpOk at hc
    rw [Bool.or_eq_true, Bool.and_eq_true] at hc
    rcases hc with hc | ⟨h1, h2⟩
    · obtain ⟨e1, e2⟩ := scal_of hc hv hw
      exact .inl ⟨e1, by rw [e2]; exact q⟩
    · exact .inr ⟨x, y, hv.dp (nod_shaped h1), hw.dp (nod_shaped h2), h1, h2, q⟩
  · rw [if_neg hc] at p; exact p.elim
theorem cg_ne (hu : X.A.units + 64 < cLine) : CmpG X .NotEq fNe := by
  refine ⟨_, op_ne.or (op_neD hu), fun x y S ρ H2 v u Q Wx ss hv hw p => ?_⟩
  unfold fNe at p
  by_cases hc : cmpOk x y = true
  · rw [if_pos hc] at p
    have q := ans ss p (.bl _)
    unfold cmpOk at hc
    rw [Bool.or_eq_true, Bool.and_eq_true] at hc
    rcases hc with hc | ⟨h1, h2⟩
    · obtain ⟨e1, e2⟩ := scal_of hc hv hw
      exact .inl ⟨e1, by rw [e2]; exact q⟩
    · exact .inr ⟨x, y, hv.dp (nod_shaped h1), hw.dp (nod_shaped h2), h1, h2, q⟩
  · rw [if_neg hc] at p; exact p.elim
theorem DVs.flat {K : PySem.W.Frag} {H : Hp} {xs : List PyData} {vs : List V} (h : DVs K H xs vs) : ∀ k : Nat, DVs K H (List.replicate k xs).flatten (List.replicate k vs).flatten
  | 0 => .nil
  | k + 1 => by
    rw [List.replicate_succ, List.replicate_succ, List.flatten_cons, List.flatten_cons]
    exact h.append (DVs.flat h k)
theorem g_mul (fz : Bool) (ha : GE X W a ra) (hb : GE X W b rb) : GE X W (.BinOp a .Mult b pos) (e2 (fMul fz) ra rb) := by
  refine g_opF (((op_mulG.or op_repA).or op_repL).or op_mulS) ha hb fun x y S ρ H2 v u Q Wx ss hv hu p => ?_
  cases x with
  | int i =>
    cases y with
    | int j =>
      obtain ⟨hl, p⟩ := postIf (c := mulOk i j = true) p
      exact .inl (.inl (.inl ⟨i, j, hv.int, hu.int, hl, (.inr (ans ss p (.int _)))⟩))
    | _ => exact p.elim
  | tuple xs =>
    cases y with
    | int k =>
      obtain ⟨⟨l1, l2, l3⟩, p⟩ := postIf (c := xs.length ≤ 1000 ∧ k ≤ 1000 ∧ -1000 ≤ k) p
      obtain ⟨t, vs, rfl, h1, r1⟩ := hv.tupleN
      have e1 := r1.length
      refine .inl (.inl (.inr ⟨t, k, vs, rfl, hu.int, h1.sq, l3, l2, by omega, fun z => ?_, fun z z2 => ?_, fun _ _ => ansTF ss p (r1.flat _)⟩))
      · have e : (List.replicate k.toNat xs).flatten = xs := by
          rcases z with z | z
          · subst z
            cases r1
            simp
          · subst z
            simp
        rw [e] at p
        exact .inr (p _ _ Ext.refl ss _ (.p (.tup h1 r1)))
      · have e : k.toNat = 0 := by omega
        rw [e] at p
        exact ansTF (vs := []) ss p .nil
    | _ => exact p.elim
  | list xs =>
    cases y with
    | int k =>
      obtain ⟨⟨l1, l2, l3⟩, p⟩ := postIf (c := xs.length ≤ 1000 ∧ k ≤ 1000 ∧ -1000 ≤ k) p
      obtain ⟨t, vs, rfl, h1, r1⟩ := hv.list
      have e1 := r1.length
      exact .inl (.inr ⟨t, k, vs, rfl, hu.int, h1, l3, l2, by omega, fun q hq => ansP ss p (r1.flat _) hq⟩)
    | _ => exact p.elim
  | str z =>
    cases y with
    | int k =>
      obtain ⟨⟨l1, l2, l3⟩, p⟩ := postIf (c := z.length ≤ 1000 ∧ 0 ≤ k ∧ k ≤ 1000) p
      exact .inr ⟨z, k, hv.str, hu.int, l1, l2, l3, (.inr (ans ss p (.str _)))⟩
    | _ => exact p.elim
  | _ => cases y <;> exact p.elim
/-- -a -/
theorem g_neg (ha : GE X W a ra) : GE X W (.UnaryOp .USub a pos) (e1 fNeg ra) := by
  refine PE.imp (pe_un un_neg ha) fun σ H Q q => one_see q fun x S ρ H2 v ss hv p => ?_
  cases x with
  | int i => exact ⟨i, hv.int, ans ss p (.int _)⟩
  | _ => exact p.elim
end
end DL

namespace DL
open PySem PySem.Spec L2
variable [Nfo]
section
variable {X : Cx} {W : WX} {a b c : Expr} {es : List Expr} {ra rb rc : E} {ta tb : T} {rs : As} {pos : Pos}

/-! ## argument lists, displays -/
theorem ga_nil : GA X W [] aNil := by
  refine PA.imp pa_nil fun σ H Q q => ?_
  obtain ⟨env, S, ρ, se, ss, h⟩ := q
  exact h H ρ Ext.refl ss [] .nil
theorem ga_cons (ha : GE X W a ra) (hr : GA X W es rs) (hs : starEach (a :: es) X.env = (false, eval a X.env) :: starEach es X.env := by rfl) : GA X W (a :: es) (aCons ra rs) := by
  refine PA.imp (pa_cons ha hr hs) fun σ H Q q => ?_
  obtain ⟨env, S, ρ, se, ss, h⟩ := q
  refine ⟨env, S, ρ, se, ss, (Post.bnd h).imp fun d S1 ρ1 H1 _ x1 s1 h1 v rv => ?_⟩
  refine ⟨env, S1, ρ1, se.mono x1.st x1.pre, s1, (Post.bnd h1).imp fun ds S2 ρ2 H2 _ x2 s2 h2 vs rvs => ?_⟩
  exact h2 H2 ρ2 Ext.refl s2 (v :: vs) (.cons (rv.mono x2.st x2.pre) rvs)
theorem g_tup {k : Nat} (ha : GA X W es rs) (hl : es.length ≤ 1000 := by decide) : GE X W (.Tuple es k pos) (eTupN es.length rs) := by
  refine PE.imp (pe_tupN ha) fun σ H Q q => ?_
  obtain ⟨env, S, ρ, se, ss, h⟩ := q
  refine ⟨env, S, ρ, se, ss, (Post.bnd h).imp fun ds S1 ρ1 H1 _ x1 s1 h1 vs rv => ?_⟩
  obtain ⟨hc, h1⟩ := postIf (c := ds.length = es.length) h1
  have e := rv.length
  refine ⟨by rw [← e, hc, sizeLine_eq]; omega, fun o p od hp => ?_⟩
  obtain ⟨s2, x2⟩ := s1.lay (o := .frz o (.tup vs)) hp
  exact h1 _ ρ1 x2 s2 _ (mkTup_dr (SqN.of od) (rv.mono x2.st x2.pre))
theorem g_lst (fz : Bool) (ha : GA X W es rs) (hl : es.length ≤ 1000 := by decide) : GE X W (.List es pos) (eLstN fz es.length rs) := by
  refine PE.imp (pe_frz (pe_lst ha)) fun σ H Q q => ?_
  obtain ⟨env, S, ρ, se, ss, h⟩ := q
  refine ⟨env, S, ρ, se, ss, (Post.bnd h).imp fun ds S1 ρ1 H1 _ x1 s1 h1 vs rv => ?_⟩
  obtain ⟨hc, h1⟩ := postIf (c := ds.length = es.length) h1
  have e := rv.length
  exact ⟨by rw [← e, hc, sizeLine_eq]; omega, fun p hp => ansL s1 h1 rv hp⟩

/-! ## tests -/
theorem gt_and (ha : GT X W a ta) (hb : PW X (.BoolOp .And (b :: es) pos) (rT X.K X.mg W tb)) : PW X (.BoolOp .And (a :: b :: es) pos) (rT X.K X.mg W (DL.tAnd ta tb)) := by
  refine PW.imp (pw_and ha hb) fun σ H Q q => ?_
  obtain ⟨env, S, ρ, se, ss, h⟩ := q
  refine ⟨env, S, ρ, se, ss, (Post.bnd h).imp fun k S1 ρ1 H1 _ x1 s1 h1 => ?_⟩
  cases k with
  | true => exact ⟨env, S1, ρ1, se.mono x1.st x1.pre, s1, h1⟩
  | false => exact h1 H1 ρ1 Ext.refl s1
theorem gt_and1 (ha : GT X W a ta) : PW X (.BoolOp .And [a] pos) (rT X.K X.mg W ta) := pw_and1 ha
theorem gt_or (ha : GT X W a ta) (hb : PW X (.BoolOp .Or (b :: es) pos) (rT X.K X.mg W tb)) : PW X (.BoolOp .Or (a :: b :: es) pos) (rT X.K X.mg W (DL.tOr ta tb)) := by
  refine PW.imp (pw_or ha hb) fun σ H Q q => ?_
  obtain ⟨env, S, ρ, se, ss, h⟩ := q
  refine ⟨env, S, ρ, se, ss, (Post.bnd h).imp fun k S1 ρ1 H1 _ x1 s1 h1 => ?_⟩
  cases k with
  | false => exact ⟨env, S1, ρ1, se.mono x1.st x1.pre, s1, h1⟩
  | true => exact h1 H1 ρ1 Ext.refl s1
theorem gt_or1 (ha : GT X W a ta) : PW X (.BoolOp .Or [a] pos) (rT X.K X.mg W ta) := pw_or1 ha
theorem gt_pw {e : Expr} (h : PW X e (rT X.K X.mg W ta)) : GT X W e ta := h.pt
theorem gt_not (ha : GT X W a ta) : GT X W (.UnaryOp .Not a pos) (DL.tNot ta) := by
  refine PT.imp (pt_not ha) fun σ H Q q => ?_
  obtain ⟨env, S, ρ, se, ss, h⟩ := q
  refine ⟨env, S, ρ, se, ss, (Post.bnd h).imp fun k S1 ρ1 H1 _ x1 s1 h1 => h1 H1 ρ1 Ext.refl s1⟩
/-! ## and, or, not, if as values -/
theorem boolOf {d : D} {v : V} {H : Hp} {ρ : List Addr} {k : Bool} (e : d = .p (.bool k)) (r : DR X.K H ρ d v) : v = .bl k := by
  subst e
  cases r with
  | p r => cases r; rfl
theorem g_and (ha : GE X W a ra) (hb : GE X W (.BoolOp .And (b :: es) pos) rb) : GE X W (.BoolOp .And (a :: b :: es) pos) (eAnd ra rb) := by
  refine PE.imp (pe_and ha hb) fun σ H Q q => ?_
  obtain ⟨env, S, ρ, se, ss, h⟩ := q
  refine ⟨env, S, ρ, se, ss, (Post.bnd h).imp fun d S1 ρ1 H1 _ x1 s1 h1 v rv => ?_⟩
  cases d with
  | p x =>
    cases x with
    | bool k =>
      refine ⟨k, boolOf rfl rv, ?_⟩
      cases k with
      | true => exact ⟨env, S1, ρ1, se.mono x1.st x1.pre, s1, h1⟩
      | false => exact h1 H1 ρ1 Ext.refl s1 _ (.p (.bl false))
    | _ => exact h1.elim
  | _ => exact h1.elim
theorem g_or (ha : GE X W a ra) (hb : GE X W (.BoolOp .Or (b :: es) pos) rb) : GE X W (.BoolOp .Or (a :: b :: es) pos) (eOr ra rb) := by
  refine PE.imp (pe_or ha hb) fun σ H Q q => ?_
  obtain ⟨env, S, ρ, se, ss, h⟩ := q
  refine ⟨env, S, ρ, se, ss, (Post.bnd h).imp fun d S1 ρ1 H1 _ x1 s1 h1 v rv => ?_⟩
  cases d with
  | p x =>
    cases x with
    | bool k =>
      refine ⟨k, boolOf rfl rv, ?_⟩
      cases k with
      | false => exact ⟨env, S1, ρ1, se.mono x1.st x1.pre, s1, h1⟩
      | true => exact h1 H1 ρ1 Ext.refl s1 _ (.p (.bl true))
    | _ => exact h1.elim
  | _ => exact h1.elim
theorem g_one {op : BoolOp} (ha : GE X W a ra) : GE X W (.BoolOp op [a] pos) ra := pe_one ha
theorem g_not (ha : GE X W a ra) : GE X W (.UnaryOp .Not a pos) (eNot ra) := by
  refine PE.imp (pe_not ha) fun σ H Q q => ?_
  obtain ⟨env, S, ρ, se, ss, h⟩ := q
  refine ⟨env, S, ρ, se, ss, (Post.bnd h).imp fun d S1 ρ1 H1 _ x1 s1 h1 v rv => ?_⟩
  cases d with
  | p x =>
    cases x with
    | bool k => exact ⟨k, boolOf rfl rv, h1 H1 ρ1 Ext.refl s1 _ (.p (.bl (!k)))⟩
    | _ => exact h1.elim
  | _ => exact h1.elim
theorem g_ifE (hc : GT X W c ta) (ha : GE X W a ra) (hb : GE X W b rb) : GE X W (.IfExp c a b pos) (eIf ta ra rb) := by
  refine PE.imp (pe_ifExp hc ha hb) fun σ H Q q => ?_
  obtain ⟨env, S, ρ, se, ss, h⟩ := q
  refine ⟨env, S, ρ, se, ss, (Post.bnd h).imp fun k S1 ρ1 H1 _ x1 s1 h1 => ?_⟩
  cases k with
  | true => exact ⟨env, S1, ρ1, se.mono x1.st x1.pre, s1, h1⟩
  | false => exact ⟨env, S1, ρ1, se.mono x1.st x1.pre, s1, h1⟩
/-- a op b op' c -/
theorem chain_ok {f f' : PyData → PyData → M D} {r r' : R2}
    (k1 : ∀ (x y : PyData) (S : Sto) (ρ : List Addr) (H2 : Hp) (v u : V) (Q : VK) (Wx : XW), SimS X.K H2 ρ S → Vw X.K H2 x v → Vw X.K H2 y u → Post X.K X.mg Wx S ρ H2 (f x y S) (fun d _ ρ' H' => ∀ v, DR X.K H' ρ' d v → Q v H') → r v u H2 Q)
    (k2 : ∀ (x y : PyData) (S : Sto) (ρ : List Addr) (H2 : Hp) (v u : V) (Q : VK) (Wx : XW), SimS X.K H2 ρ S → Vw X.K H2 x v → Vw X.K H2 y u → Post X.K X.mg Wx S ρ H2 (f' x y S) (fun d _ ρ' H' => ∀ v, DR X.K H' ρ' d v → Q v H') → r' v u H2 Q)
    {σ : L2.St} {H : Hp} {Q : VK} (q : rE X.K X.mg W (eChain f f' ra rb rc) σ H Q) : tChain r r' (rE X.K X.mg W ra) (rE X.K X.mg W rb) (rE X.K X.mg W rc) σ H Q := by
  obtain ⟨env, S, ρ, se, ss, h⟩ := q
  refine ⟨env, S, ρ, se, ss, (Post.bnd h).imp fun d S1 ρ1 H1 _ x1 s1 h1 v rv => ?_⟩
  refine ⟨env, S1, ρ1, se.mono x1.st x1.pre, s1, (Post.bnd h1).imp fun e S2 ρ2 H2 _ x2 s2 h2 u ru => ?_⟩
  replace rv := rv.mono x2.st x2.pre
  unfold bnd see at h2
  cases q1 : view S2 d with
  | none => rw [q1] at h2; exact h2.elim
  | some x =>
    cases q2 : view S2 e with
    | none => simp only [q1, q2] at h2; exact h2.elim
    | some y =>
      simp only [q1, q2] at h2
      refine k1 x y S2 ρ2 H2 v u _ _ s2 (view_dp s2 rv q1) (view_dp s2 ru q2) ((Post.bnd (m := f x y) h2).imp fun d3 S3 ρ3 H3 _ x3 s3 h3 v3 rv3 => ?_)
      cases d3 with
      | p z =>
        cases z with
        | bool k =>
          refine ⟨k, boolOf rfl rv3, ?_⟩
          cases k with
          | false => exact h3 H3 ρ3 Ext.refl s3 _ (.p (.bl false))
          | true =>
            refine ⟨env, S3, ρ3, (se.mono x1.st x1.pre).mono (x2.trans x3).st (x2.trans x3).pre, s3, (Post.bnd h3).imp fun e4 S4 ρ4 H4 _ x4 s4 h4 w rw4 => ?_⟩
            replace ru := ru.mono (x3.trans x4).st (x3.trans x4).pre
            try unfold bnd at h4
            try unfold see at h4
            cases q3 : view S4 e with
            | none => rw [q3] at h4; exact h4.elim
            | some y' =>
              cases q4 : view S4 e4 with
              | none => simp only [q3, q4] at h4; exact h4.elim
              | some z' =>
                simp only [q3, q4] at h4
                exact k2 y' z' S4 ρ4 H4 u w Q _ s4 (view_dp s4 ru q3) (view_dp s4 rw4 q4) h4
        | _ => exact h3.elim
      | _ => exact h3.elim
theorem g_chain {op op' : CmpOp} {f f' : PyData → PyData → M D} (h1 : CmpG X op f) (h2 : CmpG X op' f') (ha : GE X W a ra) (hb : GE X W b rb) (hc : GE X W c rc) (hm : lastMarks [op, op'] [b, c] = false := by with_unfolding_all rfl) :
    GE X W (.Compare a [op, op'] [b, c] pos) (eChain f f' ra rb rc) := by
  obtain ⟨r, ho, k1⟩ := h1.ex
  obtain ⟨r', ho', k2⟩ := h2.ex
  exact PE.imp (pe_chain ho ho' ha hb hc hm) fun σ H Q q => chain_ok k1 k2 q
theorem gt_chain {op op' : CmpOp} {f f' : PyData → PyData → M D} (h1 : CmpG X op f) (h2 : CmpG X op' f') (ha : GE X W a ra) (hb : GE X W b rb) (hc : GE X W c rc) (hm : lastMarks [op, op'] [b, c] = false := by with_unfolding_all rfl) :
    GT X W (.Compare a [op, op'] [b, c] pos) (tVal (eChain f f' ra rb rc)) := by
  obtain ⟨r, ho, k1⟩ := h1.ex
  obtain ⟨r', ho', k2⟩ := h2.ex
  exact PT.imp (pt_chain ho ho' ha hb hc hm) fun σ H Q q => chain_ok k1 k2 (rT_val q)
end
end DL

namespace DL
open PySem PySem.Spec L2
variable [Nfo]
/-! ## sum of a tuple -/
section
variable {prog : Program} {w : World} {A : Around} {E : Value → Shared → Prop} {s : Shared}
theorem sum_tupleG {l : Addr} {xs : Array (Int × Tok)} {Q : Value → Shared → Prop} (hh : A.handled = none) (hl : s.heap.IsTuple l (intItems xs))
    (h : ∀ h' tk t', (∀ b o, s.heap.get? b = some o → h'.get? b = some o) → Q (.int (preSum (numAt xs) xs.size) t') { s with heap := h', toks := tk }) :
    wpAny (model prog w) A (call (.builtin "sum") [.ref l]) Q E s := by
  have hlt : l < s.heap.objs.size := by obtain ⟨_, e, _⟩ := hl; exact Heap.lt_size e
  refine call_sum_walkG (wpAny_pyIter_tuple hl ?_)
  refine ⟨_, [_, l], [_], _, _, _, numAt xs, rfl, Walks.tuple (A := A.in1) hh _ l (Nat.ne_of_lt hlt) (intItems xs), ⟨⟨_, Heap.get?_push_size _ rfl, rfl, rfl⟩, hl.push _⟩, fun c hc => ?_, (fun _ _ => intItems_at), fun h' tk t' hk => ?_⟩
  · show c < (s.heap.push _).objs.size
    rw [Heap.size_push]
    rcases List.mem_cons.mp hc with rfl | hc
    · exact Nat.lt_succ_self _
    · rcases List.mem_cons.mp hc with rfl | hc
      · exact Nat.lt_succ_of_lt hlt
      · cases hc
  · have := h h' tk t' (fun b o e => by
      refine hk b o (fun hm => ?_) (Heap.get?_push_of_some _ e)
      rcases List.mem_cons.mp hm with e1 | hm
      · exact absurd (e1 ▸ Heap.lt_size e) (Nat.lt_irrefl _)
      · cases hm)
    simpa [intItems] using this
end
section
variable {X : Cx} {W : WX} {a b c : Expr} {es : List Expr} {ra rb rc : E} {ta tb : T} {rs : As} {p pos : Pos} {x : Str}

theorem call_sumT (hc : X.calm = true) : CallR X (.builtin "sum") (fun vs H Q => ∃ (a : Addr) (ns : List Int), vs = [V.ref a] ∧ SqT X.K H a (ns.map V.int) ∧ Q (.int ns.sum) H) := by
  intro pins s σ H vs us Q I r h
  obtain ⟨a, ns, rfl, hs, q⟩ := h
  obtain ⟨u, rfl, hu⟩ := vals1 r
  cases hu
  obtain ⟨its, rv, ht, hz⟩ := I.tuple hs
  have hi : PyProof.Rows.IntsAre its ns := by
    clear hs q ht hz
    induction ns generalizing its with
    | nil => cases rv; exact .nil
    | cons n ns ih =>
      cases rv with
      | cons r1 r2 =>
        obtain ⟨t, rfl⟩ := r1
        exact .cons n t (ih _ r2)
  obtain ⟨xs, e⟩ := hi.allInts.items
  have hn : numsOf (intItems xs).toList = ns := by rw [← e]; exact hi.numsOf
  rw [nums_intItems] at hn
  rw [e] at ht
  refine sum_tupleG (I.ok.hd hc) ht fun h' tk t' hk => ?_
  rw [preSum_eq, List.take_of_length_le (by simp), hn]
  exact ⟨.int _, H, I.kept hk, ⟨_, rfl⟩, q⟩

/-! ## calls of built-ins -/
theorem g_call1 {id : String} {r : List V → Hp → VK → Prop} {f : PyData → M D} (hc : CallR X (.builtin id) r) (hg : Gl X x) (hm : X.mg x = none) (hv : bootBuiltins x = some (.builtin id)) (ha : GE X W a ra)
    (h : ∀ (d : PyData) (S : Sto) (ρ : List Addr) (H2 : Hp) (v : V) (Q : VK) (Wx : XW), SimS X.K H2 ρ S → Vw X.K H2 d v → Post X.K X.mg Wx S ρ H2 (f d S) (fun d _ ρ' H' => ∀ v, DR X.K H' ρ' d v → Q v H') → r [v] H2 Q)
    (hn : x ≠ "__name__" := by decide) (hdb : (x == ("__debug__" : Str)) = false := by decide) (he : starEach (a :: []) X.env = (false, eval a X.env) :: starEach [] X.env := by rfl) (hpl : (backTo pos (starEach [] X.env)).any (·.1) = false := by rfl) :
    GE X W (.Call (.Name x p) [a] [] pos) (e1 f ra) :=
  PE.imp (pe_callB hc hg hm hv (pa_cons ha pa_nil he) hn hdb he hpl) fun σ H Q q => one_see (r := fun v => r [v]) q fun d S ρ H2 v ss hv p => h d S ρ H2 v Q _ ss hv p
theorem g_call2 {id : String} {r : List V → Hp → VK → Prop} {f : PyData → PyData → M D} (hc : CallR X (.builtin id) r) (hg : Gl X x) (hm : X.mg x = none) (hv : bootBuiltins x = some (.builtin id)) (ha : GE X W a ra) (hb : GE X W b rb)
    (h : ∀ (d e : PyData) (S : Sto) (ρ : List Addr) (H2 : Hp) (v u : V) (Q : VK) (Wx : XW), SimS X.K H2 ρ S → Vw X.K H2 d v → Vw X.K H2 e u → Post X.K X.mg Wx S ρ H2 (f d e S) (fun d _ ρ' H' => ∀ v, DR X.K H' ρ' d v → Q v H') → r [v, u] H2 Q)
    (hn : x ≠ "__name__" := by decide) (hdb : (x == ("__debug__" : Str)) = false := by decide) (he : starEach (a :: [b]) X.env = (false, eval a X.env) :: starEach [b] X.env := by rfl) (he2 : starEach (b :: []) X.env = (false, eval b X.env) :: starEach [] X.env := by rfl) (hpl : (backTo pos (starEach [b] X.env)).any (·.1) = false := by rfl) :
    GE X W (.Call (.Name x p) [a, b] [] pos) (e2 f ra rb) :=
  PE.imp (pe_callB hc hg hm hv (pa_cons ha (pa_cons hb pa_nil he2) he) hn hdb he hpl) fun σ H Q q => two_see (r := fun v u => r [v, u]) q fun d e S ρ H2 v u ss hv hu p => h d e S ρ H2 v u Q _ ss hv hu p
theorem g_callT1 {id : String} {r : List V → Hp → VK → Prop} {f : PyData → M D} (hc : CallR X (.type id) r) (hg : Gl X x) (hm : X.mg x = none) (hv : bootBuiltins x = some (.type id)) (ha : GE X W a ra)
    (h : ∀ (d : PyData) (S : Sto) (ρ : List Addr) (H2 : Hp) (v : V) (Q : VK) (Wx : XW), SimS X.K H2 ρ S → Vw X.K H2 d v → Post X.K X.mg Wx S ρ H2 (f d S) (fun d _ ρ' H' => ∀ v, DR X.K H' ρ' d v → Q v H') → r [v] H2 Q)
    (hn : x ≠ "__name__" := by decide) (hdb : (x == ("__debug__" : Str)) = false := by decide) (he : starEach (a :: []) X.env = (false, eval a X.env) :: starEach [] X.env := by rfl) (hpl : (backTo pos (starEach [] X.env)).any (·.1) = false := by rfl) :
    GE X W (.Call (.Name x p) [a] [] pos) (e1 f ra) :=
  PE.imp (pe_callTy hc hg hm hv (pa_cons ha pa_nil he) hn hdb he hpl) fun σ H Q q => one_see (r := fun v => r [v]) q fun d S ρ H2 v ss hv p => h d S ρ H2 v Q _ ss hv p
theorem g_callT1D {id : String} {r : List V → Hp → VK → Prop} {f : D → M D} (hc : CallR X (.type id) r) (hg : Gl X x) (hm : X.mg x = none) (hv : bootBuiltins x = some (.type id)) (ha : GE X W a ra)
    (h : ∀ (d : D) (S : Sto) (ρ : List Addr) (H2 : Hp) (v : V) (Q : VK) (Wx : XW), SimS X.K H2 ρ S → DR X.K H2 ρ d v → Post X.K X.mg Wx S ρ H2 (f d S) (fun d _ ρ' H' => ∀ v, DR X.K H' ρ' d v → Q v H') → r [v] H2 Q)
    (hn : x ≠ "__name__" := by decide) (hdb : (x == ("__debug__" : Str)) = false := by decide) (he : starEach (a :: []) X.env = (false, eval a X.env) :: starEach [] X.env := by rfl) (hpl : (backTo pos (starEach [] X.env)).any (·.1) = false := by rfl) :
    GE X W (.Call (.Name x p) [a] [] pos) (fun env => bnd (ra env) f) :=
  PE.imp (pe_callTy hc hg hm hv (pa_cons ha pa_nil he) hn hdb he hpl) fun σ H Q q => one (r := fun v => r [v]) q fun d S ρ H2 v ss hv p => h d S ρ H2 v Q _ ss hv p

theorem g_callT1F {id : String} {r : List V → Hp → VK → Prop} {f : D → M D} (hc : CallR X (.type id) r) (hg : Gl X x) (hm : X.mg x = none) (hv : bootBuiltins x = some (.type id)) (ha : GE X W a ra)
    (h : ∀ (d : D) (S : Sto) (ρ : List Addr) (H2 : Hp) (v : V) (Q : VK) (Wx : XW), SimS X.K H2 ρ S → DR X.K H2 ρ d v → Post X.K X.mg Wx S ρ H2 (f d S) (fun d _ ρ' H' => ∀ v, DR X.K H' ρ' d v → Q v H') → r [v] H2 (frzQ Q))
    (hn : x ≠ "__name__" := by decide) (hdb : (x == ("__debug__" : Str)) = false := by decide) (he : starEach (a :: []) X.env = (false, eval a X.env) :: starEach [] X.env := by rfl) (hpl : (backTo pos (starEach [] X.env)).any (·.1) = false := by rfl) :
    GE X W (.Call (.Name x p) [a] [] pos) (fun env => bnd (ra env) f) :=
  PE.imp (pe_frz (pe_callTy hc hg hm hv (pa_cons ha pa_nil he) hn hdb he hpl)) fun σ H Q q => oneF (r := fun v => r [v]) q fun d S ρ H2 v ss hv p => h d S ρ H2 v Q _ ss hv p
theorem g_len (hg : Gl X "len" := by rfl) (hm : X.mg "len" = none) (ha : GE X W a ra) (he : starEach (a :: []) X.env = (false, eval a X.env) :: starEach [] X.env := by rfl) (hpl : (backTo pos (starEach [] X.env)).any (·.1) = false := by rfl) :
    GE X W (.Call (.Name "len" p) [a] [] pos) (e1 fLen ra) := by
  refine g_call1 call_len hg hm PySem.boot_len ha (fun d S ρ H2 v Q Wx ss hv q => ?_) (by decide) (by decide) he hpl
  cases d with
  | str z =>
    obtain ⟨hl, q⟩ := postIf (c := z.length ≤ big) q
    have e := hv.str
    subst e
    exact ⟨_, z.length, rfl, ⟨by rw [← big_line]; exact hl, rfl⟩, ans ss q (.int _)⟩
  | list xs =>
    obtain ⟨t, vs, rfl, h1, r1⟩ := hv.list
    exact ⟨_, xs.length, rfl, .inl ⟨vs, h1, r1.length⟩, ans ss q (.int _)⟩
  | tuple xs =>
    obtain ⟨t, vs, rfl, h1, r1⟩ := hv.tuple
    exact ⟨_, xs.length, rfl, .inr ⟨vs, h1, r1.length⟩, ans ss q (.int _)⟩
  | _ => exact q.elim
theorem bools_map {K : PySem.W.Frag} {H : Hp} : ∀ {xs : List PyData} {bs : List Bool} {vs : List V}, boolsOf xs = some bs → DVs K H xs vs → vs = bs.map V.bl
  | [], _, _, e, r => by
    cases e
    cases r
    rfl
  | .bool k :: xs, bs, _, e, r => by
    cases r with
    | cons h t =>
      replace e : (boolsOf xs).map (k :: ·) = some bs := e
      cases q : boolsOf xs with
      | none => rw [q] at e; cases e
      | some cs =>
        rw [q] at e
        cases e
        cases h
        rw [bools_map q t]
        rfl
  | .none :: _, _, _, e, _ => by cases e
  | .int _ :: _, _, _, e, _ => by cases e
  | .str _ :: _, _, _, e, _ => by cases e
  | .list _ :: _, _, _, e, _ => by cases e
  | .tuple _ :: _, _, _, e, _ => by cases e
  | .dict _ :: _, _, _, e, _ => by cases e
theorem ints_map {K : PySem.W.Frag} {H : Hp} : ∀ {xs : List PyData} {bs : List Int} {vs : List V}, intsOf xs = some bs → DVs K H xs vs → vs = bs.map V.int
  | [], _, _, e, r => by
    cases e
    cases r
    rfl
  | .int k :: xs, bs, _, e, r => by
    cases r with
    | cons h t =>
      replace e : (intsOf xs).map (k :: ·) = some bs := e
      cases q : intsOf xs with
      | none => rw [q] at e; cases e
      | some cs =>
        rw [q] at e
        cases e
        cases h
        rw [ints_map q t]
        rfl
  | .none :: _, _, _, e, _ => by cases e
  | .bool _ :: _, _, _, e, _ => by cases e
  | .str _ :: _, _, _, e, _ => by cases e
  | .list _ :: _, _, _, e, _ => by cases e
  | .tuple _ :: _, _, _, e, _ => by cases e
  | .dict _ :: _, _, _, e, _ => by cases e
theorem g_all (hc : X.calm = true) (hg : Gl X "all" := by rfl) (hm : X.mg "all" = none) (ha : GE X W a ra) (he : starEach (a :: []) X.env = (false, eval a X.env) :: starEach [] X.env := by rfl) (hpl : (backTo pos (starEach [] X.env)).any (·.1) = false := by rfl) :
    GE X W (.Call (.Name "all" p) [a] [] pos) (e1 fAll ra) := by
  refine g_call1 (cr_all hc) hg hm (by decide +kernel) ha (fun d S ρ H2 v Q Wx ss hv q => ?_) (by decide) (by decide) he hpl
  cases d with
  | list xs =>
    obtain ⟨z, e, q⟩ := postOpt (o := (boolsOf xs).map fun bs => D.p (.bool (bs.all id))) q
    obtain ⟨t, vs, rfl, h1, r1⟩ := hv.list
    cases e1 : boolsOf xs with
    | none => rw [e1] at e; cases e
    | some bs =>
      rw [e1] at e
      cases e
      have ev := bools_map e1 r1
      subst ev
      exact ⟨t, bs, rfl, h1, ans ss q (.bl _)⟩
  | _ => exact q.elim
theorem g_any (hc : X.calm = true) (hg : Gl X "any" := by rfl) (hm : X.mg "any" = none) (ha : GE X W a ra) (he : starEach (a :: []) X.env = (false, eval a X.env) :: starEach [] X.env := by rfl) (hpl : (backTo pos (starEach [] X.env)).any (·.1) = false := by rfl) :
    GE X W (.Call (.Name "any" p) [a] [] pos) (e1 fAny ra) := by
  refine g_call1 (cr_any hc) hg hm (by decide +kernel) ha (fun d S ρ H2 v Q Wx ss hv q => ?_) (by decide) (by decide) he hpl
  cases d with
  | list xs =>
    obtain ⟨z, e, q⟩ := postOpt (o := (boolsOf xs).map fun bs => D.p (.bool (bs.any id))) q
    obtain ⟨t, vs, rfl, h1, r1⟩ := hv.list
    cases e1 : boolsOf xs with
    | none => rw [e1] at e; cases e
    | some bs =>
      rw [e1] at e
      cases e
      have ev := bools_map e1 r1
      subst ev
      exact ⟨t, bs, rfl, h1, ans ss q (.bl _)⟩
  | _ => exact q.elim
theorem g_sum (hc : X.calm = true) (hg : Gl X "sum" := by rfl) (hm : X.mg "sum" = none) (ha : GE X W a ra) (he : starEach (a :: []) X.env = (false, eval a X.env) :: starEach [] X.env := by rfl) (hpl : (backTo pos (starEach [] X.env)).any (·.1) = false := by rfl) :
    GE X W (.Call (.Name "sum" p) [a] [] pos) (e1 fSum ra) := by
  refine g_call1 ((cr_sum hc).or (call_sumT hc)) hg hm (by decide +kernel) ha (fun d S ρ H2 v Q Wx ss hv q => ?_) (by decide) (by decide) he hpl
  cases d with
  | list xs =>
    obtain ⟨z, e, q⟩ := postOpt (o := (intsOf xs).map fun ns => D.p (.int ns.sum)) q
    obtain ⟨t, vs, rfl, h1, r1⟩ := hv.list
    cases e1 : intsOf xs with
    | none => rw [e1] at e; cases e
    | some bs =>
      rw [e1] at e
      cases e
      have ev := ints_map e1 r1
      subst ev
      exact .inl ⟨t, bs, rfl, h1, ans ss q (.int _)⟩
  | tuple xs =>
    obtain ⟨z, e, q⟩ := postOpt (o := (intsOf xs).map fun ns => D.p (.int ns.sum)) q
    obtain ⟨t, vs, rfl, h1, r1⟩ := hv.tuple
    cases e1 : intsOf xs with
    | none => rw [e1] at e; cases e
    | some bs =>
      rw [e1] at e
      cases e
      have ev := ints_map e1 r1
      subst ev
      exact .inr ⟨t, bs, rfl, h1, ans ss q (.int _)⟩
  | _ => exact q.elim
theorem g_max2 (hc : X.calm = true) (hg : Gl X "max" := by rfl) (hm : X.mg "max" = none) (ha : GE X W a ra) (hb : GE X W b rb) (he : starEach (a :: [b]) X.env = (false, eval a X.env) :: starEach [b] X.env := by rfl) (he2 : starEach (b :: []) X.env = (false, eval b X.env) :: starEach [] X.env := by rfl) (hpl : (backTo pos (starEach [b] X.env)).any (·.1) = false := by rfl) :
    GE X W (.Call (.Name "max" p) [a, b] [] pos) (e2 fMax2 ra rb) := by
  refine g_call2 (call_max2 hc) hg hm (by decide +kernel) ha hb (fun d e S ρ H2 v u Q Wx ss hv hu q => ?_) (by decide) (by decide) he he2 hpl
  cases d with
  | int i =>
    cases e with
    | int j =>
      have e1 := hv.int
      have e2 := hu.int
      subst e1 e2
      exact ⟨i, j, rfl, ans ss q (.int _)⟩
    | _ => exact q.elim
  | _ => exact q.elim
theorem g_min2 (hc : X.calm = true) (hg : Gl X "min" := by rfl) (hm : X.mg "min" = none) (ha : GE X W a ra) (hb : GE X W b rb) (he : starEach (a :: [b]) X.env = (false, eval a X.env) :: starEach [b] X.env := by rfl) (he2 : starEach (b :: []) X.env = (false, eval b X.env) :: starEach [] X.env := by rfl) (hpl : (backTo pos (starEach [b] X.env)).any (·.1) = false := by rfl) :
    GE X W (.Call (.Name "min" p) [a, b] [] pos) (e2 fMin2 ra rb) := by
  refine g_call2 (call_min2 hc) hg hm (by decide +kernel) ha hb (fun d e S ρ H2 v u Q Wx ss hv hu q => ?_) (by decide) (by decide) he he2 hpl
  cases d with
  | int i =>
    cases e with
    | int j =>
      have e1 := hv.int
      have e2 := hu.int
      subst e1 e2
      exact ⟨i, j, rfl, ans ss q (.int _)⟩
    | _ => exact q.elim
  | _ => exact q.elim
theorem g_int1 (hg : Gl X "int" := by rfl) (hm : X.mg "int" = none) (ha : GE X W a ra) (he : starEach (a :: []) X.env = (false, eval a X.env) :: starEach [] X.env := by rfl) (hpl : (backTo pos (starEach [] X.env)).any (·.1) = false := by rfl) :
    GE X W (.Call (.Name "int" p) [a] [] pos) (e1 fInt ra) := by
  refine g_callT1 call_int1 hg hm (by decide +kernel) ha (fun d S ρ H2 v Q Wx ss hv q => ?_) (by decide) (by decide) he hpl
  cases d with
  | int i =>
    have e := hv.int
    subst e
    exact .inl ⟨i, rfl, ans ss q (.int _)⟩
  | bool k =>
    have e := hv.bl
    subst e
    exact .inr ⟨k, rfl, ans ss q (.int _)⟩
  | _ => exact q.elim
/-- what a list or a tuple holds -/
theorem g_tuple1 (hg : Gl X "tuple" := by rfl) (hm : X.mg "tuple" = none) (ha : GE X W a ra) (he : starEach (a :: []) X.env = (false, eval a X.env) :: starEach [] X.env := by rfl) (hpl : (backTo pos (starEach [] X.env)).any (·.1) = false := by rfl) :
    GE X W (.Call (.Name "tuple" p) [a] [] pos) (eTuple ra) := by
  refine g_callT1D call_tupleN hg hm (by decide +kernel) ha (fun d S ρ H2 v Q Wx ss hv q => ?_) (by decide) (by decide) he hpl
  cases d with
  | exn _ => first | exact q.elim | exact h.elim | exact h1.elim | exact h2.elim | exact h3.elim | exact h4.elim | exact h5.elim | exact p.elim | cases h | cases q | cases e
  | p x =>
    cases hv with
    | p hv =>
      cases x with
      | list xs =>
        obtain ⟨t, vs, rfl, h1, r1⟩ := Vw.list (.inl hv)
        exact ⟨t, vs, rfl, .inl ⟨h1, ansT ss q r1⟩⟩
      | tuple xs =>
        obtain ⟨t, vs, rfl, h1, r1⟩ := Vw.tuple (.inl hv)
        exact ⟨t, vs, rfl, .inr ⟨h1, q _ _ Ext.refl ss _ (.p hv)⟩⟩
      | _ => exact q.elim
  | tup ds =>
    cases hv with
    | tup h1 h2 h3 => exact ⟨_, _, rfl, .inr ⟨h1.sq, q _ _ Ext.refl ss _ (.tup h1 h2 h3)⟩⟩
  | ref n =>
    cases hv with
    | ref e =>
      replace q : Post X.K X.mg Wx S ρ H2 (match S[n]? with | some (.lst ds) => R.ok (mkTup ds) S | _ => R.no) _ := q
      cases q1 : S[n]? with
      | none => rw [q1] at q; exact q.elim
      | some o =>
        rw [q1] at q
        cases o with
        | lst ds =>
          obtain ⟨vs, h1, r1⟩ := ss.ob n _ _ q1 e
          refine ⟨_, vs, rfl, .inl ⟨SqL.of h1, fun o l od hl => ?_⟩⟩
          obtain ⟨s2, x2⟩ := ss.lay (o := .frz o (.tup vs)) hl
          exact q _ ρ x2 s2 _ (mkTup_dr (SqN.of od) (r1.mono x2.st x2.pre))
        | _ => exact q.elim
theorem g_list1 (fz : Bool) (hg : Gl X "list" := by rfl) (hm : X.mg "list" = none) (ha : GE X W a ra) (he : starEach (a :: []) X.env = (false, eval a X.env) :: starEach [] X.env := by rfl) (hpl : (backTo pos (starEach [] X.env)).any (·.1) = false := by rfl) :
    GE X W (.Call (.Name "list" p) [a] [] pos) (eList fz ra) := by
  refine g_callT1F call_list_of hg hm (by decide +kernel) ha (fun d S ρ H2 v Q Wx ss hv q => ?_) (by decide) (by decide) he hpl
  cases d with
  | exn _ => first | exact q.elim | exact h.elim | exact h1.elim | exact h2.elim | exact h3.elim | exact h4.elim | exact h5.elim | exact p.elim | cases h | cases q | cases e
  | p x =>
    cases hv with
    | p hv =>
      cases x with
      | list xs =>
        obtain ⟨t, vs, rfl, h1, r1⟩ := Vw.list (.inl hv)
        exact ⟨t, vs, rfl, .inl h1, fun l hl => ansP ss q r1 hl⟩
      | tuple xs =>
        obtain ⟨t, vs, rfl, h1, r1⟩ := Vw.tuple (.inl hv)
        exact ⟨t, vs, rfl, .inr h1, fun l hl => ansP ss q r1 hl⟩
      | _ => exact q.elim
  | tup ds =>
    cases hv with
    | tup h1 h2 h3 => exact ⟨_, _, rfl, .inr h1.sq, fun l hl => ansL ss q (DRs.of_get h2 h3) hl⟩
  | ref n =>
    cases hv with
    | ref e =>
      replace q : Post X.K X.mg Wx S ρ H2 (match S[n]? with | some (.lst ds) => mkL fz ds S | _ => R.no) _ := q
      cases q1 : S[n]? with
      | none => rw [q1] at q; exact q.elim
      | some o =>
        rw [q1] at q
        cases o with
        | lst ds =>
          obtain ⟨vs, h1, r1⟩ := ss.ob n _ _ q1 e
          exact ⟨_, vs, rfl, .inl (SqL.of h1), fun l hl => ansL ss q r1 hl⟩
        | _ => exact q.elim
end
end DL

namespace DL
open PySem PySem.Spec L2
variable [Nfo]
section
variable {X : Cx} {W : WX} {a b c : Expr} {es : List Expr} {ra rb rc : E} {ta tb : T} {rs : As} {p pos : Pos} {x : Str}

/-! ## subscripts -/
theorem ixI_eq (n : Nat) (i : Int) : ixI n i = ixN n i := rfl
theorem cutI_eq (n d : Nat) (o : Option Int) : cutI n d o = HT.sIx n d o := by cases o <;> rfl
theorem DVs.atI {K : PySem.W.Frag} {H : Hp} {xs : List PyData} {vs : List V} {i : Int} {x : PyData} (h : DVs K H xs vs) (e : atL xs i = some x) : ∃ v, L2.atI vs i = some v ∧ DV K H x v := by
  unfold atL at e
  unfold L2.atI
  rw [← h.length, ← ixI_eq]
  cases q : ixI xs.length i with
  | none => rw [q] at e; cases e
  | some j =>
    rw [q] at e
    exact h.get e
theorem DRs.atI {K : PySem.W.Frag} {H : Hp} {ρ : List Addr} {xs : List D} {vs : List V} {i : Int} {x : D} (h : DRs K H ρ xs vs) (e : atL xs i = some x) : ∃ v, L2.atI vs i = some v ∧ DR K H ρ x v := by
  unfold atL at e
  unfold L2.atI
  rw [← h.length, ← ixI_eq]
  cases q : ixI xs.length i with
  | none => rw [q] at e; cases e
  | some j =>
    rw [q] at e
    exact h.get e
theorem paired_find {K : PySem.W.Frag} {H : Hp} {ρ : List Addr} : ∀ {kvs : List (PyData × D)} {ws : List (Key × V)} {k : Key}, Paired (fun (p : PyData × D) (q : Key × V) => keyOf p.1 = some q.1 ∧ DR K H ρ p.2 q.2) kvs ws →
    match dGet kvs k with
    | some d => ∃ v, valV ws k = some v ∧ DR K H ρ d v
    | none => valV ws k = none
  | _, _, k, .nil => rfl
  | (x, d) :: kvs, (q, v) :: ws, k, .cons h t => by
    have ih := paired_find (k := k) t
    unfold dGet valV at ih ⊢
    rw [List.find?_cons, List.find?_cons]
    by_cases hk : q = k
    · have e : keyOf x = some k := h.1.trans (by rw [hk])
      simp only [e, hk, decide_true]
      exact ⟨v, rfl, h.2⟩
    · have e : ¬ keyOf x = some k := fun z => hk (Option.some.inj (h.1.symm.trans z))
      simp only [e, hk, decide_false]
      exact ih
theorem keyV {K : PySem.W.Frag} {H : Hp} {x : PyData} {v : V} {k : Key} (e : keyOf x = some k) (h : DV K H x v) : v = kV k := by
  cases x with
  | int i => cases e; cases h; rfl
  | str s => cases e; cases h; rfl
  | _ => cases e
theorem ix_dict (hu : X.A.units + 1 < cLine) : IxR X (fun x y H Q => ∃ a v, x = .ref a ∧ DGet H a y (some v) ∧ Q v H) := by
  intro value slice pins s σ H x y v u Q I rx ry h hs
  obtain ⟨a, r, rfl, g, q⟩ := h
  obtain rfl : v = Value.ref a := rx
  exact PyProof.Rows.tail_any (dict_typeIs I g) PySem.F.slot_dict_getitem.lookup (d_getItem hu I g ry fun w' s3 I3 rw' => ⟨r, H, I3, rw', q⟩) hs
theorem ansD {S : Sto} {ρ : List Addr} {H : Hp} {Q : VK} {Wx : XW} {d : D} {v : V} (ss : SimS X.K H ρ S) (h : Post X.K X.mg Wx S ρ H (DL.ret d S) (fun d _ ρ' H' => ∀ v, DR X.K H' ρ' d v → Q v H')) (hv : DR X.K H ρ d v) : Q v H :=
  h H ρ Ext.refl ss v hv
theorem fIx_ok {d e : D} {S : Sto} {ρ : List Addr} {H : Hp} {v u : V} {Q : VK} {Wx : XW} (ss : SimS X.K H ρ S) (rv : DR X.K H ρ d v) (ru : DR X.K H ρ e u)
    (h : Post X.K X.mg Wx S ρ H (fIx d e S) (fun d _ ρ' H' => ∀ v, DR X.K H' ρ' d v → Q v H')) : rIx X.K v u H Q ∨ ∃ a w, v = .ref a ∧ DGet H a u (some w) ∧ Q w H := by
  cases e with
  | exn _ => cases d with
    | p x => cases x <;> exact h.elim
    | _ => exact h.elim
  | tup es => cases d with
    | p x => cases x <;> exact h.elim
    | _ => exact h.elim
  | ref m => cases d with
    | p x => cases x <;> exact h.elim
    | _ => exact h.elim
  | p k =>
    cases ru with
    | p ru =>
      cases d with
      | exn _ => first | exact q.elim | exact h.elim | exact h1.elim | exact h2.elim | exact h3.elim | exact h4.elim | exact h5.elim | exact p.elim | cases h | cases q | cases e
      | p x =>
        cases rv with
        | p rv =>
          cases x with
          | list xs =>
            cases k with
            | int i =>
              obtain ⟨z, e, h⟩ := postOpt (o := (atL xs i).map D.p) h
              cases q : atL xs i with
              | none => rw [q] at e; cases e
              | some y =>
                rw [q] at e; cases e
                obtain ⟨t, vs, rfl, h1, r1⟩ := Vw.list (.inl rv)
                obtain ⟨w, e2, rw2⟩ := r1.atI q
                cases ru
                exact .inl (.inl ⟨t, vs, i, w, rfl, rfl, h1, e2, ansD ss h (.p rw2)⟩)
            | _ => exact h.elim
          | tuple xs =>
            cases k with
            | int i =>
              obtain ⟨z, e, h⟩ := postOpt (o := (atL xs i).map D.p) h
              cases q : atL xs i with
              | none => rw [q] at e; cases e
              | some y =>
                rw [q] at e; cases e
                obtain ⟨t, vs, rfl, h1, r1⟩ := Vw.tuple (.inl rv)
                obtain ⟨w, e2, rw2⟩ := r1.atI q
                cases ru
                exact .inl (.inr (.inl ⟨t, vs, i, w, rfl, rfl, h1, e2, ansD ss h (.p rw2)⟩))
            | _ => exact h.elim
          | str z =>
            cases k with
            | int i =>
              obtain ⟨hl, h⟩ := postIf (c := z.length ≤ big) h
              obtain ⟨y, e, h⟩ := postOpt (o := (atL z.cps.toList i).map fun c => D.p (.str ⟨#[c]⟩)) h
              cases q : atL z.cps.toList i with
              | none => rw [q] at e; cases e
              | some y =>
                rw [q] at e; cases e
                cases rv
                cases ru
                exact .inl (.inr (.inr ⟨z, i, y, rfl, rfl, by rw [← big_line]; exact hl, q, ansD ss h (.p (.str _))⟩))
            | _ => exact h.elim
          | _ => exact h.elim
      | tup ds =>
        cases k with
        | int i =>
          obtain ⟨z, e, h⟩ := postOpt (o := atL ds i) h
          cases rv with
          | tup h1 h2 h3 =>
            obtain ⟨w, e2, rw2⟩ := (DRs.of_get h2 h3).atI e
            cases ru
            exact .inl (.inr (.inl ⟨_, _, i, w, rfl, rfl, h1.sq, e2, ansD ss h rw2⟩))
        | _ => exact h.elim
      | ref n =>
        cases rv with
        | ref e4 =>
          rename_i a'
          replace h : Post X.K X.mg Wx S ρ H (match S[n]? with | some (.lst ds) => (match k with | .int i => opt (atL ds i) S | _ => .no) | some (.dct kvs) => (match keyOf k with | some q => opt (dGet kvs q) S | none => .no) | _ => .no) _ := h
          cases e3 : S[n]? with
          | none => rw [e3] at h; exact h.elim
          | some o =>
            rw [e3] at h
            cases o with
            | gone => exact h.elim
            | lst ds =>
              cases k with
              | int i =>
                obtain ⟨z, e, h⟩ := postOpt (o := atL ds i) h
                obtain ⟨vs, h1, r1⟩ := ss.ob n _ _ e3 e4
                obtain ⟨w, e2, rw2⟩ := r1.atI e
                cases ru
                exact .inl (.inl ⟨_, _, i, w, rfl, rfl, SqL.of h1, e2, ansD ss h rw2⟩)
              | _ => exact h.elim
            | dct kvs =>
              replace h : Post X.K X.mg Wx S ρ H (match keyOf k with | some q => opt (dGet kvs q) S | none => .no) _ := h
              cases q1 : keyOf k with
              | none => rw [q1] at h; exact h.elim
              | some q =>
                rw [q1] at h
                obtain ⟨d, e5, h⟩ := postOpt (o := dGet kvs q) h
                obtain ⟨ws, hw, pr⟩ := ss.ob n _ _ e3 e4
                have f := paired_find (k := q) pr
                rw [e5] at f
                obtain ⟨w, e6, rw6⟩ := f
                have eu := keyV q1 ru
                subst eu
                exact .inr ⟨a', w, rfl, by rw [← e6]; exact DGet.k hw, ansD ss h rw6⟩
theorem g_ix (hu : X.A.units + 1 < cLine) (ha : GE X W a ra) (hb : GE X W b rb) (hs : PlainIx b := by intro _ _; rfl) : GE X W (.Subscript a b pos) (eIx ra rb) :=
  PE.imp (pe_ix (ix_seq.or (ix_dict hu)) ha hb hs) fun σ H Q q => two q fun d e S2 ρ2 H2 v u s2 rv ru h2 => fIx_ok s2 rv ru h2

/-! ## cuts -/
def GO (X : Cx) (W : WX) (e : Option Expr) (r : DL.O) : Prop := PO X e (fun σ H Q => ∃ env S ρ, SimE X.K H ρ env σ ∧ SimS X.K H ρ S ∧ Post X.K X.mg (fun c d H' => W c d σ H') S ρ H (r env S) fun o _ _ H' => Q o H')
theorem PO.imp {X : Cx} {e : Option Expr} {t t' : TO} (h : PO X e t) (f : ∀ σ H Q, t' σ H Q → t σ H Q) : PO X e t' := ⟨fun pins s σ H Q I q => h.run pins s σ H Q I (f σ H Q q)⟩
theorem go_none : GO X W none oNone := by
  refine PO.imp po_none fun σ H Q q => ?_
  obtain ⟨env, S, ρ, se, ss, h⟩ := q
  exact h H ρ Ext.refl ss
theorem go_some (ha : GE X W a ra) : GO X W (some a) (oSome ra) := by
  refine PO.imp (po_some ha) fun σ H Q q => ?_
  obtain ⟨env, S, ρ, se, ss, h⟩ := q
  refine ⟨env, S, ρ, se, ss, (Post.bnd h).imp fun d S1 ρ1 H1 _ x1 s1 h1 v rv => ?_⟩
  cases d with
  | p x =>
    cases x with
    | int i =>
      cases rv with
      | p rv => cases rv; exact ⟨i, rfl, h1 H1 ρ1 Ext.refl s1⟩
    | _ => exact h1.elim
  | _ => exact h1.elim
theorem cut_len {α : Type} (xs : List α) (lo hi : Option Int) (n : Nat) (h : n = xs.length) : cutL xs lo hi = (xs.drop (HT.sIx n 0 lo)).take (HT.sIx n n hi - HT.sIx n 0 lo) := by
  subst h
  unfold cutL
  rw [cutI_eq, cutI_eq]
theorem DVs.cut {K : PySem.W.Frag} {H : Hp} {xs : List PyData} {vs : List V} (h : DVs K H xs vs) (lo hi : Option Int) : DVs K H (cutL xs lo hi) (cutV vs lo hi) := by
  rw [cut_len xs lo hi vs.length h.length.symm]
  exact (h.drop _).take _
theorem g_cut (fz : Bool) {lo hi : Option Expr} {rl rh : DL.O} {p2 : Pos} (ha : GE X W a ra) (hl : GO X W lo rl) (hh : GO X W hi rh) : GE X W (.Subscript a (.Slice lo hi none p2) pos) (eCut fz ra rl rh) := by
  refine PE.imp (pe_frz (pe_slice (sl_list.or sl_tupN) ha hl hh)) fun σ H Q q => ?_
  obtain ⟨env, S, ρ, se, ss, h⟩ := q
  refine ⟨env, S, ρ, se, ss, (Post.bnd h).imp fun d S1 ρ1 H1 _ x1 s1 h1 v rv => ⟨env, S1, ρ1, se.mono x1.st x1.pre, s1, (Post.bnd h1).imp fun l S2 ρ2 H2 _ x2 s2 h2 => ⟨env, S2, ρ2, (se.mono x1.st x1.pre).mono x2.st x2.pre, s2, (Post.bnd h2).imp fun k S3 ρ3 H3 _ x3 s3 h3 => ?_⟩⟩⟩
  replace rv := rv.mono (x2.trans x3).st (x2.trans x3).pre
  unfold bnd see at h3
  cases q1 : view S3 d with
  | none => rw [q1] at h3; exact h3.elim
  | some x =>
    simp only [q1] at h3
    have hv := view_dp s3 rv q1
    cases x with
    | list xs =>
      obtain ⟨t, vs, rfl, e1, r1⟩ := Vw.list hv
      exact .inl ⟨t, vs, rfl, e1, fun p hp => ansP s3 h3 (r1.cut l k) hp⟩
    | tuple xs =>
      obtain ⟨t, vs, rfl, e1, r1⟩ := Vw.tupleN hv
      have len := r1.length
      refine .inr ⟨t, vs, rfl, e1.sq, fun z => ?_, fun z => ansTF s3 h3 (r1.cut l k)⟩
      have e : cutL xs l k = xs := by
        rw [cut_len xs l k vs.length len.symm, z.1, z.2, List.drop_zero, Nat.sub_zero, ← len, List.take_length]
      replace h3 : Post X.K X.mg _ S3 ρ3 H3 (DL.ret (D.p (.tuple (cutL xs l k))) S3) _ := h3
      rw [e] at h3
      exact .inr (ansD s3 h3 (.p (.tup e1 r1)))
    | _ => exact h3.elim
end
end DL

namespace DL
open PySem PySem.Spec L2
variable [Nfo]
section
variable {X : Cx} {W : WX} {a b c : Expr} {es : List Expr} {ra rb rc : E} {ta tb : T} {rs : As} {p pos : Pos} {x : Str}

/-! ## isinstance -/
def Kd.nm : Kd → String
  | .int => "int" | .bool => "bool" | .str => "str" | .tuple => "tuple" | .list => "list" | .dict => "dict"
/-- the type's name of what a value reads as -/
def tyNm : PyData → String
  | .none => "NoneType" | .bool _ => "bool" | .int _ => "int" | .str _ => "str" | .list _ => "list" | .tuple _ => "tuple" | .dict _ => "dict"
theorem kit_isK (K : PySem.W.Frag) (k : Kd) (x : PyData) : PySem.W.kitOne K (.type (tyNm x)) (.type k.nm) = some (isK k x) := by
  cases k <;> cases x <;> exact kit_ty (by simp only [tyNm, Kd.nm, isK]; decide +kernel)
theorem dv_ty {K : PySem.W.Frag} {H : Hp} {x : PyData} {v : V} (h : DV K H x v) : TyX K H v (.type (tyNm x)) := by
  cases h with
  | non => exact .base .non
  | bl b => exact .base (.bl b)
  | int i => exact .base (.int i)
  | str z => exact .base (.str z)
  | lst h t =>
    rcases h with ⟨o, h⟩ | ⟨o, its, n, hk, hc, _⟩
    · exact .base (.frz h)
    · exact .kList hk hc
  | tup h t =>
    obtain ⟨o, h, _⟩ := h
    exact .fTuple h
  | dct0 h => obtain ⟨o, h⟩ := h; exact .fDict h
theorem fIsK_ok {k : Kd} {d : D} {S : Sto} {ρ : List Addr} {H : Hp} {v : V} {Q : VK} {Wx : XW} (ss : SimS X.K H ρ S) (rv : DR X.K H ρ d v)
    (h : Post X.K X.mg Wx S ρ H (fIsK k d S) (fun d _ ρ' H' => ∀ v, DR X.K H' ρ' d v → Q v H')) : ∃ (t : Value) (q : Bool), TyX X.K H v t ∧ PySem.W.kitOne X.K t (.type k.nm) = some q ∧ Q (.bl q) H := by
  cases d with
  | exn _ => first | exact q.elim | exact h.elim | exact h1.elim | exact h2.elim | exact h3.elim | exact h4.elim | exact h5.elim | exact p.elim | cases h | cases q | cases e
  | p y =>
    cases rv with
    | p rv => exact ⟨_, _, dv_ty rv, kit_isK X.K k y, ans ss h (.bl _)⟩
  | tup ds =>
    cases rv with
    | tup h1 h2 h3 =>
      refine ⟨_, _, ?_, kit_isK X.K k (.tuple []), ans ss h (.bl _)⟩
      obtain ⟨o, h, _⟩ := h1
      exact .fTuple h
  | ref n =>
    cases rv with
    | ref e4 =>
      replace h : Post X.K X.mg Wx S ρ H (match S[n]? with | some (.lst _) => R.ok (D.p (.bool (isK k (.list [])))) S | some (.dct _) => R.ok (D.p (.bool (isK k (.dict [])))) S | _ => R.no) _ := h
      cases e3 : S[n]? with
      | none => rw [e3] at h; exact h.elim
      | some o =>
        rw [e3] at h
        have q := ss.ob n _ _ e3 e4
        cases o with
        | gone => exact h.elim
        | lst ds =>
          obtain ⟨vs, h1, _⟩ := q
          exact ⟨_, _, .base (.lst h1), kit_isK X.K k (.list []), ans ss h (.bl _)⟩
        | dct kvs =>
          obtain ⟨vs, h1, _⟩ := q
          exact ⟨_, _, .base (.dK h1), kit_isK X.K k (.dict []), ans ss h (.bl _)⟩
theorem g_isK (k : Kd) {y : Str} {py : Pos} (hg : Gl X "isinstance" := by rfl) (hm : X.mg "isinstance" = none) (hgy : Gl X y := by rfl) (hmy : X.mg y = none) (hvy : bootBuiltins y = some (.type k.nm)) (ha : GE X W a ra)
    (hny : y ≠ "__name__" := by decide) (hdy : (y == ("__debug__" : Str)) = false := by decide)
    (he : starEach (a :: [.Name y py]) X.env = (false, eval a X.env) :: starEach [.Name y py] X.env := by rfl) (hpl : (backTo pos (starEach [.Name y py] X.env)).any (·.1) = false := by rfl) :
    GE X W (.Call (.Name "isinstance" p) [a, .Name y py] [] pos) (eIsK k ra) := by
  have hb : PE X (.Name y py) (tC (.ty k.nm)) := pe_bltn hgy hmy hvy rfl hny hdy
  refine PE.imp (pe_callB call_isi hg hm (by decide +kernel) (pa_cons ha (pa_cons hb pa_nil) he) (by decide) (by decide) he hpl) fun σ H Q q => ?_
  refine one (f := fun d => fIsK k d) (r := fun v H Q => rIsi X.K [v, .ty k.nm] H Q) q fun d S ρ H2 v ss rv h => ?_
  obtain ⟨t, q, h1, h2, h3⟩ := fIsK_ok ss rv h
  exact ⟨v, .ty k.nm, t, .type k.nm, q, rfl, .ty _, h1, h2, h3⟩

/-! ## in -/
theorem op_inDct (hu : X.A.units + 1 < cLine) : OpR X (compareOp .In) (fun y x H Q => ∃ a o, x = .ref a ∧ DGet H a y o ∧ Q (.bl o.isSome) H) := by
  intro pins s σ H y x iv u Q I ry rx h
  obtain ⟨a, ov, rfl, g, q⟩ := h
  obtain rfl : u = Value.ref a := rx
  exact d_in hu I g ry fun s3 I3 => ⟨.bl ov.isSome, H, I3, rfl, q⟩
theorem op_notInDct (hu : X.A.units + 1 < cLine) : OpR X (compareOp .NotIn) (fun y x H Q => ∃ a o, x = .ref a ∧ DGet H a y o ∧ Q (.bl (!o.isSome)) H) := by
  intro pins s σ H y x iv u Q I ry rx h
  obtain ⟨a, ov, rfl, g, q⟩ := h
  obtain rfl : u = Value.ref a := rx
  exact d_notIn hu I g ry fun s3 I3 => ⟨.bl (!ov.isSome), H, I3, rfl, q⟩
theorem flat_of {K : PySem.W.Frag} {H : Hp} {x : PyData} {v : V} (f : flatP x = true) (h : Vw K H x v) : flatV v = true := by
  cases x with
  | none => rw [h.non]; rfl
  | bool i => rw [h.bl]; rfl
  | int i => rw [h.int]; rfl
  | str i => rw [h.str]; rfl
  | _ => cases f
theorem flats_of {K : PySem.W.Frag} {H : Hp} : ∀ {xs : List PyData} {vs : List V}, xs.all flatP = true → DVs K H xs vs → vs.all flatV = true
  | _, _, _, .nil => rfl
  | _, _, e, .cons h t => by
    rw [List.all_cons, Bool.and_eq_true] at e
    rw [List.all_cons, flat_of e.1 (.inl h), flats_of e.2 t]
    rfl
theorem eqV_of {K : PySem.W.Frag} {H : Hp} {x y : PyData} {v u : V} (f : flatP x = true) (g : flatP y = true) (hv : Vw K H x v) (hu : Vw K H y u) : eqV v u = PyData.eqv x y := by
  cases x with
  | none => rw [hv.non]; cases y with
    | none => rw [hu.non]; simp [eqV, PyData.eqv]
    | bool i => rw [hu.bl]; simp [eqV, PyData.eqv]
    | int i => rw [hu.int]; simp [eqV, PyData.eqv]
    | str i => rw [hu.str]; simp [eqV, PyData.eqv]
    | _ => cases g
  | bool i => rw [hv.bl]; cases y with
    | none => rw [hu.non]; simp [eqV, PyData.eqv]
    | bool i => rw [hu.bl]; simp [eqV, PyData.eqv]
    | int i => rw [hu.int]; simp [eqV, PyData.eqv]
    | str i => rw [hu.str]; simp [eqV, PyData.eqv]
    | _ => cases g
  | int i => rw [hv.int]; cases y with
    | none => rw [hu.non]; simp [eqV, PyData.eqv]
    | bool i => rw [hu.bl]; simp [eqV, PyData.eqv]
    | int i => rw [hu.int]; simp [eqV, PyData.eqv]
    | str i => rw [hu.str]; simp [eqV, PyData.eqv]
    | _ => cases g
  | str i => rw [hv.str]; cases y with
    | none => rw [hu.non]; simp [eqV, PyData.eqv]
    | bool i => rw [hu.bl]; simp [eqV, PyData.eqv]
    | int i => rw [hu.int]; simp [eqV, PyData.eqv]
    | str i => rw [hu.str]; simp [eqV, PyData.eqv]
    | _ => cases g
  | _ => cases f
theorem inV_of {K : PySem.W.Frag} {H : Hp} {x : PyData} {v : V} (f : flatP x = true) (hv : Vw K H x v) : ∀ {ys : List PyData} {us : List V}, ys.all flatP = true → DVs K H ys us → inV v us = ys.any fun z => PyData.eqv z x
  | _, _, _, .nil => rfl
  | _, _, e, .cons h t => by
    rw [List.all_cons, Bool.and_eq_true] at e
    have ih := inV_of f hv e.2 t
    unfold inV at ih ⊢
    rw [List.any_cons, List.any_cons, eqV_of e.1 f (.inl h) hv, ih]
/-- what `in` asks, by values -/
def rInG (X : Cx) (neg : Bool) : R2 := fun x y H Q =>
  ((∃ i j, x = .str i ∧ y = .str j ∧ Q (.bl (neg ^^ !(Builtin.Str.occurrences j i 0 j.length 1).isEmpty)) H) ∨ rIn X.K neg x y H Q ∨
    ∃ d ds, Dp X.K H x d ∧ Dp X.K H y (.list ds) ∧ SeqAt.shaped d = true ∧ SeqAt.shaped (.list ds) = true ∧ Q (.bl (neg ^^ ds.any fun z => PyData.eqv z d)) H) ∨ ∃ a o, y = .ref a ∧ DGet H a x o ∧ Q (.bl (neg ^^ o.isSome)) H
theorem op_inG (hu : X.A.units + 65 < cLine) : OpR X (compareOp .In) (rInG X false) := by
  intro pins s σ H x y v u Q I rx ry h
  rcases h with (⟨i, j, e1, e2, q⟩ | h | ⟨d, ds, h1, h2, h3, h4, q⟩) | ⟨a, o, e, g, q⟩
  · exact op_in_str pins s σ H x y v u Q I rx ry ⟨i, j, e1, e2, by simpa using q⟩
  · exact op_in_seq pins s σ H x y v u Q I rx ry h
  · exact op_inD hu pins s σ H x y v u Q I rx ry ⟨d, ds, h1, h2, h3, h4, by simpa using q⟩
  · exact op_inDct (by omega) pins s σ H x y v u Q I rx ry ⟨a, o, e, g, by simpa using q⟩
theorem op_notInG (hu : X.A.units + 65 < cLine) : OpR X (compareOp .NotIn) (rInG X true) := by
  intro pins s σ H x y v u Q I rx ry h
  rcases h with (⟨i, j, e1, e2, q⟩ | h | ⟨d, ds, h1, h2, h3, h4, q⟩) | ⟨a, o, e, g, q⟩
  · exact op_notin_str pins s σ H x y v u Q I rx ry ⟨i, j, e1, e2, by simpa using q⟩
  · exact op_notIn_seq pins s σ H x y v u Q I rx ry h
  · exact op_notInD hu pins s σ H x y v u Q I rx ry ⟨d, ds, h1, h2, h3, h4, by simpa using q⟩
  · exact op_notInDct (by omega) pins s σ H x y v u Q I rx ry ⟨a, o, e, g, by simpa using q⟩
theorem fIn_ok {neg : Bool} {x y : PyData} {S : Sto} {ρ : List Addr} {H : Hp} {v u : V} {Q : VK} {Wx : XW} (ss : SimS X.K H ρ S) (hv : Vw X.K H x v) (hu : Vw X.K H y u)
    (h : Post X.K X.mg Wx S ρ H (fIn neg x y S) (fun d _ ρ' H' => ∀ v, DR X.K H' ρ' d v → Q v H')) : rInG X neg v u H Q := by
  cases y with
  | str t =>
    cases x with
    | str z => exact .inl (.inl ⟨z, t, hv.str, hu.str, ans ss h (.bl _)⟩)
    | _ => exact h.elim
  | list ys =>
    obtain ⟨hc, h⟩ := postIf (c := memOk x ys = true) h
    have q := ans ss h (.bl _)
    unfold memOk at hc
    rw [Bool.or_eq_true, Bool.and_eq_true, Bool.and_eq_true] at hc
    rcases hc with ⟨f1, f2⟩ | ⟨f1, f2⟩
    · obtain ⟨t, us, rfl, h1, r1⟩ := hu.list
      refine .inl (.inr (.inl ⟨t, us, rfl, .inl h1, flat_of f1 hv, flats_of f2 r1, ?_⟩))
      rw [inV_of f1 hv f2 r1]
      cases neg <;> simpa using q
    · exact .inl (.inr (.inr ⟨x, ys, hv.dp (nod_shaped f1), hu.dp (nod_shaped f2), f1, f2, q⟩))
  | tuple ys =>
    obtain ⟨hc, h⟩ := postIf (c := (flatP x && ys.all flatP) = true) h
    have q := ans ss h (.bl _)
    rw [Bool.and_eq_true] at hc
    obtain ⟨f1, f2⟩ := hc
    obtain ⟨t, us, rfl, h1, r1⟩ := hu.tuple
    refine .inl (.inr (.inl ⟨t, us, rfl, .inr h1, flat_of f1 hv, flats_of f2 r1, ?_⟩))
    rw [inV_of f1 hv f2 r1]
    cases neg <;> simpa using q
  | _ => exact h.elim
theorem fInD_ok {neg : Bool} {d e : D} {S : Sto} {ρ : List Addr} {H : Hp} {v u : V} {Q : VK} {Wx : XW} (ss : SimS X.K H ρ S) (rv : DR X.K H ρ d v) (ru : DR X.K H ρ e u)
    (h : Post X.K X.mg Wx S ρ H (fInD neg d e S) (fun d _ ρ' H' => ∀ v, DR X.K H' ρ' d v → Q v H')) : rInG X neg v u H Q := by
  have byView : Post X.K X.mg Wx S ρ H (bnd (see d) (fun u => bnd (see e) fun v => fIn neg u v) S) (fun d _ ρ' H' => ∀ v, DR X.K H' ρ' d v → Q v H') → rInG X neg v u H Q := fun h => by
    unfold bnd see at h
    cases q1 : view S d with
    | none => rw [q1] at h; exact h.elim
    | some x =>
      cases q2 : view S e with
      | none => simp only [q1, q2] at h; exact h.elim
      | some y =>
        simp only [q1, q2] at h
        exact fIn_ok ss (view_dp ss rv q1) (view_dp ss ru q2) h
  cases e with
  | exn _ => exact byView h
  | p y => exact byView h
  | tup ys => exact byView h
  | ref n =>
    cases e3 : S[n]? with
    | none =>
      refine byView ?_
      replace h : Post X.K X.mg Wx S ρ H (match S[n]? with | some (.dct kvs) => (match d with | .p k => (match keyOf k with | some q => R.ok (D.p (.bool (neg ^^ (dGet kvs q).isSome))) S | none => .no) | _ => .no) | _ => bnd (see d) (fun u => bnd (see (.ref n)) fun v => fIn neg u v) S) _ := h
      rw [e3] at h
      exact h
    | some o =>
      replace h : Post X.K X.mg Wx S ρ H (match S[n]? with | some (.dct kvs) => (match d with | .p k => (match keyOf k with | some q => R.ok (D.p (.bool (neg ^^ (dGet kvs q).isSome))) S | none => .no) | _ => .no) | _ => bnd (see d) (fun u => bnd (see (.ref n)) fun v => fIn neg u v) S) _ := h
      rw [e3] at h
      cases o with
      | lst ds => exact byView h
      | gone => exact byView h
      | dct kvs =>
        cases d with
        | exn _ => first | exact q.elim | exact h.elim | exact h1.elim | exact h2.elim | exact h3.elim | exact h4.elim | exact h5.elim | exact p.elim | cases h | cases q | cases e
        | p k =>
          replace h : Post X.K X.mg Wx S ρ H (match keyOf k with | some q => R.ok (D.p (.bool (neg ^^ (dGet kvs q).isSome))) S | none => .no) _ := h
          cases q1 : keyOf k with
          | none => rw [q1] at h; exact h.elim
          | some q =>
            rw [q1] at h
            cases ru with
            | ref e4 =>
              obtain ⟨ws, hw, pr⟩ := ss.ob n _ _ e3 e4
              have f := paired_find (k := q) pr
              have qq := ans (x := .bool (neg ^^ (dGet kvs q).isSome)) ss h (.bl _)
              cases rv with
              | p rv =>
                have eu := keyV q1 rv
                subst eu
                refine .inr ⟨_, valV ws q, rfl, DGet.k hw, ?_⟩
                cases q2 : dGet kvs q with
                | none => rw [q2] at f qq; rw [f]; exact qq
                | some d => rw [q2] at f qq; obtain ⟨w, e6, _⟩ := f; rw [e6]; exact qq
        | tup ds => exact h.elim
        | ref m => exact h.elim
theorem g_in (hu : X.A.units + 65 < cLine) (ha : GE X W a ra) (hb : GE X W b rb) (hm : behindInMarks .In b = false := by rfl) : GE X W (.Compare a [.In] [b] pos) (e2D (fInD false) ra rb) :=
  PE.imp (pe_cmpR (op_inG hu) ha hb hm) fun σ H Q q => two q fun d e S ρ H2 v u ss rv ru h => fInD_ok ss rv ru h
theorem g_notin (hu : X.A.units + 65 < cLine) (ha : GE X W a ra) (hb : GE X W b rb) (hm : behindInMarks .NotIn b = false := by rfl) : GE X W (.Compare a [.NotIn] [b] pos) (e2D (fInD true) ra rb) :=
  PE.imp (pe_cmpR (op_notInG hu) ha hb hm) fun σ H Q q => two q fun d e S ρ H2 v u ss rv ru h => fInD_ok ss rv ru h
theorem gt_in (hu : X.A.units + 65 < cLine) (ha : GE X W a ra) (hb : GE X W b rb) (hm : behindInMarks .In b = false := by rfl) : GT X W (.Compare a [.In] [b] pos) (tVal (e2D (fInD false) ra rb)) :=
  PT.imp (pt_cmpR (op_inG hu) ha hb hm) fun σ H Q q => two (rT_val q) fun d e S ρ H2 v u ss rv ru h => fInD_ok ss rv ru h
theorem gt_notin (hu : X.A.units + 65 < cLine) (ha : GE X W a ra) (hb : GE X W b rb) (hm : behindInMarks .NotIn b = false := by rfl) : GT X W (.Compare a [.NotIn] [b] pos) (tVal (e2D (fInD true) ra rb)) :=
  PT.imp (pt_cmpR (op_notInG hu) ha hb hm) fun σ H Q q => two (rT_val q) fun d e S ρ H2 v u ss rv ru h => fInD_ok ss rv ru h
end
end DL

namespace DL
open PySem PySem.Spec L2
variable [Nfo]
section
mutual
theorem plainQ_show : ∀ d : PyData, plainQ d = true → d.showable = true ∧ d.leavesShort 220 = true
  | .none, _ => ⟨by simp only [PyData.showable], by simp only [PyData.leavesShort]⟩
  | .bool _, _ => ⟨by simp only [PyData.showable], by simp only [PyData.leavesShort]⟩
  | .int i, h => by
    have hl : i.natAbs.log2 < 200 := by simpa only [plainQ, decide_eq_true_eq] using h
    have hn : i.natAbs < 2 ^ 200 := by
      rcases Nat.eq_zero_or_pos i.natAbs with z | z
      · rw [z]; decide
      · exact (Nat.log2_lt (Nat.ne_of_gt z)).mp hl
    refine ⟨by simp only [PyData.showable, decide_eq_true_eq]; omega, ?_⟩
    simp only [PyData.leavesShort, decide_eq_true_eq]
    have e : (PyData.shown (.int i)).length = (toString i : String).length := by
      simp only [PyData.shown]
      exact ofString_length _
    rw [e]
    have key : (Nat.repr i.natAbs).length ≤ 200 := nat_repr_length_le (by decide) hn
    cases i with
    | ofNat n =>
      have : (toString (Int.ofNat n) : String) = Nat.repr n := rfl
      rw [this]
      have k2 : (Nat.repr n).length ≤ 200 := key
      omega
    | negSucc n =>
      have : (toString (Int.negSucc n) : String) = "-" ++ Nat.repr (n + 1) := rfl
      rw [this, String.length_append]
      have k2 : (Nat.repr (n + 1)).length ≤ 200 := key
      have : ("-" : String).length = 1 := rfl
      omega
  | .str x, h => by
    refine ⟨by simp only [PyData.showable], ?_⟩
    simp only [PyData.leavesShort]
    simp only [plainQ] at h
    rw [List.all_eq_true] at h ⊢
    intro c hc
    have := of_decide_eq_true (h c hc)
    exact decide_eq_true (by omega)
  | .list xs, h => by
    obtain ⟨h1, h3⟩ := plainQ_shows xs (by simpa only [plainQ] using h)
    exact ⟨by simpa only [PyData.showable] using h1, by simpa only [PyData.leavesShort] using h3⟩
  | .tuple xs, h => by
    obtain ⟨h1, h3⟩ := plainQ_shows xs (by simpa only [plainQ] using h)
    exact ⟨by simpa only [PyData.showable] using h1, by simpa only [PyData.leavesShort] using h3⟩
  | .dict kvs, h => by
    cases kvs with
    | nil => exact ⟨by simp only [PyData.showable, PyData.showableKv], by simp only [PyData.leavesShort, PyData.leavesShortKv]⟩
    | cons _ _ => simp only [plainQ] at h; cases h
theorem plainQ_shows : ∀ xs : List PyData, plainQs xs = true → PyData.showableAll xs = true ∧ PyData.leavesShortAll 220 xs = true
  | [], _ => ⟨by simp only [PyData.showableAll], by simp only [PyData.leavesShortAll]⟩
  | x :: xs, h => by
    simp only [plainQs, Bool.and_eq_true] at h
    obtain ⟨a1, a3⟩ := plainQ_show x h.1
    obtain ⟨b1, b3⟩ := plainQ_shows xs h.2
    exact ⟨by simp only [PyData.showableAll, a1, b1, Bool.and_self], by simp only [PyData.leavesShortAll, a3, b3, Bool.and_self]⟩
end
variable {X : Cx} {W : WX} {a b c : Expr} {es : List Expr} {ra rb rc : E} {ta tb : T} {rs : As} {p pos : Pos} {x : Str}
/-! what is shown of a value: also of {} -/
section
variable {pins : List (Addr × Obj)} {σ : L2.St} {H : Hp} {s : Shared}
/-- shown, with the objects on the way -/
def RKs (prog : Program) (w : World) (h : Heap) (d : PyData) (u : Value) : Prop := (∃ as, Reads h u d as) ∧ ∃ bs, ReadAtMost h d.depth bs ∧ ReprK prog w bs h d.depth u d.shown
def RKa (prog : Program) (w : World) (h : Heap) (ds : List PyData) (us : List Value) : Prop := (∃ as, ReadsAll h us ds as) ∧ ∃ bs, ReadAtMost h (PyData.depthAll ds) bs ∧ ReprAllK prog w bs h (PyData.depthAll ds) us (PyData.shownAll ds)
theorem rk_lst {h : Heap} {a : Addr} {o : Obj} {n : Nat} {its : List Value} {xs : List PyData} (g : h.get? a = some o) (gc : o.cls = .type "list") (gd : o.data = .seq its.toArray n) (k : RKa X.prog X.w h xs its) : RKs X.prog X.w h (.list xs) (.ref a) := by
  obtain ⟨⟨as, ra⟩, bs, hb, hk⟩ := k
  have rd : Reads h (.ref a) (.list xs) _ := Reads.list g gc gd (show ReadsAll h its.toArray.toList xs as from ra)
  have out : a ∉ bs := not_mem_of_deeper rd (by simp only [PyData.depth]; omega) hb
  refine ⟨⟨_, rd⟩, a :: bs, ReadAtMost.cons rd (by simp only [PyData.depth]; omega) hb, ?_⟩
  simp only [PyData.depth, PyData.shown]
  cases its with
  | nil =>
    cases ra
    simp only [PyData.shownAll, listText_nil]
    exact ReprK.listEmpty g gc gd
  | cons x l => exact ReprK.list g gc gd out (by simpa using hk.length_eq) fun i y e => hk.item i y (by simpa using e)
theorem rk_tup {h : Heap} {a : Addr} {o : Obj} {n : Nat} {its : Array Value} {xs : List PyData} (g : h.get? a = some o) (gc : o.cls = .type "tuple") (gd : o.data = .seq its n) (k : RKa X.prog X.w h xs its.toList) : RKs X.prog X.w h (.tuple xs) (.ref a) := by
  obtain ⟨⟨as, ra⟩, bs, hb, hk⟩ := k
  have rd : Reads h (.ref a) (.tuple xs) _ := Reads.tuple g gc gd ra
  have out : a ∉ bs := not_mem_of_deeper rd (by simp only [PyData.depth]; omega) hb
  refine ⟨⟨_, rd⟩, a :: bs, ReadAtMost.cons rd (by simp only [PyData.depth]; omega) hb, ?_⟩
  simp only [PyData.depth, PyData.shown]
  exact ReprK.tuple g gc gd out hk
theorem rk_dct {h : Heap} {a : Addr} {o : Obj} {n : Nat} (g : h.get? a = some o) (gc : o.cls = .type "dict") (gd : o.data = .dict #[] n) (gs : (a == sysModules) = false) : RKs X.prog X.w h (.dict []) (.ref a) := by
  have rd : Reads h (.ref a) (.dict []) _ := Reads.dict g gc gd ReadsAll.nil ReadsAll.nil
  have nb : ReadAtMost h 0 [] := fun _ z => nomatch z
  have out : a ∉ ([] : List Addr) := fun z => nomatch z
  refine ⟨⟨_, rd⟩, [a], ReadAtMost.cons rd (by simp only [PyData.depth]; omega) nb, ?_⟩
  have k := ReprK.dict (prog := X.prog) (w := X.w) (as := []) (d := 0) g gc gd gs out (ReprEntriesK.of_two [] [] [] .nil .nil)
  simp only [PyData.depth, PyData.depthKv, PyData.shown, PyData.shownKv]
  exact k
/-! called on its own -/
variable {A : Around} {E : Value → Shared → Prop} {Q : Value → Shared → Prop}
theorem top_lst {a : Addr} {o : Obj} {n : Nat} {its : List Value} {xs : List PyData} (g : s.heap.get? a = some o) (gc : o.cls = .type "list") (gd : o.data = .seq its.toArray n) (k : RKa X.prog X.w s.heap xs its) (hg : A.guards = some []) (hu : A.units + ((PyData.list xs).depth + 1) < cLine)
    (hz : (PyData.list xs).shown.length ≤ sizeLine) (hQ : ∀ h' u tk, (∀ b o, s.heap.get? b = some o → h'.get? b = some o) → Q (.str (PyData.list xs).shown u) { s with heap := h', toks := tk }) : wpAny (model X.prog X.w) A (call (.builtin "repr") [.ref a]) Q E s := by
  obtain ⟨⟨as, ra⟩, bs, hb, hk⟩ := k
  have rd : Reads s.heap (.ref a) (.list xs) _ := Reads.list g gc gd (show ReadsAll s.heap its.toArray.toList xs as from ra)
  have out : a ∉ bs := not_mem_of_deeper rd (by simp only [PyData.depth]; omega) hb
  simp only [PyData.depth] at hu
  simp only [PyData.shown] at hQ hz
  refine call_repr_slot (by omega) ⟨o, g, gc⟩ F.slot_list_repr.toG ?_
  cases its with
  | nil =>
    cases ra
    simp only [PyData.shownAll, listText_nil] at hQ
    exact call_list_repr_empty ⟨o, g, gc⟩ g gd ⟨_, _, rfl, hQ s.heap _ _ fun _ _ e => e⟩
  | cons x l => exact call_list_reprK g gc gd out (by simpa using hk.length_eq) (fun i y e => hk.item i y (by simpa using e)) hg (fun b _ => Clear.nil b) (by show A.units + 1 + _ < cLine; omega) (fun _ _ e => e) (fun h' u tk kk => ⟨_, _, rfl, hQ h' u tk kk⟩) hz
theorem top_tup {a : Addr} {o : Obj} {n : Nat} {its : Array Value} {xs : List PyData} (g : s.heap.get? a = some o) (gc : o.cls = .type "tuple") (gd : o.data = .seq its n) (k : RKa X.prog X.w s.heap xs its.toList) (hg : A.guards = some []) (hu : A.units + ((PyData.tuple xs).depth + 1) < cLine)
    (hz : (PyData.tuple xs).shown.length ≤ sizeLine) (hQ : ∀ h' u tk, (∀ b o, s.heap.get? b = some o → h'.get? b = some o) → Q (.str (PyData.tuple xs).shown u) { s with heap := h', toks := tk }) : wpAny (model X.prog X.w) A (call (.builtin "repr") [.ref a]) Q E s := by
  obtain ⟨⟨as, ra⟩, bs, hb, hk⟩ := k
  have rd : Reads s.heap (.ref a) (.tuple xs) _ := Reads.tuple g gc gd ra
  have out : a ∉ bs := not_mem_of_deeper rd (by simp only [PyData.depth]; omega) hb
  simp only [PyData.depth] at hu
  simp only [PyData.shown] at hQ hz
  refine call_repr_slot (by omega) ⟨o, g, gc⟩ F.slot_tuple_repr ?_
  exact call_tuple_reprK g gc gd out hk hg (fun b _ => Clear.nil b) (by show A.units + 1 + _ < cLine; omega) (fun _ _ e => e) (fun h' u tk kk => ⟨_, _, rfl, hQ h' u tk kk⟩) hz
theorem top_dct {a : Addr} {o : Obj} {n : Nat} (g : s.heap.get? a = some o) (gc : o.cls = .type "dict") (gd : o.data = .dict #[] n) (gs : (a == sysModules) = false) (hg : A.guards = some []) (hu : A.units + ((PyData.dict []).depth + 1) < cLine)
    (hz : (PyData.dict []).shown.length ≤ sizeLine) (hQ : ∀ h' u tk, (∀ b o, s.heap.get? b = some o → h'.get? b = some o) → Q (.str (PyData.dict []).shown u) { s with heap := h', toks := tk }) : wpAny (model X.prog X.w) A (call (.builtin "repr") [.ref a]) Q E s := by
  have out : a ∉ ([] : List Addr) := fun z => nomatch z
  simp only [PyData.depth, PyData.depthKv] at hu
  simp only [PyData.shown, PyData.shownKv] at hQ hz
  refine call_repr_slot (by omega) ⟨o, g, gc⟩ F.slot_dict_repr ?_
  exact call_dict_reprK (d := 0) g gc gd gs out (ReprEntriesK.of_two [] [] [] .nil .nil) hg (fun b _ => Clear.nil b) (by show A.units + 1 + _ < cLine; omega) (fun _ _ e => e) (fun h' u tk kk => ⟨_, _, rfl, hQ h' u tk kk⟩) hz
mutual
theorem rk_dv (I : Inv X pins σ H s) : ∀ (d : PyData) (v : V) (u : Value), DV X.K H d v → RelV v u → d.showable = true → d.shown.length ≤ sizeLine → RKs X.prog X.w s.heap d u
  | .none, _, _, h, r, hs, hz => by
    cases h; cases r
    exact ⟨⟨_, Reads.none⟩, ReprK.of_reads Reads.none hs (fun z => by simp only [PyData.hasDict] at z; cases z) hz⟩
  | .bool b, _, _, h, r, hs, hz => by
    cases h; cases r
    exact ⟨⟨_, Reads.bool b⟩, ReprK.of_reads (Reads.bool b) hs (fun z => by simp only [PyData.hasDict] at z; cases z) hz⟩
  | .int i, _, _, h, r, hs, hz => by
    cases h
    obtain ⟨t, rfl⟩ := r
    exact ⟨⟨_, Reads.int i t⟩, ReprK.of_reads (Reads.int i t) hs (fun z => by simp only [PyData.hasDict] at z; cases z) hz⟩
  | .str x, _, _, h, r, hs, hz => by
    cases h
    obtain ⟨t, rfl⟩ := r
    exact ⟨⟨_, Reads.str x t⟩, ReprK.of_reads (Reads.str x t) hs (fun z => by simp only [PyData.hasDict] at z; cases z) hz⟩
  | .list xs, _, _, h, r, hs, hz => by
    cases h with
    | lst h1 h2 =>
      cases r
      obtain ⟨its, rv, ⟨o, n, g1, g2, _, g3⟩, _⟩ := I.list h1.sq
      have hz' : (listText (PyData.shownAll xs)).length ≤ sizeLine := by simpa only [PyData.shown] using hz
      exact rk_lst g1 g2 g3 (rk_dvs I xs _ its h2 rv (by simpa only [PyData.showable] using hs) fun t ht => Nat.le_trans (listText_mem_le ht) hz')
  | .tuple xs, _, _, h, r, hs, hz => by
    cases h with
    | tup h1 h2 =>
      cases r
      obtain ⟨its, rv, ⟨o, g1, g2, n, g3⟩, _⟩ := I.tuple h1.sq
      have hz' : (tupleText (PyData.shownAll xs)).length ≤ sizeLine := by simpa only [PyData.shown] using hz
      exact rk_tup g1 g2 g3 (rk_dvs I xs _ its h2 rv (by simpa only [PyData.showable] using hs) fun t ht => Nat.le_trans (tupleText_mem_le ht) hz')
  | .dict kvs, _, _, h, r, hs, hz => by
    cases h with
    | dct0 h1 =>
      cases r
      obtain ⟨o, h1⟩ := h1
      obtain ⟨_, gs, vs, kv, ob, es, ep, g1, g2, g3, g4, g5, _⟩ := dk_rd I.hok (.inr ⟨o, h1⟩)
      cases kv
      have e0 : es = #[] := by
        have : es.toList = [] := by
          cases q : es.toList with
          | nil => rfl
          | cons x l => rw [q] at g5; cases g5
        exact Array.toList_eq_nil_iff.mp this
      rw [e0] at g3
      exact rk_dct g1 g2.1 g3 gs
theorem rk_dvs (I : Inv X pins σ H s) : ∀ (ds : List PyData) (vs : List V) (us : List Value), DVs X.K H ds vs → Vals vs us → PyData.showableAll ds = true → (∀ t ∈ PyData.shownAll ds, t.length ≤ sizeLine) → RKa X.prog X.w s.heap ds us
  | [], _, _, h, r, _, _ => by
    cases h; cases r
    exact ⟨⟨_, ReadsAll.nil⟩, [], fun _ z => (nomatch z), by simp only [PyData.shownAll]; exact .nil⟩
  | d :: ds, _, _, h, r, hs, hz => by
    cases h with
    | cons h1 h2 =>
      cases r with
      | cons r1 r2 =>
        have hs' : d.showable = true ∧ PyData.showableAll ds = true := by simpa only [PyData.showableAll, Bool.and_eq_true] using hs
        obtain ⟨⟨as, q1⟩, b1, hb1, k1⟩ := rk_dv I d _ _ h1 r1 hs'.1 (hz _ (by simp only [PyData.shownAll]; exact List.mem_cons_self))
        obtain ⟨⟨bs, q2⟩, b2, hb2, k2⟩ := rk_dvs I ds _ _ h2 r2 hs'.2 fun t ht => hz t (by simp only [PyData.shownAll]; exact List.mem_cons_of_mem _ ht)
        refine ⟨⟨_, ReadsAll.cons q1 q2⟩, b1 ++ b2, fun b hm => ?_, ?_⟩
        · simp only [PyData.depthAll]
          rcases List.mem_append.mp hm with z | z
          · obtain ⟨x, as', rr, l⟩ := hb1 b z
            exact ⟨x, as', rr, Nat.le_trans l (Nat.le_max_left _ _)⟩
          · obtain ⟨x, as', rr, l⟩ := hb2 b z
            exact ⟨x, as', rr, Nat.le_trans l (Nat.le_max_right _ _)⟩
        · simp only [PyData.depthAll, PyData.shownAll]
          exact .cons ((k1.more fun b hb => List.mem_append_left _ hb).level_le (Nat.le_max_left _ _)) (k2.more_le (fun b hb => List.mem_append_right _ hb) (Nat.le_max_right _ _))
end
end
theorem call_reprD (hG : X.A.guards = some []) (hu : X.A.units + 64 < cLine) : CallR X (.builtin "repr") (fun vs H Q => ∃ v d, vs = [v] ∧ Vw X.K H d v ∧ reprOk d = true ∧ Q (.str d.shown) H) := by
  intro pins s σ H vs us Q I r h
  obtain ⟨v, d, rfl, hd, hk, q⟩ := h
  obtain ⟨u, rfl, hv⟩ := vals1 r
  unfold reprOk at hk
  simp only [Bool.and_eq_true, decide_eq_true_eq] at hk
  obtain ⟨⟨h1, h2⟩, h3⟩ := hk
  obtain ⟨s1, s3⟩ := plainQ_show d h1
  have hsz : d.shown.length ≤ sizeLine := by
    have := PyData.shown_le 220 (by decide) d s3
    have e : (220 + 2) * d.weight ≤ (220 + 2) * 75000 ∨ 75000 < d.weight := by
      rcases Nat.lt_or_ge 75000 d.weight with z | z
      · exact .inr z
      · exact .inl (Nat.mul_le_mul_left _ z)
    rw [sizeLine_eq]
    omega
  have room : X.A.units + (d.depth + 1) < cLine := by omega
  have stay : ∀ h' u tk, (∀ b o, s.heap.get? b = some o → h'.get? b = some o) → EP X pins σ Q (.str d.shown u) { s with heap := h', toks := tk } := fun h' u tk k => ⟨.str _, H, I.kept k, ⟨_, rfl⟩, q⟩
  -- a list
  have lst : ∀ {a : Addr} {vs : List V} {xs : List PyData}, d = .list xs → v = .ref a → SqL X.K H a vs → DVs X.K H xs vs → wpAny (model X.prog X.w) X.A (call (.builtin "repr") [u]) (EP X pins σ Q) X.xe s := fun {a vs xs} e1 e2 h4 h5 => by
    subst e1 e2
    obtain rfl : u = Value.ref a := hv
    obtain ⟨its, rv, ⟨o, n, g1, g2, _, g3⟩, _⟩ := I.list h4
    have hz' : (listText (PyData.shownAll xs)).length ≤ sizeLine := by simpa only [PyData.shown] using hsz
    exact top_lst g1 g2 g3 (rk_dvs I xs _ its h5 rv (by simpa only [PyData.showable] using s1) fun t ht => Nat.le_trans (listText_mem_le ht) hz') hG room hsz stay
  rcases hd with hd | ⟨a, vs, xs, e1, e2, h4, h5⟩
  · cases hd with
    | non =>
      obtain rfl : u = Value.none := hv
      exact P.repr_of_none ⟨.str _, H, I.tok _, ⟨_, rfl⟩, q⟩
    | bl b =>
      obtain rfl : u = Value.bool b := hv
      refine P.repr_of_bool ⟨.str _, H, I.tok _, ⟨_, rfl⟩, ?_⟩
      cases b <;> exact q
    | int i =>
      obtain ⟨t, rfl⟩ := hv
      have hl : i.natAbs.log2 < 1920 := by simpa only [PyData.showable, decide_eq_true_eq] using s1
      exact P.repr_of_int hl ⟨.str _, H, I.tok _, ⟨_, rfl⟩, q⟩
    | str z =>
      obtain ⟨t, rfl⟩ := hv
      exact P.repr_of_str ⟨.str _, H, I.tok _, ⟨_, rfl⟩, q⟩ hsz
    | lst h4 h5 => exact lst rfl rfl h4.sq h5
    | @tup a vs xs h4 h5 =>
      obtain rfl : u = Value.ref a := hv
      obtain ⟨its, rv, ⟨o, g1, g2, n, g3⟩, _⟩ := I.tuple h4.sq
      have hz' : (tupleText (PyData.shownAll xs)).length ≤ sizeLine := by simpa only [PyData.shown] using hsz
      exact top_tup g1 g2 g3 (rk_dvs I xs _ its h5 rv (by simpa only [PyData.showable] using s1) fun t ht => Nat.le_trans (tupleText_mem_le ht) hz') hG room hsz stay
    | @dct0 a h4 =>
      obtain rfl : u = Value.ref a := hv
      obtain ⟨o, h4⟩ := h4
      obtain ⟨_, gs, vs, kv, ob, es, ep, g1, g2, g3, g4, g5, _⟩ := dk_rd I.hok (.inr ⟨o, h4⟩)
      cases kv
      have e0 : es = #[] := by
        have : es.toList = [] := by
          cases q : es.toList with
          | nil => rfl
          | cons x l => rw [q] at g5; cases g5
        exact Array.toList_eq_nil_iff.mp this
      rw [e0] at g3
      exact top_dct g1 g2.1 g3 gs hG room hsz stay
  · exact lst e2 e1 (SqL.of h4) h5
theorem g_repr (hG : X.A.guards = some []) (hu : X.A.units + 64 < cLine) (hg : Gl X "repr" := by rfl) (hm : X.mg "repr" = none) (ha : GE X W a ra) (he : starEach (a :: []) X.env = (false, eval a X.env) :: starEach [] X.env := by rfl) (hpl : (backTo pos (starEach [] X.env)).any (·.1) = false := by rfl) :
    GE X W (.Call (.Name "repr" p) [a] [] pos) (e1 fRepr ra) := by
  refine g_call1 (call_reprD hG hu) hg hm (by decide +kernel) ha (fun d S ρ H2 v Q Wx ss hv q => ?_) (by decide) (by decide) he hpl
  obtain ⟨hc, q⟩ := postIf (c := reprOk d = true) q
  exact ⟨v, d, rfl, hv, hc, ans ss q (.str _)⟩
end
end DL

namespace DL
open PySem PySem.Spec L2
variable [Nfo]
section
variable {X : Cx} {W : WX} {a b c : Expr} {es : List Expr} {ra rb rc : E} {ta tb : T} {rs : As} {p pos : Pos} {x : Str}

/-! ## methods of lists -/
theorem isL_ty {S : Sto} {ρ : List Addr} {H : Hp} {d : D} {v : V} (ss : SimS X.K H ρ S) (rv : DR X.K H ρ d v) (h : isL S d = true) : ∃ (n : Nat) (a : Addr) (ds : List D) (vs : List V), d = .ref n ∧ v = .ref a ∧ ρ[n]? = some a ∧ S[n]? = some (.lst ds) ∧ H a = some (.lst vs) ∧ DRs X.K H ρ ds vs := by
  cases d with
  | exn _ => first | exact q.elim | exact h.elim | exact h1.elim | exact h2.elim | exact h3.elim | exact h4.elim | exact h5.elim | exact p.elim | cases h | cases q | cases e
  | ref n =>
    cases rv with
    | ref e =>
      unfold isL at h
      cases q : S[n]? with
      | none => simp only [q] at h; cases h
      | some o =>
        cases o with
        | lst ds =>
          obtain ⟨vs, h1, r1⟩ := ss.ob n _ _ q e
          exact ⟨n, _, ds, vs, rfl, rfl, e, q, h1, r1⟩
        | dct kvs => simp only [q] at h; cases h
        | gone => simp only [q] at h; cases h
  | p _ => cases h
  | tup _ => cases h
theorem ty_list {H : Hp} {a : Addr} {vs : List V} (h : H a = some (.lst vs)) : tyV X.K "list" (.ref a) H := .inl ⟨rfl, vs, SqL.of h⟩
theorem postIfR {α : Type} {c : Prop} [Decidable c] {m : R α} {K : PySem.W.Frag} {mg : Str → Option Value} {Wx : XW} {S : Sto} {ρ : List Addr} {H : Hp} {k : α → Sto → List Addr → Hp → Prop} (h : Post K mg Wx S ρ H (if c then m else .no) k) : c ∧ Post K mg Wx S ρ H m k := by
  by_cases hc : c
  · rw [if_pos hc] at h; exact ⟨hc, h⟩
  · rw [if_neg hc] at h; exact h.elim
theorem g_m0 {m : Str} {id : String} {r : V → List V → Hp → VK → Prop} {f : D → M D} {apos : Pos} (pa : PlainAttrs "list") (slot : Slot "list" m id) (hty : typeOf (.builtin id) = pure (.type "method_descriptor")) (hm : MtR X id r) (ha : GE X W a ra)
    (h : ∀ (d : D) (S : Sto) (ρ : List Addr) (H2 : Hp) (v : V) (Q : VK) (Wx : XW), SimS X.K H2 ρ S → DR X.K H2 ρ d v → isL S d = true → Post X.K X.mg Wx S ρ H2 (f d S) (fun d _ ρ' H' => ∀ v, DR X.K H' ρ' d v → Q v H') → r v [] H2 Q)
    (hbase : attributeBase a m X.env (eval a X.env) = eval a X.env := by rfl) (hline : (apos.endLine == pos.line) = true := by rfl) : GE X W (.Call (.Attribute a m apos) [] [] pos) (eM0 f ra) := by
  refine PE.imp (pe_bm0 pa slot hty hm ha hbase hline) fun σ H Q q => ?_
  obtain ⟨env, S, ρ, se, ss, q⟩ := q
  refine ⟨env, S, ρ, se, ss, (Post.bnd q).imp fun d S1 ρ1 H1 _ x1 s1 h1 v rv => ?_⟩
  obtain ⟨hc, h1⟩ := postIfR h1
  obtain ⟨n, a', ds, vs, rfl, rfl, e1, e2, e3, r1⟩ := isL_ty s1 rv hc
  exact ⟨ty_list e3, h _ S1 ρ1 H1 _ Q _ s1 rv hc h1⟩
theorem g_m1 {m : Str} {id : String} {r : V → List V → Hp → VK → Prop} {f : D → D → M D} {apos : Pos} (pa : PlainAttrs "list") (slot : Slot "list" m id) (hty : typeOf (.builtin id) = pure (.type "method_descriptor")) (hm : MtR X id r) (ha : GE X W a ra) (hb : GE X W b rb)
    (h : ∀ (d e : D) (S : Sto) (ρ : List Addr) (H2 : Hp) (v u : V) (Q : VK) (Wx : XW), SimS X.K H2 ρ S → DR X.K H2 ρ d v → DR X.K H2 ρ e u → Post X.K X.mg Wx S ρ H2 (f d e S) (fun d _ ρ' H' => ∀ v, DR X.K H' ρ' d v → Q v H') → r v [u] H2 Q)
    (hbase : attributeBase a m X.env (eval a X.env) = eval a X.env := by rfl)
    (hfew : ((backTo pos (starEach (b :: []) X.env)).all (fun x => !x.1) && (backToKw pos (keywordEach [] X.env)).all (fun x => x.1.isSome) && decide ((b :: []).length + ([] : List Keyword).length + (if ([] : List Keyword).isEmpty then 0 else 1) < 30)) = true := by rfl)
    (hline : (apos.endLine == pos.line) = true := by rfl) (hs : starEach (b :: []) X.env = (false, eval b X.env) :: starEach [] X.env := by rfl) (hpl : (backTo pos (starEach [] X.env)).any (·.1) = false := by rfl) :
    GE X W (.Call (.Attribute a m apos) [b] [] pos) (eM1 f ra rb) := by
  refine PE.imp (pe_bm pa slot hty hm ha (pa_cons hb pa_nil hs) hbase hfew hline hs hpl) fun σ H Q q => ?_
  obtain ⟨env, S, ρ, se, ss, q⟩ := q
  refine ⟨env, S, ρ, se, ss, (Post.bnd q).imp fun d S1 ρ1 H1 _ x1 s1 h1 v rv => ?_⟩
  obtain ⟨hc, h1⟩ := postIfR h1
  obtain ⟨n, a', ds, vs, rfl, rfl, e1, e2, e3, r1⟩ := isL_ty s1 rv hc
  refine ⟨ty_list e3, env, S1, ρ1, se.mono x1.st x1.pre, s1, (Post.bnd h1).imp fun e S2 ρ2 H2 _ x2 s2 h2 u ru => ?_⟩
  exact h _ e S2 ρ2 H2 _ u Q _ s2 (rv.mono x2.st x2.pre) ru h2
theorem g_m2 {m : Str} {id : String} {r : V → List V → Hp → VK → Prop} {f : D → D → D → M D} {apos : Pos} (pa : PlainAttrs "list") (slot : Slot "list" m id) (hty : typeOf (.builtin id) = pure (.type "method_descriptor")) (hm : MtR X id r) (ha : GE X W a ra) (hb : GE X W b rb) (hcc : GE X W c rc)
    (h : ∀ (d e g : D) (S : Sto) (ρ : List Addr) (H2 : Hp) (v u t : V) (Q : VK) (Wx : XW), SimS X.K H2 ρ S → DR X.K H2 ρ d v → DR X.K H2 ρ e u → DR X.K H2 ρ g t → Post X.K X.mg Wx S ρ H2 (f d e g S) (fun d _ ρ' H' => ∀ v, DR X.K H' ρ' d v → Q v H') → r v [u, t] H2 Q)
    (hbase : attributeBase a m X.env (eval a X.env) = eval a X.env := by rfl)
    (hfew : ((backTo pos (starEach (b :: [c]) X.env)).all (fun x => !x.1) && (backToKw pos (keywordEach [] X.env)).all (fun x => x.1.isSome) && decide ((b :: [c]).length + ([] : List Keyword).length + (if ([] : List Keyword).isEmpty then 0 else 1) < 30)) = true := by rfl)
    (hline : (apos.endLine == pos.line) = true := by rfl) (hs : starEach (b :: [c]) X.env = (false, eval b X.env) :: starEach [c] X.env := by rfl) (hs2 : starEach (c :: []) X.env = (false, eval c X.env) :: starEach [] X.env := by rfl) (hpl : (backTo pos (starEach [c] X.env)).any (·.1) = false := by rfl) :
    GE X W (.Call (.Attribute a m apos) [b, c] [] pos) (eM2 f ra rb rc) := by
  refine PE.imp (pe_bm pa slot hty hm ha (pa_cons hb (pa_cons hcc pa_nil hs2) hs) hbase hfew hline hs hpl) fun σ H Q q => ?_
  obtain ⟨env, S, ρ, se, ss, q⟩ := q
  refine ⟨env, S, ρ, se, ss, (Post.bnd q).imp fun d S1 ρ1 H1 _ x1 s1 h1 v rv => ?_⟩
  obtain ⟨hc, h1⟩ := postIfR h1
  obtain ⟨n, a', ds, vs, rfl, rfl, e1, e2, e3, r1⟩ := isL_ty s1 rv hc
  refine ⟨ty_list e3, env, S1, ρ1, se.mono x1.st x1.pre, s1, (Post.bnd h1).imp fun e S2 ρ2 H2 _ x2 s2 h2 u ru => ?_⟩
  refine ⟨env, S2, ρ2, (se.mono x1.st x1.pre).mono x2.st x2.pre, s2, (Post.bnd h2).imp fun g S3 ρ3 H3 _ x3 s3 h3 t rt => ?_⟩
  exact h _ e g S3 ρ3 H3 _ u t Q _ s3 ((rv.mono x2.st x2.pre).mono x3.st x3.pre) (ru.mono x3.st x3.pre) rt h3
/-- the list at a changes -/
theorem putL {S : Sto} {ρ : List Addr} {H : Hp} {n : Nat} {a : Addr} {ds es : List D} {vs us : List V} (ss : SimS X.K H ρ S) (e1 : ρ[n]? = some a) (e2 : S[n]? = some (.lst ds)) (e3 : H a = some (.lst vs)) (r : DRs X.K H ρ es us) :
    SimS X.K (upd H a (.lst us)) ρ (S.set n (.lst es)) ∧ Ext S ρ (S.set n (.lst es)) ρ H (upd H a (.lst us)) := by
  have st : Stb H (upd H a (.lst us)) := fun b y e s => by
    rw [upd_ne]
    · exact e
    · rintro rfl
      rw [e3] at e; cases e
      cases s
  exact ss.put e2 (fun z => by cases z) e1 ⟨us, upd_same, r.mono st (List.prefix_refl _)⟩
theorem g_append {apos : Pos} (ha : GE X W a ra) (hb : GE X W b rb) (hbase : attributeBase a "append" X.env (eval a X.env) = eval a X.env := by rfl)
    (hfew : ((backTo pos (starEach (b :: []) X.env)).all (fun x => !x.1) && (backToKw pos (keywordEach [] X.env)).all (fun x => x.1.isSome) && decide ((b :: []).length + ([] : List Keyword).length + (if ([] : List Keyword).isEmpty then 0 else 1) < 30)) = true := by rfl)
    (hline : (apos.endLine == pos.line) = true := by rfl) (hs : starEach (b :: []) X.env = (false, eval b X.env) :: starEach [] X.env := by rfl) (hpl : (backTo pos (starEach [] X.env)).any (·.1) = false := by rfl) :
    GE X W (.Call (.Attribute a "append" apos) [b] [] pos) (eM1 fApp ra rb) := by
  refine g_m1 PySem.F.plainAttrs_list PySem.F.slot_list_append PySem.F.type_list_append mt_append ha hb (fun d e S ρ H2 v u Q Wx ss rv ru h => ?_) hbase hfew hline hs hpl
  cases d with
  | ref n =>
    cases rv with
    | ref e1 =>
      replace h : Post X.K X.mg Wx S ρ H2 (match S[n]? with | some (.lst ds) => if ds.length < big then R.ok (D.p .none) (S.set n (.lst (ds ++ [e]))) else .no | _ => .no) _ := h
      cases q : S[n]? with
      | none => rw [q] at h; exact h.elim
      | some o =>
        rw [q] at h
        cases o with
        | lst ds =>
          obtain ⟨hl, h⟩ := postIfR h
          obtain ⟨vs, e3, r1⟩ := ss.ob n _ _ q e1
          obtain ⟨s2, x2⟩ := putL ss e1 q e3 (r1.append (.cons ru .nil))
          exact ⟨_, vs, u, rfl, rfl, e3, by rw [← r1.length, ← big_line]; exact hl, h _ ρ x2 s2 _ (.p .non)⟩
        | _ => exact h.elim
  | _ => exact h.elim
theorem getLast_len : ∀ {α : Type} {xs : List α} {d : α}, xs.getLast? = some d → xs[xs.length - 1]? = some d := fun {α xs d} h => by
  rw [← List.getLast?_eq_getElem?]; exact h
theorem DRs.dropLast {K : PySem.W.Frag} {H : Hp} {ρ : List Addr} {ds : List D} {vs : List V} (h : DRs K H ρ ds vs) : DRs K H ρ ds.dropLast vs.dropLast := by
  induction h with
  | nil => exact .nil
  | cons r t ih =>
    cases t with
    | nil => exact .nil
    | cons r' t' => exact .cons r ih
theorem g_pop {apos : Pos} (ha : GE X W a ra) (hbase : attributeBase a "pop" X.env (eval a X.env) = eval a X.env := by rfl) (hline : (apos.endLine == pos.line) = true := by rfl) :
    GE X W (.Call (.Attribute a "pop" apos) [] [] pos) (eM0 fPop ra) := by
  refine g_m0 PySem.F.plainAttrs_list PySem.F.slot_list_pop PySem.F.type_list_pop mt_pop ha (fun d S ρ H2 v Q Wx ss rv hc h => ?_) hbase hline
  obtain ⟨n, a', ds, vs, rfl, rfl, e1, e2, e3, r1⟩ := isL_ty ss rv hc
  replace h : Post X.K X.mg Wx S ρ H2 (match S[n]? with | some (.lst ds) => (match ds.getLast? with | some d => R.ok d (S.set n (.lst ds.dropLast)) | none => .no) | _ => .no) _ := h
  rw [e2] at h
  replace h : Post X.K X.mg Wx S ρ H2 (match ds.getLast? with | some d => R.ok d (S.set n (.lst ds.dropLast)) | none => .no) _ := h
  cases q : ds.getLast? with
  | none => rw [q] at h; exact h.elim
  | some d =>
    rw [q] at h
    obtain ⟨v, e4, rv4⟩ := r1.get (getLast_len q)
    obtain ⟨s2, x2⟩ := putL ss e1 e2 e3 r1.dropLast
    exact ⟨a', vs, v, rfl, rfl, e3, by rw [← r1.length]; exact e4, h _ ρ x2 s2 _ (rv4.mono x2.st x2.pre)⟩
theorem DRs.take {K : PySem.W.Frag} {H : Hp} {ρ : List Addr} : ∀ {ds : List D} {vs : List V} (n : Nat), DRs K H ρ ds vs → DRs K H ρ (ds.take n) (vs.take n)
  | _, _, 0, _ => .nil
  | _, _, _ + 1, .nil => .nil
  | _, _, n + 1, .cons r t => .cons r (DRs.take n t)
theorem DRs.drop {K : PySem.W.Frag} {H : Hp} {ρ : List Addr} : ∀ {ds : List D} {vs : List V} (n : Nat), DRs K H ρ ds vs → DRs K H ρ (ds.drop n) (vs.drop n)
  | _, _, 0, r => r
  | _, _, _ + 1, .nil => .nil
  | _, _, n + 1, .cons _ t => DRs.drop n t
theorem g_insert {apos : Pos} (ha : GE X W a ra) (hb : GE X W b rb) (hc : GE X W c rc) (hbase : attributeBase a "insert" X.env (eval a X.env) = eval a X.env := by rfl)
    (hfew : ((backTo pos (starEach (b :: [c]) X.env)).all (fun x => !x.1) && (backToKw pos (keywordEach [] X.env)).all (fun x => x.1.isSome) && decide ((b :: [c]).length + ([] : List Keyword).length + (if ([] : List Keyword).isEmpty then 0 else 1) < 30)) = true := by rfl)
    (hline : (apos.endLine == pos.line) = true := by rfl) (hs : starEach (b :: [c]) X.env = (false, eval b X.env) :: starEach [c] X.env := by rfl) (hs2 : starEach (c :: []) X.env = (false, eval c X.env) :: starEach [] X.env := by rfl) (hpl : (backTo pos (starEach [c] X.env)).any (·.1) = false := by rfl) :
    GE X W (.Call (.Attribute a "insert" apos) [b, c] [] pos) (eM2 fIns ra rb rc) := by
  refine g_m2 PySem.F.plainAttrs_list PySem.F.slot_list_insert PySem.F.type_list_insert mt_insert ha hb hc (fun d e g S ρ H2 v u t Q Wx ss rv ru rt h => ?_) hbase hfew hline hs hs2 hpl
  cases d with
  | ref n =>
    cases e with
    | p y =>
      cases y with
      | int i =>
        cases rv with
        | ref e1 =>
          cases ru with
          | p ru =>
            cases ru
            replace h : Post X.K X.mg Wx S ρ H2 (match S[n]? with | some (.lst ds) => if ds.length < big ∧ 0 ≤ i ∧ i < 4611686018427387904 then R.ok (D.p .none) (S.set n (.lst (ds.take i.toNat ++ [g] ++ ds.drop i.toNat))) else .no | _ => .no) _ := h
            cases q : S[n]? with
            | none => rw [q] at h; exact h.elim
            | some o =>
              rw [q] at h
              cases o with
              | lst ds =>
                obtain ⟨⟨hl, h0, h1⟩, h⟩ := postIfR h
                obtain ⟨vs, e3, r1⟩ := ss.ob n _ _ q e1
                obtain ⟨s2, x2⟩ := putL ss e1 q e3 (((r1.take i.toNat).append (.cons rt .nil)).append (r1.drop i.toNat))
                exact ⟨_, vs, i, t, rfl, rfl, e3, by rw [← r1.length, ← big_line]; exact hl, h0, by omega, h _ ρ x2 s2 _ (.p .non)⟩
              | _ => exact h.elim
      | _ => exact h.elim
    | _ => exact h.elim
  | _ => exact h.elim
end
end DL

namespace DL
open PySem PySem.Spec L2
variable [Nfo]
section
variable {X : Cx} {W : WX} {a b c : Expr} {es : List Expr} {ra rb rc : E} {ta tb : T} {rs : As} {p pos : Pos} {x : Str} {st : Stmt} {sts : List Stmt} {ba bb : B}

/-! ## no error -/
theorem hush_ok {α : Type} {m : M α} {S S' : Sto} {a : α} (h : hush m S = .ok a S') : m S = .ok a S' := by
  unfold hush at h
  cases q : m S with
  | ok a' S2 => rw [q] at h; exact h
  | ex e S2 => rw [q] at h; cases h
  | no => rw [q] at h; cases h
theorem hush_ex {α : Type} (m : M α) (S S' : Sto) (e : Ex) : hush m S ≠ .ex e S' := fun h => by
  unfold hush at h
  cases q : m S with
  | ok a' S2 => rw [q] at h; cases h
  | ex e S2 => rw [q] at h; cases h
  | no => rw [q] at h; cases h
/-- a part that raises nothing meets any wish -/
theorem Post.hush {α : Type} {m : M α} {K : PySem.W.Frag} {mg : Str → Option Value} {Wx Wy : XW} {S : Sto} {ρ : List Addr} {H : Hp} {k : α → Sto → List Addr → Hp → Prop} (h : Post K mg Wx S ρ H (DL.hush m S) k) : Post K mg Wy S ρ H (m S) k := by
  cases q : DL.hush m S with
  | ok a S' => rw [q] at h; rw [hush_ok q]; exact h
  | ex e S' => exact absurd q (hush_ex _ _ _ _)
  | no => rw [q] at h; exact h.elim
/-! ## blocks, small statements -/
theorem fl_shift {D D' : Ends} {f : Fl} {ρ : List Addr} {H : Hp} (hn : ∀ env, f ≠ .nx env) (h : match f with
    | .nx env' => ∀ σ', SimE X.K H ρ env' σ' → D.nx σ' H
    | .bk env' => ∀ σ', SimE X.K H ρ env' σ' → D.bk σ' H
    | .ct env' => ∀ σ', SimE X.K H ρ env' σ' → D.ct σ' H
    | .rt d => ∀ v, DR X.K H ρ d v → D.rt v H) (e1 : D'.rt = D.rt) (e2 : D'.bk = D.bk) (e3 : D'.ct = D.ct) : match f with
    | .nx env' => ∀ σ', SimE X.K H ρ env' σ' → D'.nx σ' H
    | .bk env' => ∀ σ', SimE X.K H ρ env' σ' → D'.bk σ' H
    | .ct env' => ∀ σ', SimE X.K H ρ env' σ' → D'.ct σ' H
    | .rt d => ∀ v, DR X.K H ρ d v → D'.rt v H := by
  cases f with
  | nx env => exact absurd rfl (hn env)
  | bk env => rw [e2]; exact h
  | ct env => rw [e3]; exact h
  | rt d => rw [e1]; exact h
theorem gbs_nil : GBs X W [] sNil := by
  refine PSs.imp pss_nil fun D σ H q => ?_
  obtain ⟨env, S, ρ, se, ss, h⟩ := q
  exact h H ρ Ext.refl ss σ se
theorem seq_ok {D : Ends} {σ : L2.St} {H : Hp} (q : rB X.K X.mg W (sCons ba bb) D σ H) : L2.tSeq (rB X.K X.mg W ba) (rB X.K X.mg W bb) D σ H := by
  obtain ⟨env, S, ρ, se, ss, h⟩ := q
  refine ⟨env, S, ρ, se, ss, (Post.bnd h).imp fun f S1 ρ1 H1 _ x1 s1 h1 => ?_⟩
  cases f with
  | nx env' => exact fun σ' se' => ⟨env', S1, ρ1, se', s1, h1⟩
  | bk env' => exact h1 H1 ρ1 Ext.refl s1
  | ct env' => exact h1 H1 ρ1 Ext.refl s1
  | rt d => exact h1 H1 ρ1 Ext.refl s1
theorem gbs_cons (h1 : GB X W st ba) (h2 : GBs X W sts bb) : GBs X W (st :: sts) (sCons ba bb) := PSs.imp (pss_cons h1 h2) fun D σ H q => seq_ok q
theorem gbs_one (h1 : GB X W st ba) : GBs X W [st] ba := pss_one h1
theorem gb_pass : GB X W (.Pass pos) sNil := by
  refine PS.imp ps_pass fun D σ H q => ?_
  obtain ⟨env, S, ρ, se, ss, h⟩ := q
  exact h H ρ Ext.refl ss σ se
theorem gb_break : GB X W (.Break pos) sBreak := by
  refine PS.imp ps_break fun D σ H q => ?_
  obtain ⟨env, S, ρ, se, ss, h⟩ := q
  exact h H ρ Ext.refl ss σ se
theorem gb_cont : GB X W (.Continue pos) sCont := by
  refine PS.imp ps_continue fun D σ H q => ?_
  obtain ⟨env, S, ρ, se, ss, h⟩ := q
  exact h H ρ Ext.refl ss σ se
/-- the part ahead of a statement's end -/
theorem pre {α : Type} {m : M α} {f : α → M Fl} {D : Ends} {σ : L2.St} {S : Sto} {ρ : List Addr} {H : Hp}
    (h : Post X.K X.mg (fun c d H' => ∀ σ', W c d σ' H') S ρ H (bnd m f S) fun f _ ρ' H' => match f with
      | .nx env' => ∀ σ', SimE X.K H' ρ' env' σ' → D.nx σ' H'
      | .bk env' => ∀ σ', SimE X.K H' ρ' env' σ' → D.bk σ' H'
      | .ct env' => ∀ σ', SimE X.K H' ρ' env' σ' → D.ct σ' H'
      | .rt d => ∀ v, DR X.K H' ρ' d v → D.rt v H') {k : α → Sto → List Addr → Hp → Prop}
    (g : ∀ (a : α) (S1 : Sto) (ρ1 : List Addr) (H1 : Hp), m S = .ok a S1 → Ext S ρ S1 ρ1 H H1 → SimS X.K H1 ρ1 S1 → (Post X.K X.mg (fun c d H' => ∀ σ', W c d σ' H') S1 ρ1 H1 (f a S1) fun f _ ρ' H' => match f with
      | .nx env' => ∀ σ', SimE X.K H' ρ' env' σ' → D.nx σ' H'
      | .bk env' => ∀ σ', SimE X.K H' ρ' env' σ' → D.bk σ' H'
      | .ct env' => ∀ σ', SimE X.K H' ρ' env' σ' → D.ct σ' H'
      | .rt d => ∀ v, DR X.K H' ρ' d v → D.rt v H') → k a S1 ρ1 H1) : Post X.K X.mg (fun c d H' => W c d σ H') S ρ H (m S) k := by
  have h1 := (Post.bnd h).imp fun a S1 ρ1 H1 r x1 s1 h1 => g a S1 ρ1 H1 r x1 s1 h1
  cases q : m S with
  | ok a S' => rw [q] at h1; exact h1
  | ex e S' => rw [q] at h1; exact fun H' ρ' cls d e' s' r => h1 H' ρ' cls d e' s' r σ
  | no => rw [q] at h1; exact h1
theorem gb_expr (ha : GE X W a ra) (hs : swapsWith a none pos.line X.env = pure false := by rfl) : GB X W (.Expr a pos) (sExpr ra) := by
  refine PS.imp (ps_expr ha hs) fun D σ H q => ?_
  obtain ⟨env, S, ρ, se, ss, h⟩ := q
  exact ⟨env, S, ρ, se, ss, pre h fun d S1 ρ1 H1 _ x1 s1 h1 v rv => h1 H1 ρ1 Ext.refl s1 σ (se.mono x1.st x1.pre)⟩
theorem gb_doc {z : Str} {j : Nat} {pos' : Pos} : GB X W (.Expr (.Constant (.str z) j pos) pos') sNil := by
  refine PS.imp ps_doc fun D σ H q => ?_
  obtain ⟨env, S, ρ, se, ss, h⟩ := q
  exact h H ρ Ext.refl ss σ se
theorem gb_ret (ha : GE X W a ra) : GB X W (.Return (some a) pos) (sRet ra) := by
  refine PS.imp (ps_ret ha) fun D σ H q => ?_
  obtain ⟨env, S, ρ, se, ss, h⟩ := q
  exact ⟨env, S, ρ, se, ss, pre h fun d S1 ρ1 H1 _ x1 s1 h1 v rv => h1 H1 ρ1 Ext.refl s1 v rv⟩
theorem gb_retN : GB X W (.Return none pos) sRetN := by
  refine PS.imp ps_retN fun D σ H q => ?_
  obtain ⟨env, S, ρ, se, ss, h⟩ := q
  exact h H ρ Ext.refl ss _ (.p .non)
theorem gb_if {s1 s2 : List Stmt} (hc : GT X W c ta) (ha : GBs X W s1 ba) (hb : GBs X W s2 bb) : GB X W (.If c s1 s2 pos) (sIf ta ba bb) := by
  refine PS.imp (ps_if hc ha hb) fun D σ H q => ?_
  obtain ⟨env, S, ρ, se, ss, h⟩ := q
  refine ⟨env, S, ρ, se, ss, pre h fun k S1 ρ1 H1 _ x1 s1 h1 => ?_⟩
  cases k with
  | true => exact ⟨env, S1, ρ1, se.mono x1.st x1.pre, s1, h1⟩
  | false => exact ⟨env, S1, ρ1, se.mono x1.st x1.pre, s1, h1⟩
theorem gb_set (i : Nat) {pos' : Pos} (hN : X.N.Nodup) (hi : X.N[i]? = some x) (hx : Loc X.env.scope x) (ha : GE X W a ra) (hs : swapsWith a (some (.Name x pos')) pos.line X.env = pure false := by rfl)
    (hf : X.fn x = true ∨ X.env.scope.names.lookup x = some .local := by first | exact .inl rfl | exact .inr rfl | assumption) : GB X W (.Assign [.Name x pos'] a pos) (sSet i ra) := by
  refine PS.imp (ps_set hN hi hx ha hs hf) fun D σ H q => ?_
  obtain ⟨env, S, ρ, se, ss, h⟩ := q
  exact ⟨env, S, ρ, se, ss, pre h fun d S1 ρ1 H1 _ x1 s1 h1 v rv => h1 H1 ρ1 Ext.refl s1 _ ((se.mono x1.st x1.pre).set i rv)⟩

/-! ## targets -/
abbrev W0 : XW := fun _ _ _ => False
/-- but for the slots of own the same -/
def Off (own : List Nat) (σ σ' : L2.St) : Prop := σ'.length = σ.length ∧ ∀ i, i ∉ own → σ'[i]? = σ[i]?
theorem Off.refl (own : List Nat) (σ : L2.St) : Off own σ σ := ⟨rfl, fun _ _ => rfl⟩
theorem Off.trans {own own' : List Nat} {σ σ1 σ2 : L2.St} (a : Off own σ σ1) (b : Off own' σ1 σ2) : Off (own ++ own') σ σ2 :=
  ⟨b.1.trans a.1, fun i h => by
    rw [List.mem_append, not_or] at h
    exact (b.2 i h.2).trans (a.2 i h.1)⟩
theorem Off.set (i : Nat) (v : Option V) (σ : L2.St) : Off [i] σ (σ.set i v) := ⟨by simp, fun j h => by
  have : i ≠ j := fun e => h (by simp [e])
  rw [List.getElem?_set_ne this]⟩
def rG (K : PySem.W.Frag) (mg : Str → Option Value) (own : List Nat) (r : G) : TG := fun v σ H Q => ∃ d env S ρ, DR K H ρ d v ∧ SimE K H ρ env σ ∧ SimS K H ρ S ∧
  Post K mg W0 S ρ H (r d env S) fun env' _ ρ' H' => ∀ σ', SimE K H' ρ' env' σ' → Off own σ σ' → Q σ' H'
def rGs (K : PySem.W.Frag) (mg : Str → Option Value) (own : List Nat) (r : List D → Env → M Env) : TGs := fun vs σ H Q => ∃ ds env S ρ, DRs K H ρ ds vs ∧ SimE K H ρ env σ ∧ SimS K H ρ S ∧
  Post K mg W0 S ρ H (r ds env S) fun env' _ ρ' H' => ∀ σ', SimE K H' ρ' env' σ' → Off own σ σ' → Q σ' H'
def GG (X : Cx) (e : Expr) (own : List Nat) (r : G) : Prop := PG X e (rG X.K X.mg own r)
def GGs (X : Cx) (e : List Expr) (own : List Nat) (r : List D → Env → M Env) : Prop := PGs X e (rGs X.K X.mg own r)
theorem PG.imp {X : Cx} {e : Expr} {t t' : TG} (h : PG X e t) (f : ∀ v σ H Q, t' v σ H Q → t v σ H Q) : PG X e t' := ⟨fun pins s σ H v u Q I r q => h.run pins s σ H v u Q I r (f v σ H Q q)⟩
theorem PGs.imp {X : Cx} {e : List Expr} {t t' : TGs} (h : PGs X e t) (f : ∀ v σ H Q, t' v σ H Q → t v σ H Q) : PGs X e t' := ⟨fun pins s σ H v u Q I r q => h.run pins s σ H v u Q I r (f v σ H Q q)⟩
theorem gg_name (i : Nat) (hN : X.N.Nodup) (hi : X.N[i]? = some x) (hx : Loc X.env.scope x) (hf : X.fn x = true ∨ X.env.scope.names.lookup x = some .local := by first | exact .inl rfl | exact .inr rfl | assumption) : GG X (.Name x pos) [i] (DL.gName i) := by
  refine PG.imp (pg_name hN hi hx hf) fun v σ H Q q => ?_
  obtain ⟨d, env, S, ρ, rv, se, ss, h⟩ := q
  exact h H ρ Ext.refl ss _ (se.set i rv) (Off.set i _ σ)
theorem ggs_nil : GGs X [] [] (gsFill []) := by
  refine PGs.imp pgs_nil fun vs σ H Q q => ?_
  obtain ⟨ds, env, S, ρ, rv, se, ss, h⟩ := q
  cases rv with
  | nil => exact ⟨rfl, h H ρ Ext.refl ss σ se (Off.refl _ _)⟩
  | cons r t => exact h.elim
theorem ggs_cons {g : G} {gs : List G} {o1 o2 : List Nat} (h1 : GG X a o1 g) (h2 : GGs X es o2 (gsFill gs)) (hs : (assignEach (a :: es) X.env).map (·.2) = assign a X.env :: (assignEach es X.env).map (·.2) := by rfl) : GGs X (a :: es) (o1 ++ o2) (gsFill (g :: gs)) := by
  refine PGs.imp (pgs_cons h1 h2 hs) fun vs σ H Q q => ?_
  obtain ⟨ds, env, S, ρ, rv, se, ss, h⟩ := q
  cases rv with
  | nil => exact h.elim
  | @cons d v ds vs r t =>
    exact ⟨v, vs, rfl, d, env, S, ρ, r, se, ss, (Post.bnd (m := g d env) (f := fun env' => gsFill gs ds env') h).imp fun env' S1 ρ1 H1 _ x1 s1 h1 σ' se' of => ⟨ds, env', S1, ρ1, DRs.mono x1.st x1.pre t, se', s1, h1.imp fun env2 S2 ρ2 H2 _ x2 s2 h2 σ2 se2 of2 => h2 σ2 se2 (of.trans of2)⟩⟩
theorem items_ok {K : PySem.W.Frag} {H : Hp} {ρ : List Addr} {d : D} {v : V} {ds : List D} (h : items d = some ds) (r : DR K H ρ d v) : ∃ a vs, v = .ref a ∧ SqT K H a vs ∧ DRs K H ρ ds vs := by
  cases d with
  | exn _ => first | exact q.elim | exact h.elim | exact h1.elim | exact h2.elim | exact h3.elim | exact h4.elim | exact h5.elim | exact p.elim | cases h | cases q | cases e
  | p x =>
    cases x with
    | tuple xs =>
      cases h
      cases r with
      | p r =>
        obtain ⟨a, vs, e, h1, r1⟩ := Vw.tuple (.inl r)
        exact ⟨a, vs, e, h1, r1.drs⟩
    | _ => cases h
  | tup xs =>
    cases h
    cases r with
    | tup h1 h2 h3 => exact ⟨_, _, rfl, h1.sq, DRs.of_get h2 h3⟩
  | ref n => cases h
theorem gg_tup {k n : Nat} {gs : List G} {o1 : List Nat} (hc : X.calm = true) (h : GGs X es o1 (gsFill gs)) (hl : gs.length = n) (hn : (assignEach es X.env).length = n := by rfl) (hst : (assignEach es X.env).findIdx? (·.1) = none := by rfl) : GG X (.Tuple es k pos) o1 (DL.gTup gs) := by
  refine PG.imp (pg_tup hc h hn hst) fun v σ H Q q => ?_
  obtain ⟨d, env, S, ρ, rv, se, ss, h⟩ := q
  have h1 := (Post.bnd (m := opt (items d)) h)
  cases q : items d with
  | none => rw [q] at h1; exact h1.elim
  | some ds =>
    rw [q] at h1
    have h2 := h1 H ρ Ext.refl ss
    obtain ⟨hc, h2⟩ := postIf (c := ds.length = gs.length) h2
    obtain ⟨a, vs, rfl, h1, r1⟩ := items_ok q rv
    exact ⟨a, vs, rfl, h1, by rw [← r1.length, hc, hl], ds, env, S, ρ, r1, se, ss, h2⟩
theorem gb_asg {g : G} {tg : Expr} {o1 : List Nat} (ha : GE X W a ra) (hg : GG X tg o1 g) (hs : swapsWithSole [tg] a pos.line X.env = pure false := by rfl) (hw : swappedStores [tg] a X.env = pure none := by rfl)
    (h1 : (assignEach [tg] X.env).map (·.2) = [assign tg X.env] := by rfl) : GB X W (.Assign [tg] a pos) (sAsg g ra) := by
  refine PS.imp (ps_asg ha hg hs hw h1) fun D σ H q => ?_
  obtain ⟨env, S, ρ, se, ss, h⟩ := q
  refine ⟨env, S, ρ, se, ss, pre h fun d S1 ρ1 H1 _ x1 s1 h1 v rv => ⟨d, env, S1, ρ1, rv, se.mono x1.st x1.pre, s1, ?_⟩⟩
  exact ((Post.bnd h1).imp fun env' S2 ρ2 H2 _ x2 s2 h2 σ' se' _ => h2 H2 ρ2 Ext.refl s2 σ' se').hush
end
end DL

namespace DL
open PySem PySem.Spec L2
variable [Nfo]
/-! ## what is walked -/
/-- J gives the items, whatever comes of the heap -/
structure WalkD (K : PySem.W.Frag) (H0 : Hp) (ρ0 : List Addr) (ds : List D) (J : It) : Prop where
  ex : ∃ (G : Hp → Prop) (Y : Nat → Hp → V → Hp → Prop), Walk J ds.length G Y ∧ (∀ H1, Stb H0 H1 → G H1) ∧
    ∀ (i : Nat) (H1 : Hp) (x : V) (H2 : Hp) (d : D) (ρ1 : List Addr), Stb H0 H1 → ρ0 <+: ρ1 → ds[i]? = some d → Y i H1 x H2 → (H2 = H1 ∨ ∃ p o, H1 p = none ∧ H2 = upd H1 p o) ∧ DR K H2 ρ1 d x
  len : ds.length ≤ big
def rI (K : PySem.W.Frag) (mg : Str → Option Value) (W : WX) (r : DL.I) : TI := fun σ H R => ∃ env S ρ, SimE K H ρ env σ ∧ SimS K H ρ S ∧
  Post K mg (fun c d H' => W c d σ H') S ρ H (r env S) fun ds _ ρ' H' => ∀ J, WalkD K H' ρ' ds J → R J H'
def GI (X : Cx) (W : WX) (tg e : Expr) (r : DL.I) : Prop := PI X tg e (rI X.K X.mg W r)
theorem PI.imp {X : Cx} {tg e : Expr} {t t' : TI} (h : PI X tg e t) (f : ∀ σ H R, t' σ H R → t σ H R) : PI X tg e t' := ⟨fun pins s σ H R I q => h.run pins s σ H R I (f σ H R q)⟩
section
variable {X : Cx} {W : WX} {a b c : Expr} {es : List Expr} {ra rb rc : E} {ta tb : T} {rs : As} {p pos : Pos} {x : Str} {st : Stmt} {sts : List Stmt} {ba bb : B} {ri : DL.I} {g : G} {tg : Expr}
theorem walkD_list {K : PySem.W.Frag} {H : Hp} {ρ : List Addr} {a : Addr} {vs : List V} {ds : List D} (h : Fz K H a vs) (r : DRs K H ρ ds vs) (hl : ds.length ≤ big) : WalkD K H ρ ds (Itl K a) := by
  refine ⟨⟨fun H => SqL K H a vs, YAt vs, by rw [r.length]; exact walk_list, fun H1 s => (h.mono s).sq, fun i H1 x H2 d ρ1 s q e y => ?_⟩, hl⟩
  obtain ⟨rfl, y⟩ := y
  obtain ⟨d', e2, r2⟩ := r.getV y
  rw [e] at e2
  cases e2
  exact ⟨.inl rfl, r2.mono s q⟩
theorem walkD_tup {K : PySem.W.Frag} {H : Hp} {ρ : List Addr} {a : Addr} {vs : List V} {ds : List D} (h : SqT K H a vs) (r : DRs K H ρ ds vs) (hl : ds.length ≤ big) : WalkD K H ρ ds (Itt K a) := by
  refine ⟨⟨fun H => SqT K H a vs, YAt vs, by rw [r.length]; exact walk_tup, fun H1 s => sqT_mono h s, fun i H1 x H2 d ρ1 s q e y => ?_⟩, hl⟩
  obtain ⟨rfl, y⟩ := y
  obtain ⟨d', e2, r2⟩ := r.getV y
  rw [e] at e2
  cases e2
  exact ⟨.inl rfl, r2.mono s q⟩
/-- the walks of a value: what the hand layer's three rules want, with what is known of the length -/
def iSeq (K : PySem.W.Frag) (tl : TE) : TI := fun σ H R => tl σ H fun x H1 =>
  (∃ a xs, x = .ref a ∧ SqL K H1 a xs ∧ (xs.length ≤ big → R (Itl K a) H1)) ∨ (∃ a xs, x = .ref a ∧ SqT K H1 a xs ∧ (xs.length ≤ big → R (Itt K a) H1))
theorem pi_seq {l : Expr} {tl : TE} (hl : PE X l tl) : PI X tg l (iSeq X.K tl) := by
  refine ⟨fun pins s σ H R I h => ?_⟩
  refine thn (hl.run pins s σ H _ I h) fun v s1 ⟨x, H1, I1, r1, q1⟩ => ?_
  rcases q1 with ⟨a, xs, e, hq, q⟩ | ⟨a, xs, e, hq, q⟩
  · subst e
    cases r1
    obtain ⟨its, rv, p, hz⟩ := I1.list hq
    refine wpAny_pyIter_list p.isList ?_
    refine ⟨s1.heap.objs.size, [s1.heap.objs.size], _, _, H1, rfl, I1.kept (t' := s1.toks) fun b o e => Heap.get?_push_of_some _ e, turn_list a _, ⟨_, Heap.get?_push_size _ rfl, rfl, rfl⟩, fun b hb => ?_, q (by rw [big_line]; exact hz)⟩
    have e : b = s1.heap.objs.size := by simpa using hb
    subst e
    exact I1.fpOk (Nat.le_refl _) (I1.hok.fresh (Nat.le_refl _))
  · subst e
    cases r1
    obtain ⟨its, rv, p, hz⟩ := I1.tuple hq
    refine wpAny_pyIter_tuple (show s1.heap.IsTuple a its.toArray from p) ?_
    refine ⟨s1.heap.objs.size, [s1.heap.objs.size], _, _, H1, rfl, I1.kept (t' := s1.toks) fun b o e => Heap.get?_push_of_some _ e, turn_tuple a _, ⟨_, Heap.get?_push_size _ rfl, rfl, rfl⟩, fun b hb => ?_, q (by rw [big_line]; exact hz)⟩
    have e : b = s1.heap.objs.size := by simpa using hb
    subst e
    exact I1.fpOk (Nat.le_refl _) (I1.hok.fresh (Nat.le_refl _))
theorem gi_seq (ha : GE X W a ra) : GI X W tg a (iVal ra) := by
  refine PI.imp (pi_seq ha) fun σ H R q => ?_
  obtain ⟨env, S, ρ, se, ss, h⟩ := q
  refine ⟨env, S, ρ, se, ss, (Post.bnd h).imp fun d S1 ρ1 H1 _ x1 s1 h1 v rv => ?_⟩
  cases d with
  | exn _ => first | exact q.elim | exact h.elim | exact h1.elim | exact h2.elim | exact h3.elim | exact h4.elim | exact h5.elim | exact p.elim | cases h | cases q | cases e
  | p y =>
    cases rv with
    | p rv =>
      cases y with
      | list xs =>
        cases rv with
        | lst hf hd => exact .inl ⟨_, _, rfl, hf.sq, fun hl => h1 H1 ρ1 Ext.refl s1 _ (walkD_list hf hd.drs (by rw [List.length_map, hd.length]; exact hl))⟩
      | tuple xs =>
        cases rv with
        | tup hf hd => exact .inr ⟨_, _, rfl, hf.sq, fun hl => h1 H1 ρ1 Ext.refl s1 _ (walkD_tup hf.sq hd.drs (by rw [List.length_map, hd.length]; exact hl))⟩
      | _ => exact h1.elim
  | tup ds =>
    cases rv with
    | tup h2 h3 h4 => exact .inr ⟨_, _, rfl, h2.sq, fun hl => h1 H1 ρ1 Ext.refl s1 _ (walkD_tup h2.sq (DRs.of_get h3 h4) (by rw [h3]; exact hl))⟩
  | ref n => exact h1.elim
theorem gi_range (hg : Gl X "range" := by rfl) (hm : X.mg "range" = none) (ha : GE X W a ra) (hs : starEach [a] X.env = [(false, eval a X.env)] := by rfl) (hs2 : starEach (a :: []) X.env = (false, eval a X.env) :: starEach [] X.env := by rfl) :
    GI X W tg (.Call (.Name "range" p) [a] [] pos) (iRange ra) := by
  refine PI.imp (pi_range1 hg hm (pa_cons ha pa_nil hs2) hs) fun σ H R q => ?_
  obtain ⟨env, S, ρ, se, ss, h⟩ := q
  refine ⟨env, S, ρ, se, ss, (Post.bnd h).imp fun d S1 ρ1 H1 _ x1 s1 h1 v rv => ?_⟩
  cases d with
  | p y =>
    cases y with
    | int n =>
      obtain ⟨hc, h1⟩ := postIf (c := n ≤ 16777216 ∧ -16777216 ≤ n) h1
      cases rv with
      | p rv =>
        cases rv
        refine ⟨n, rfl, by omega, by omega, h1 H1 ρ1 Ext.refl s1 _ ⟨⟨fun _ => True, _, by rw [List.length_map, List.length_range]; exact walk_range, fun _ _ => trivial, fun i H1 x H2 d ρ1 s q e y => ?_⟩, by rw [List.length_map, List.length_range]; unfold big; omega⟩⟩
        obtain ⟨rfl, rfl⟩ := y
        rw [List.getElem?_map] at e
        cases e2 : (List.range n.toNat)[i]? with
        | none => rw [e2] at e; cases e
        | some j =>
          rw [e2] at e
          cases e
          have e3 : j = i := by
            obtain ⟨hlt, e4⟩ := List.getElem?_eq_some_iff.mp e2
            rw [List.getElem_range] at e4
            exact e4.symm
          subst e3
          refine ⟨.inl rfl, .p ?_⟩
          show DV X.K _ (.int (j : Nat)) (V.int (0 + ((j : Nat) : Int)))
          rw [Int.zero_add]
          exact .int _
    | _ => exact h1.elim
  | _ => exact h1.elim
theorem gi_range2 (hg : Gl X "range" := by rfl) (hm : X.mg "range" = none) (ha : GE X W a ra) (hb : GE X W b rb) (hs : starEach [a, b] X.env = [(false, eval a X.env), (false, eval b X.env)] := by rfl) (hs2 : starEach [b] X.env = [(false, eval b X.env)] := by rfl)
    (hs3 : starEach (a :: [b]) X.env = (false, eval a X.env) :: starEach [b] X.env := by rfl) (hs4 : starEach (b :: []) X.env = (false, eval b X.env) :: starEach [] X.env := by rfl) :
    GI X W tg (.Call (.Name "range" p) [a, b] [] pos) (iRange2 ra rb) := by
  refine PI.imp (pi_range2 hg hm (pa_cons ha (pa_cons hb pa_nil hs4) hs3) hs hs2) fun σ H R q => ?_
  obtain ⟨env, S, ρ, se, ss, h⟩ := q
  refine ⟨env, S, ρ, se, ss, (Post.bnd h).imp fun d S1 ρ1 H1 _ x1 s1 h1 v rv => ⟨env, S1, ρ1, se.mono x1.st x1.pre, s1, (Post.bnd h1).imp fun e S2 ρ2 H2 _ x2 s2 h2 u ru => ?_⟩⟩
  cases d with
  | p y =>
    cases y with
    | int m =>
      cases e with
      | p z =>
        cases z with
        | int n =>
          obtain ⟨hc, h2⟩ := postIf (c := n - m ≤ 16777216 ∧ -4611686018427387904 ≤ m ∧ m < 4611686018427387904 ∧ -4611686018427387904 ≤ n ∧ n < 4611686018427387904) h2
          cases rv with
          | p rv =>
            cases rv
            cases ru with
            | p ru =>
              cases ru
              refine ⟨m, n, rfl, by omega, h2 H2 ρ2 Ext.refl s2 _ ⟨⟨fun _ => True, _, by rw [List.length_map, List.length_range]; exact walk_range, fun _ _ => trivial, fun i H1 x H2 d ρ1 s q e y => ?_⟩, by rw [List.length_map, List.length_range]; unfold big; omega⟩⟩
              obtain ⟨rfl, rfl⟩ := y
              rw [List.getElem?_map] at e
              cases e2 : (List.range (n - m).toNat)[i]? with
              | none => rw [e2] at e; cases e
              | some j =>
                rw [e2] at e
                cases e
                have e3 : j = i := by
                  obtain ⟨hlt, e4⟩ := List.getElem?_eq_some_iff.mp e2
                  rw [List.getElem_range] at e4
                  exact e4.symm
                subst e3
                exact ⟨.inl rfl, .p (.int _)⟩
        | _ => exact h2.elim
      | _ => exact h2.elim
    | _ => exact (by cases e <;> exact h2.elim)
  | _ => exact (by cases e <;> exact h2.elim)

/-! ## for, while -/
/-- what stands behind a loop, as an outcome tells -/
abbrev kFl (K : PySem.W.Frag) (D : Ends) : Fl → Sto → List Addr → Hp → Prop := fun f _ ρ' H' => match f with
  | .nx env' => ∀ σ', SimE K H' ρ' env' σ' → D.nx σ' H'
  | .bk env' => ∀ σ', SimE K H' ρ' env' σ' → D.bk σ' H'
  | .ct env' => ∀ σ', SimE K H' ρ' env' σ' → D.ct σ' H'
  | .rt d => ∀ v, DR K H' ρ' d v → D.rt v H'
theorem gb_for {os : List Nat} (hp : PassesOwn (model X.prog X.w) X.A X.env X.xe) (hc : X.calm = true) (hi : GI X W tg a ri) (hg : GG X tg os g) (hb : GBs X W sts ba) (hs : ∀ x, foldedSetIterable a X.env x = pure x := by intro _; rfl) :
    GB X W (.For tg a sts [] pos) (sFor ri g ba) := by
  refine PS.imp (ps_for hp hc hi hg hb hs) fun D σ H q => ?_
  obtain ⟨env, S, ρ, se, ss, h⟩ := q
  refine ⟨env, S, ρ, se, ss, pre h fun ds S1 ρ1 H1 _ x1 s1 h1 J wd => ?_⟩
  obtain ⟨⟨Gd, Y, wk, hG, hY⟩, hlen⟩ := wd
  have se1 := se.mono x1.st x1.pre
  refine for_it wk (fun i σ H2 => Stb H1 H2 ∧ ∃ env S ρ, ρ1 <+: ρ ∧ SimE X.K H2 ρ env σ ∧ SimS X.K H2 ρ S ∧ Post X.K X.mg (fun c d H' => ∀ σ', W c d σ' H') S ρ H2 (forL g ba (ds.drop i) env S) (kFl X.K D)) ⟨Stb.refl _, env, S1, ρ1, List.prefix_refl _, se1, s1, h1⟩ (fun i σ H2 _ q => hG H2 q.1) (fun i x σ2 H2 H3 hi q y => ?_) (fun σ2 H2 q => ?_)
  · obtain ⟨st, env2, S2, ρ2, pr, se2, s2, h2⟩ := q
    have e : ds[i]? = some ds[i] := List.getElem?_eq_getElem hi
    obtain ⟨hH, rd⟩ := hY i H2 x H3 ds[i] ρ2 st pr e y
    rw [List.drop_eq_getElem_cons hi] at h2
    have lay : ∃ x3 : Ext S2 ρ2 S2 ρ2 H2 H3, SimS X.K H3 ρ2 S2 := by
      rcases hH with rfl | ⟨p, o, hp, rfl⟩
      · exact ⟨Ext.refl, s2⟩
      · obtain ⟨s3, x3⟩ := s2.lay (o := o) hp
        exact ⟨x3, s3⟩
    obtain ⟨x3, s3⟩ := lay
    have h3 : Post X.K X.mg (fun c d H' => ∀ σ', W c d σ' H') S2 ρ2 H3 (bnd (hush (g ds[i] env2)) (fun env1 => bnd (ba env1) fun f => match f with
      | .nx env2 => forL g ba (ds.drop (i + 1)) env2
      | .ct env2 => forL g ba (ds.drop (i + 1)) env2
      | .bk env2 => ret (.nx env2)
      | .rt d => ret (.rt d)) S2) (kFl X.K D) := Post.shift x3 h2
    refine ⟨ds[i], env2, S2, ρ2, rd, se2.mono x3.st x3.pre, s3, ((Post.bnd h3).imp fun env4 S4 ρ4 H4 _ x4 s4 h4 σ4 se4 _ => ⟨env4, S4, ρ4, se4, s4, (Post.bnd h4).imp fun f S5 ρ5 H5 _ x5 s5 h5 => ?_⟩).hush⟩
    have x25 := (x3.trans x4).trans x5
    cases f with
    | nx env5 => exact fun σ5 se5 => ⟨st.trans x25.st, env5, S5, ρ5, pr.trans x25.pre, se5, s5, h5⟩
    | ct env5 => exact fun σ5 se5 => ⟨st.trans x25.st, env5, S5, ρ5, pr.trans x25.pre, se5, s5, h5⟩
    | bk env5 => exact fun σ5 se5 => h5 H5 ρ5 Ext.refl s5 σ5 se5
    | rt d => exact fun v rv => h5 H5 ρ5 Ext.refl s5 v rv
  · obtain ⟨st, env2, S2, ρ2, pr, se2, s2, h2⟩ := q
    rw [List.drop_eq_nil_of_le (Nat.le_refl _)] at h2
    exact h2 H2 ρ2 Ext.refl s2 σ2 se2
theorem gb_while (n : Nat) (hp : PassesOwn (model X.prog X.w) X.A X.env X.xe) (hc : GT X W c ta) (hb : GBs X W sts ba) : GB X W (.While c sts [] pos) (sWhile n ta ba) := by
  refine PS.imp (ps_while hp hc hb) fun D σ H q => ?_
  refine ⟨fun m σ H => ∃ env S ρ, SimE X.K H ρ env σ ∧ SimS X.K H ρ S ∧ Post X.K X.mg (fun c d H' => ∀ σ', W c d σ' H') S ρ H (whileN ta ba m env S) (kFl X.K D), ⟨n, q⟩, fun m σ H q => ?_⟩
  obtain ⟨env, S, ρ, se, ss, h⟩ := q
  cases m with
  | zero => exact h.elim
  | succ m =>
    refine ⟨env, S, ρ, se, ss, pre h fun k S1 ρ1 H1 _ x1 s1 h1 => ?_⟩
    have se1 := se.mono x1.st x1.pre
    cases k with
    | true =>
      refine ⟨fun σ' H' => ∃ env S ρ, SimE X.K H' ρ env σ' ∧ SimS X.K H' ρ S ∧ Post X.K X.mg (fun c d H' => ∀ σ', W c d σ' H') S ρ H' (whileN ta ba m env S) (kFl X.K D), fun σ' H' q => ⟨m, Nat.lt_succ_self m, q⟩, env, S1, ρ1, se1, s1, (Post.bnd h1).imp fun f S2 ρ2 H2 _ x2 s2 h2 => ?_⟩
      cases f with
      | nx env5 => exact fun σ5 se5 => ⟨env5, S2, ρ2, se5, s2, h2⟩
      | ct env5 => exact fun σ5 se5 => ⟨env5, S2, ρ2, se5, s2, h2⟩
      | bk env5 => exact fun σ5 se5 => h2 H2 ρ2 Ext.refl s2 σ5 se5
      | rt d => exact fun v rv => h2 H2 ρ2 Ext.refl s2 v rv
    | false => exact h1 H1 ρ1 Ext.refl s1 σ se1
end
end DL

namespace DL
open PySem PySem.Spec L2
variable [Nfo]
/-! ## the heap without the list that a comprehension makes -/
def del (H : Hp) (a : Addr) : Hp := fun b => if b = a then none else H b
theorem del_same {H : Hp} {a : Addr} : del H a a = none := by unfold del; rw [if_pos rfl]
theorem del_ne {H : Hp} {a b : Addr} (h : b ≠ a) : del H a b = H b := by unfold del; rw [if_neg h]
theorem upd_del {H : Hp} {a : Addr} {o u : HO} : upd (del H a) a o = upd H a o := by
  funext b
  by_cases hb : b = a
  · subst hb; rw [upd_same, upd_same]
  · rw [upd_ne hb, upd_ne hb, del_ne hb]
theorem del_some {H : Hp} {a b : Addr} {o : HO} (h : del H a b = some o) : b ≠ a ∧ H b = some o := by
  by_cases hb : b = a
  · subst hb; rw [del_same] at h; cases h
  · rw [del_ne hb] at h; exact ⟨hb, h⟩
section
variable {K : PySem.W.Frag} {H Hg H4 : Hp} {ρ ρ' : List Addr} {S S' : Sto} {p : Addr} {o : HO}
theorem tabs_del {T : List (Addr × Str)} {H : Hp} {a : Addr} {x : HO} (t : LamX.Tabs T H) (ea : H a = some x) (sx : stO x = false) (nx : ∀ ps, x ≠ .tbl ps) : LamX.Tabs T (del H a) := fun p hp => by
  obtain ⟨ps, h1, h2, h3⟩ := t p hp
  refine ⟨ps, ?_, h2, fun pos cv hc => ?_⟩
  · rw [del_ne (fun z => by rw [z, ea] at h1; exact nx ps (Option.some.inj h1))]
    exact h1
  · obtain ⟨c, e1, e2⟩ := h3 pos cv hc
    refine ⟨c, e1, ?_⟩
    rw [del_ne (fun z => by
      rw [z, ea] at e2
      cases e2
      cases sx)]
    exact e2
theorem ghost (x : Ext S ρ S' ρ' (upd Hg p o) H4) (hp : Hg p = none) (so : stO o = false) (ss : SimS K Hg ρ S) (s4 : SimS K H4 ρ' S') (nt : ∀ ps, o ≠ .tbl ps := by intro _ z; cases z) :
    H4 p = some o ∧ Ext S ρ S' ρ' Hg (del H4 p) ∧ SimS K (del H4 p) ρ' S' ∧ Stb H4 (del H4 p) := by
  have nl : ¬ Live S ρ p := ss.ne_live hp
  have e4 : H4 p = some o := x.fr p o upd_same nl nt
  have nl4 : ¬ Live S' ρ' p := fun l => (x.new p l).elim nl fun z => by
    obtain ⟨ps, e⟩ := z o upd_same
    exact nt ps e
  have st : Stb H4 (del H4 p) := fun b u e s => by
    rw [del_ne]
    · exact e
    · rintro rfl
      rw [e4] at e; cases e
      rw [so] at s; cases s
  refine ⟨e4, ⟨x.pre, fun b u e l t => ?_, fun b u e s => ?_, fun b l => ?_⟩, s4.at_ st (fun b l => del_ne fun z => nl4 (z ▸ l)) (tabs_del s4.tab e4 so nt), st⟩
  · have hb : b ≠ p := ne_of_none e hp
    rw [del_ne hb]
    exact x.fr b u (by rw [upd_ne hb]; exact e) l t
  · have hb : b ≠ p := ne_of_none e hp
    rw [del_ne hb]
    exact x.st b u (by rw [upd_ne hb]; exact e) s
  · rcases x.new b l with z | z
    · exact .inl z
    · refine .inr fun u e => ?_
      have hb : b ≠ p := ne_of_none e hp
      exact z u (by rw [upd_ne hb]; exact e)
/-- a list laid before is told to the store -/
theorem tell {u : Ob} (ss : SimS K Hg ρ S) (hp : Hg p = none) (q : ObR K (upd Hg p o) (ρ ++ [p]) u p) : SimS K (upd Hg p o) (ρ ++ [p]) (S ++ [u]) ∧ Ext S ρ (S ++ [u]) (ρ ++ [p]) Hg (upd Hg p o) := ss.push hp q
end
theorem off_wipe {σ σ' : L2.St} : ∀ {own : List Nat}, Off own (L2.wipe σ own) σ' → L2.wipe σ' own = L2.wipe σ own := fun {own} h => by
  have get : ∀ (own : List Nat) (σ : L2.St) (i : Nat), (L2.wipe σ own)[i]? = if i ∈ own then (if i < σ.length then some none else none) else σ[i]? := by
    intro own
    induction own with
    | nil => intro σ i; simp [L2.wipe]
    | cons v vs ih =>
      intro σ i
      show ((L2.wipe σ vs).set v none)[i]? = _
      by_cases hv : v = i
      · subst hv
        by_cases hl : v < σ.length
        · rw [List.getElem?_set_self (by rw [L2.wipe_length]; exact hl)]
          simp [hl]
        · rw [List.getElem?_eq_none (by rw [List.length_set, L2.wipe_length]; omega)]
          simp [hl]
      · rw [List.getElem?_set_ne hv, ih]
        simp [Ne.symm hv]
  apply List.ext_getElem?
  intro i
  have hl : σ'.length = σ.length := h.1.trans (L2.wipe_length σ own)
  rw [get, get, hl]
  by_cases hi : i ∈ own
  · simp [hi]
  · rw [if_neg hi, if_neg hi, h.2 i hi, get, if_neg hi]
theorem SimE.wipe {K : PySem.W.Frag} {H : Hp} {ρ : List Addr} {env : Env} {σ : L2.St} (s : SimE K H ρ env σ) : ∀ own : List Nat, SimE K H ρ (DL.wipe env own) (L2.wipe σ own)
  | [] => s
  | v :: vs => by
    have ih := s.wipe vs
    refine ⟨?_, fun i d h => ?_⟩
    · show ((DL.wipe env vs).set v none).length = ((L2.wipe σ vs).set v none).length
      rw [List.length_set, List.length_set]
      exact ih.len
    · replace h : ((DL.wipe env vs).set v none)[i]? = some (some d) := h
      show ∃ w, ((L2.wipe σ vs).set v none)[i]? = some (some w) ∧ _
      by_cases hv : v = i
      · subst hv
        by_cases hl : v < (DL.wipe env vs).length
        · rw [List.getElem?_set_self hl] at h; cases h
        · rw [List.getElem?_eq_none (by rw [List.length_set]; omega)] at h; cases h
      · rw [List.getElem?_set_ne hv] at h ⊢
        exact ih.at_ i d h
/-- in a comprehension's block nothing is raised -/
abbrev WN : WX := fun _ _ _ _ => False
section
variable {X : Cx} {W : WX} {a b c : Expr} {es : List Expr} {ra rb rc : E} {ta tb : T} {rs : As} {pp pos : Pos} {x : Str} {st : Stmt} {sts : List Stmt} {ba bb : B} {ri : DL.I} {g : G} {tg : Expr}
def GTs (X : Cx) (W : WX) (e : List Expr) (r : T) : Prop := PTs X e (rT X.K X.mg W r)
theorem gts_nil : GTs X W [] DL.tYes := by
  refine ⟨fun pins s σ H Q I h => pts_nil.run pins s σ H Q I ?_⟩
  obtain ⟨env, S, ρ, se, ss, h⟩ := h
  exact h H ρ Ext.refl ss
theorem gts_one (h : GT X W c ta) : GTs X W [c] ta := pts_one h
theorem tLc_mono {tt : TT} {te : TE} {vs : List Nat} {gg : TG} {σ : L2.St} {H : Hp} {Q Q' : VK} (f : ∀ x H1, Q x H1 → Q' x H1) (h : tLc (rI X.K X.mg W ri) gg tt te vs σ H Q) : tLc (rI X.K X.mg W ri) gg tt te vs σ H Q' := by
  obtain ⟨env, S, ρ, se, ss, h⟩ := h
  refine ⟨env, S, ρ, se, ss, h.imp fun ds S1 ρ1 H1 _ x1 s1 h1 J wd p hp => ?_⟩
  obtain ⟨Wm, w0, turn⟩ := h1 J wd p hp
  refine ⟨Wm, w0, fun i m H w => ?_⟩
  rcases turn i m H w with ⟨a, b⟩ | b
  · exact .inl ⟨a, f _ _ b⟩
  · exact .inr b
theorem lc_ok {fz : Bool} {own : List (Str × Nat)} {os : List Nat} (hos : ∀ i, i ∈ os → i ∈ own.map (·.2)) {σ : L2.St} {H : Hp} {Q : VK} (q : rE X.K X.mg W (eLc fz (own.map (·.2)) ri g ta ra) σ H Q) :
    tLc (rI X.K X.mg W ri) (rG X.K X.mg os g) (rT X.K X.mg WN ta) (rE X.K X.mg WN ra) (own.map (·.2)) σ H (frzQ Q) := by
  obtain ⟨env, S, ρ, se, ss, h⟩ := q
  refine ⟨env, S, ρ, se, ss, (Post.bnd h).imp fun ds S1 ρ1 H1 _ x1 s1 h1 J wd p hp => ?_⟩
  obtain ⟨⟨Gd, Y, wk, hG, hY⟩, hlen⟩ := wd
  have h1 : Post X.K X.mg W0 S1 ρ1 H1 (bnd (lcL g ta ra (DL.wipe env (own.map (·.2))) ds) (fun ys => mkL fz ys) S1) (fun d _ ρ' H' => ∀ v, DR X.K H' ρ' d v → Q v H') := h1.hush
  have sew := (se.mono x1.st x1.pre).wipe (own.map (·.2))
  have st1 : Stb H1 (upd H1 p (.lst [])) := stb_new hp
  refine lc_it wk (fun i Hc => ∃ Hg S2 ρ2 acc vs, Hg p = none ∧ Hc = upd Hg p (.lst vs) ∧ Stb H1 Hg ∧ ρ1 <+: ρ2 ∧ SimS X.K Hg ρ2 S2 ∧ DRs X.K Hg ρ2 acc vs ∧ acc.length ≤ i ∧
      Post X.K X.mg W0 S2 ρ2 Hg (bnd (lcL g ta ra (DL.wipe env (own.map (·.2))) (ds.drop i)) (fun ys => mkL fz (acc ++ ys)) S2) (fun d _ ρ' H' => ∀ v, DR X.K H' ρ' d v → Q v H'))
    ⟨H1, S1, ρ1, [], [], hp, rfl, Stb.refl _, List.prefix_refl _, s1, .nil, Nat.zero_le _, h1⟩ (fun i Hc _ q => ?_) (fun i x Hc H3 hi q y => ?_) (fun Hc q => ?_)
  · obtain ⟨Hg, S2, ρ2, acc, vs, g0, rfl, g1, _⟩ := q
    exact hG _ (g1.trans (stb_new g0))
  · obtain ⟨Hg, S2, ρ2, acc, vs, g0, rfl, g1, g2, s2, r2, l2, h2⟩ := q
    have e : ds[i]? = some ds[i] := List.getElem?_eq_getElem hi
    have stc : Stb Hg (upd Hg p (.lst vs)) := stb_new g0
    obtain ⟨hH, rd⟩ := hY i _ x H3 ds[i] ρ2 (g1.trans stc) g2 e y
    rw [List.drop_eq_getElem_cons hi] at h2
    -- to the heap at hand
    obtain ⟨sc, xc⟩ := s2.lay (o := .lst vs) g0
    have lay : Ext S2 ρ2 S2 ρ2 (upd Hg p (.lst vs)) H3 ∧ SimS X.K H3 ρ2 S2 := by
      rcases hH with rfl | ⟨p', o', hp', rfl⟩
      · exact ⟨Ext.refl, sc⟩
      · obtain ⟨s3, x3⟩ := sc.lay (o := o') hp'
        exact ⟨x3, s3⟩
    obtain ⟨x3, s3⟩ := lay
    have turn := Post.bnd (m := lcT g ta ra (DL.wipe env (own.map (·.2))) ds[i]) (f := fun o => bnd (lcL g ta ra (DL.wipe env (own.map (·.2))) (ds.drop (i + 1))) fun ys => mkL fz (acc ++ (o.toList ++ ys))) (S := S2) (K := X.K) (mg := X.mg) (W := W0) (ρ := ρ2) (H := Hg) (k := fun d _ ρ' H' => ∀ v, DR X.K H' ρ' d v → Q v H') (by
      have e2 : bnd (lcL g ta ra (DL.wipe env (own.map (·.2))) (ds[i] :: ds.drop (i + 1))) (fun ys => mkL fz (acc ++ ys)) S2 = bnd (lcT g ta ra (DL.wipe env (own.map (·.2))) ds[i]) (fun o => bnd (lcL g ta ra (DL.wipe env (own.map (·.2))) (ds.drop (i + 1))) fun ys => mkL fz (acc ++ (o.toList ++ ys))) S2 := by
        show bnd (bnd (lcT g ta ra (DL.wipe env (own.map (·.2))) ds[i]) fun o => bnd (lcL g ta ra (DL.wipe env (own.map (·.2))) (ds.drop (i + 1))) fun ys => ret (o.toList ++ ys)) (fun ys => mkL fz (acc ++ ys)) S2 = _
        unfold bnd
        cases lcT g ta ra (DL.wipe env (own.map (·.2))) ds[i] S2 with
        | ok o S3 =>
          dsimp only
          cases lcL g ta ra (DL.wipe env (own.map (·.2))) (ds.drop (i + 1)) S3 with
          | ok ys S4 => rfl
          | ex e' S4 => rfl
          | no => rfl
        | ex e' S3 => rfl
        | no => rfl
      rw [← e2]
      exact h2)
    -- what the turn gives, at the heap at hand
    have turnC : Post X.K X.mg W0 S2 ρ2 H3 (lcT g ta ra (DL.wipe env (own.map (·.2))) ds[i] S2) (fun o S4 ρ4 H4 => H4 p = some (.lst vs) ∧ ρ2 <+: ρ4 ∧ Stb Hg (del H4 p) ∧ Stb H4 (del H4 p) ∧ SimS X.K (del H4 p) ρ4 S4 ∧
        Post X.K X.mg W0 S4 ρ4 (del H4 p) (bnd (lcL g ta ra (DL.wipe env (own.map (·.2))) (ds.drop (i + 1))) (fun ys => mkL fz (acc ++ (o.toList ++ ys))) S4) (fun d _ ρ' H' => ∀ v, DR X.K H' ρ' d v → Q v H')) := by
      cases hq : lcT g ta ra (DL.wipe env (own.map (·.2))) ds[i] S2 with
      | ok o S4 =>
        rw [hq] at turn
        intro H4 ρ4 x4 s4
        obtain ⟨a1, a2, a3, a4⟩ := ghost (x3.trans x4) g0 rfl s2 s4
        exact ⟨a1, a2.pre, a2.st, a4, a3, turn _ _ a2 a3⟩
      | ex e' S4 =>
        rw [hq] at turn
        intro H4 ρ4 cls d x4 s4 er
        obtain ⟨a1, a2, a3, a4⟩ := ghost (x3.trans x4) g0 rfl s2 s4
        refine turn (del H4 p) ρ4 cls d a2 a3 ?_
        obtain ⟨C, c1, c2, c3⟩ := er
        refine ⟨C, c1, c2, ?_⟩
        cases hpay : e'.pay with
        | none => rw [hpay] at c3; exact c3
        | some fx =>
          rw [hpay] at c3
          obtain ⟨dd, v, d1, d2, d3⟩ := c3
          refine ⟨dd, v, d1, ?_, d3.mono a4⟩
          rw [del_ne]
          · exact d2
          · rintro rfl
            rw [a1] at d2; cases d2
      | no => rw [hq] at turn; exact turn
    have se3 := (sew.mono (g1.trans stc) g2).mono x3.st x3.pre
    refine ⟨ds[i], _, S2, ρ2, rd, se3, s3, ((Post.bnd (m := hush (g ds[i] (DL.wipe env (own.map (·.2))))) turnC).imp fun env1 S4 ρ4 H4 _ x4 s4 h4 σ4 se4 of4 => ?_).hush⟩
    refine ⟨off_wipe ⟨of4.1, fun j hj => of4.2 j fun z => hj (hos j z)⟩, env1, S4, ρ4, se4, s4, (Post.bnd h4).imp fun k S5 ρ5 H5 _ x5 s5 h5 => ?_⟩
    cases k with
    | true =>
      refine ⟨env1, S5, ρ5, se4.mono x5.st x5.pre, s5, (Post.bnd h5).imp fun d S6 ρ6 H6 _ x6 s6 h6 v rv => ?_⟩
      obtain ⟨b1, b2, b3, b4, b5, b6⟩ := h6 H6 ρ6 Ext.refl s6
      have rl := r2.length
      refine ⟨vs, b1, by rw [← big_line]; omega, del H6 p, S6, ρ6, acc ++ [d], vs ++ [v], del_same, by rw [upd_del (u := .lst vs)], g1.trans b3, g2.trans b2, b5, (r2.mono b3 b2).append (.cons (rv.mono b4 (List.prefix_refl _)) .nil), by rw [List.length_append, List.length_singleton]; omega, ?_⟩
      have e3 : ∀ ys, acc ++ [d] ++ ys = acc ++ ((some d).toList ++ ys) := fun ys => by simp
      simp only [e3]
      exact b6
    | false =>
      obtain ⟨b1, b2, b3, b4, b5, b6⟩ := h5 H5 ρ5 Ext.refl s5
      refine ⟨del H5 p, S5, ρ5, acc, vs, del_same, ?_, g1.trans b3, g2.trans b2, b5, r2.mono b3 b2, by omega, b6⟩
      rw [upd_del (u := .lst vs)]
      funext z
      by_cases hz : z = p
      · subst hz; rw [upd_same]; exact b1
      · rw [upd_ne hz]
  · obtain ⟨Hg, S2, ρ2, acc, vs, g0, rfl, g1, g2, s2, r2, l2, h2⟩ := q
    rw [List.drop_eq_nil_of_le (Nat.le_refl _)] at h2
    replace h2 : Post X.K X.mg W0 S2 ρ2 Hg (mkL fz (acc ++ []) S2) (fun d _ ρ' H' => ∀ v, DR X.K H' ρ' d v → Q v H') := h2
    rw [List.append_nil] at h2
    exact ansL s2 h2 r2 g0
theorem g_lc (fz : Bool) {scope : Scope} {own : List (Str × Nat)} {os : List Nat} {ifs : List Expr} (hc : X.calm = true) (hN : X.N.Nodup) (hi : GI X W tg b ri) (ok : BlkOk X.N X.env.scope scope own) (hos : ∀ i, i ∈ os → i ∈ own.map (·.2))
    (hg : ∀ (s : Shared) (H : Hp) (C : Addr) (cl : List (Str × Addr)) (fp : List Addr), GG (X.blk s H scope (compEnvC scope cl C X.env) fp) tg os g)
    (ht : ∀ (s : Shared) (H : Hp) (C : Addr) (cl : List (Str × Addr)) (fp : List Addr), GTs (X.blk s H scope (compEnvC scope cl C X.env) fp) WN ifs ta)
    (he : ∀ (s : Shared) (H : Hp) (C : Addr) (cl : List (Str × Addr)) (fp : List Addr), GE (X.blk s H scope (compEnvC scope cl C X.env) fp) WN a ra) (hs : ∀ x, foldedSetIterable b X.env x = pure x := by intro _; rfl) :
    GE X W (.ListComp a [⟨tg, b, ifs, 0⟩] scope pos) (eLc fz (own.map (·.2)) ri g ta ra) :=
  PE.imp (pe_frz (pe_lc (g := rG X.K X.mg os g) (tt := rT X.K X.mg WN ta) (te := rE X.K X.mg WN ra) hc hN hi ok hg ht he hs)) fun σ H Q q => lc_ok hos q
theorem gb_setLc (fz : Bool) {scope : Scope} {own : List (Str × Nat)} {os : List Nat} {ifs : List Expr} {i : Nat} {y : Str} {py spos : Pos} (hc : X.calm = true) (hN : X.N.Nodup) (hy : X.N[i]? = some y) (hyl : X.env.scope.names.lookup y = some .local)
    (hsw : swapsWith (.ListComp a [⟨tg, b, ifs, 0⟩] scope pos) (some (.Name y py)) spos.line X.env = pure true) (hi : GI X W tg b ri) (ok : BlkOk X.N X.env.scope scope own) (hos : ∀ i, i ∈ os → i ∈ own.map (·.2))
    (hg : ∀ (s : Shared) (H : Hp) (C : Addr) (cl : List (Str × Addr)) (fp : List Addr), GG (X.blk s H scope (compEnvC scope cl C X.env) fp) tg os g)
    (ht : ∀ (s : Shared) (H : Hp) (C : Addr) (cl : List (Str × Addr)) (fp : List Addr), GTs (X.blk s H scope (compEnvC scope cl C X.env) fp) WN ifs ta)
    (he : ∀ (s : Shared) (H : Hp) (C : Addr) (cl : List (Str × Addr)) (fp : List Addr), GE (X.blk s H scope (compEnvC scope cl C X.env) fp) WN a ra) (hs : ∀ x, foldedSetIterable b X.env x = pure x := by intro _; rfl) :
    GB X W (.Assign [.Name y py] (.ListComp a [⟨tg, b, ifs, 0⟩] scope pos) spos) (sSet i (eLc fz (own.map (·.2)) ri g ta ra)) := by
  refine PS.imp (ps_frz (ps_setLc (g := rG X.K X.mg os g) (tt := rT X.K X.mg WN ta) (te := rE X.K X.mg WN ra) hc hN hy hyl hsw hi ok hg ht he hs)) fun D σ H q => ?_
  have k := lc_ok (fz := fz) (own := own) (Q := fun x H1 => D.nx (σ.set i (some x)) H1) hos (by
    obtain ⟨env, S, ρ, se, ss, h⟩ := q
    exact ⟨env, S, ρ, se, ss, pre h fun d S1 ρ1 H1 _ x1 s1 h1 v rv => h1 H1 ρ1 Ext.refl s1 _ ((se.mono x1.st x1.pre).set i rv)⟩)
  have conv : ∀ (x : V) (H1 : Hp), frzQ (fun x H1 => D.nx (σ.set i (some x)) H1) x H1 → frzN D.nx (σ.set i (some x)) H1 := fun x H1 z => by
    rcases z with ⟨l, xs, rfl, hl, z⟩ | z
    · exact .inl ⟨l, xs, hl, z⟩
    · exact .inr z
  exact tLc_mono conv k
end
end DL

namespace DL
open PySem PySem.Spec L2
variable [Nfo]
section
variable {X : Cx} {W : WX} {a b c : Expr} {es : List Expr} {ra rb rc : E} {ta tb : T} {rs : As} {pp pos : Pos} {x y : Str} {st : Stmt} {sts : List Stmt} {ba bb : B} {ri : DL.I} {g : G} {tg : Expr}
/-! ## a list of data is told as data -/
theorem frz_set {S : Sto} {ρ : List Addr} {H : Hp} {n : Nat} {l : Addr} {ds : List D} {vs : List V} {o : Obj} (ss : SimS X.K H ρ S) (e : S[n]? = some (.lst ds)) (ha : ρ[n]? = some l) (hv : H l = some (.lst vs)) :
    SimS X.K (upd H l (.frz o (.lst vs))) ρ (S.set n .gone) ∧ Ext S ρ (S.set n .gone) ρ H (upd H l (.frz o (.lst vs))) := by
  have nst : Stb H (upd H l (.frz o (.lst vs))) := fun b y q s => by
    rw [upd_ne]
    · exact q
    · rintro rfl
      rw [hv] at q; cases q; cases s
  have get : ∀ {i : Nat} {u : Ob}, (S.set n .gone)[i]? = some u → u ≠ .gone → i ≠ n ∧ S[i]? = some u := fun {i u} q hu => by
    by_cases hi : n = i
    · subst hi
      rw [List.getElem?_set_self (List.getElem?_eq_some_iff.mp e).1] at q
      cases q; exact absurd rfl hu
    · rw [List.getElem?_set_ne hi] at q
      exact ⟨fun z => hi z.symm, q⟩
  refine ⟨⟨by simpa using ss.len, fun i j u w b q1 q2 h1 h2 e1 e2 => ss.inj i j u w b (get q1 h1).2 (get q2 h2).2 h1 h2 e1 e2, fun i u b q1 e1 => ?_, tabs_put ss.tab hv rfl fun _ z => nomatch z⟩, List.prefix_refl _, fun b y q nl _ => ?_, nst, fun b ⟨i, u, q1, h1, e1⟩ => .inl ⟨i, u, (get q1 h1).2, h1, e1⟩⟩
  · by_cases hu : u = .gone
    · subst hu; trivial
    · obtain ⟨hn, q⟩ := get q1 hu
      have hb : b ≠ l := fun z => by
        subst z
        exact hn (ss.inj i n u _ b q e hu (fun z => by cases z) e1 ha)
      exact obR_mono (List.prefix_refl _) nst (fun z => upd_ne hb) (ss.ob i u b q e1)
  · rw [upd_ne]
    · exact q
    · rintro rfl
      exact nl ⟨n, _, e, (fun z => by cases z), ha⟩
theorem g_frz (ha : GE X W a ra) : GE X W a (eFrz ra) := by
  refine PE.imp (pe_frz ha) fun σ H Q q => ?_
  obtain ⟨env, S, ρ, se, ss, q⟩ := q
  refine ⟨env, S, ρ, se, ss, (Post.bnd q).imp fun d S1 ρ1 H1 _ x1 s1 h1 v rv => ?_⟩
  have plain : d ≠ d ∨ True := .inr trivial
  cases d with
  | exn z => exact .inr (h1 H1 ρ1 Ext.refl s1 v rv)
  | p z => exact .inr (h1 H1 ρ1 Ext.refl s1 v rv)
  | tup z => exact .inr (h1 H1 ρ1 Ext.refl s1 v rv)
  | ref n =>
    cases rv with
    | @ref _ l e1 =>
      replace h1 : Post X.K X.mg _ S1 ρ1 H1 (match S1[n]? with
        | some (.lst ds) => match toPs ds with
          | some xs => R.ok (D.p (.list xs)) (S1.set n .gone)
          | none => .no
        | _ => .no) _ := h1
      cases q1 : S1[n]? with
      | none => rw [q1] at h1; exact h1.elim
      | some u =>
        rw [q1] at h1
        cases u with
        | lst ds =>
          replace h1 : Post X.K X.mg _ S1 ρ1 H1 (match toPs ds with
            | some xs => R.ok (D.p (.list xs)) (S1.set n .gone)
            | none => .no) _ := h1
          cases q2 : toPs ds with
          | none => rw [q2] at h1; exact h1.elim
          | some xs =>
            rw [q2] at h1
            obtain ⟨vs, hv, r⟩ := s1.ob n _ l q1 e1
            refine .inl ⟨l, vs, rfl, hv, fun o => ?_⟩
            obtain ⟨s2, x2⟩ := frz_set (o := o) s1 q1 e1 hv
            exact h1 _ ρ1 x2 s2 _ (.p (.lst (.inl ⟨o, upd_same⟩) ((toPs_dv q2 r).mono x2.st)))
        | dct kvs => exact h1.elim
        | gone => exact h1.elim

theorem pimp {α β : Type} {F G : α → β → Prop} (f : ∀ a b, F a b → G a b) {xs : List α} {ys : List β} (h : Paired F xs ys) : Paired G xs ys := by
  induction h with
  | nil => exact .nil
  | cons h t ih => exact .cons (f _ _ h) ih
/-! ## x[i] = v -/
def rSetAny : TSet := fun o i v H Q => rSetL o i v H Q ∨ ∃ a H', o = .ref a ∧ DPut H a i v H' ∧ Q H'
theorem set_any (hu : X.A.units + 1 < cLine) : PSet X rSetAny := by
  intro pins s σ H o i v ov iv u Q I ro ri rv h
  rcases h with h | ⟨a, H', rfl, g, q⟩
  · exact set_list pins s σ H o i v ov iv u Q I ro ri rv h
  · obtain rfl : ov = Value.ref a := ro
    exact d_setItem hu I g ri rv fun s3 I3 => ⟨H', I3, q⟩
theorem keyOf_v {K : PySem.W.Frag} {H : Hp} {k : PyData} {q : Ky} {v : V} (h : keyOf k = some q) (r : DV K H k v) : v = kV q := by
  cases r with
  | int i => cases h; rfl
  | str z => cases h; rfl
  | _ => cases h
theorem ixN_of {n : Nat} {i : Int} {j : Nat} (h : ixI n i = some j) : ixN n i = some j := by
  unfold ixI at h
  unfold ixN
  exact h
theorem put_pairs {K : PySem.W.Frag} {H : Hp} {ρ : List Addr} {q : Ky} {x : PyData} {v : V} {d : D} (hx : keyOf x = some q) (r : DR K H ρ d v) : ∀ {kvs : List (PyData × D)} {ws : List (Key × V)},
    Paired (fun (p : PyData × D) (q : Key × V) => keyOf p.1 = some q.1 ∧ DR K H ρ p.2 q.2) kvs ws → Paired (fun (p : PyData × D) (q : Key × V) => keyOf p.1 = some q.1 ∧ DR K H ρ p.2 q.2) (dPut kvs q x d) (putK ws q v) := by
  intro kvs ws h
  have he : (kvs.any fun kv => decide (keyOf kv.1 = some q)) = (ws.any fun kv => decide (kv.1 = q)) := by
    induction h with
    | nil => rfl
    | cons h t ih => rw [List.any_cons, List.any_cons, ih, h.1]; simp
  have hm : Paired (fun (p : PyData × D) (q : Key × V) => keyOf p.1 = some q.1 ∧ DR K H ρ p.2 q.2) (kvs.map (fun kv => if keyOf kv.1 = some q then (kv.1, d) else kv)) (ws.map (fun kv => if kv.1 = q then (kv.1, v) else kv)) := by
    induction h with
    | nil => exact .nil
    | @cons p w ps qs h t ih =>
      rw [List.map_cons, List.map_cons]
      refine .cons ?_ (ih ?_)
      · by_cases hq : w.1 = q
        · rw [if_pos (by rw [h.1, hq]), if_pos hq]; exact ⟨h.1, r⟩
        · rw [if_neg (by rw [h.1]; intro z; exact hq (Option.some.inj z)), if_neg hq]; exact h
      · rw [List.any_cons, List.any_cons, h.1] at he
        by_cases hq : w.1 = q
        · have : ∀ {ks : List (PyData × D)} {us : List (Key × V)}, Paired (fun (p : PyData × D) (q : Key × V) => keyOf p.1 = some q.1 ∧ DR K H ρ p.2 q.2) ks us → (ks.any fun kv => decide (keyOf kv.1 = some q)) = (us.any fun kv => decide (kv.1 = q)) := by
            intro ks us t
            induction t with
            | nil => rfl
            | cons h t ih => rw [List.any_cons, List.any_cons, ih, h.1]; simp
          exact this t
        · simpa [hq] using he
  have ha : ∀ {ks : List (PyData × D)} {us : List (Key × V)}, Paired (fun (p : PyData × D) (q : Key × V) => keyOf p.1 = some q.1 ∧ DR K H ρ p.2 q.2) ks us → Paired (fun (p : PyData × D) (q : Key × V) => keyOf p.1 = some q.1 ∧ DR K H ρ p.2 q.2) (ks ++ [(x, d)]) (us ++ [(q, v)]) := by
    intro ks us t
    induction t with
    | nil => exact .cons ⟨hx, r⟩ .nil
    | cons h t ih => exact .cons h ih
  unfold dPut putK
  rw [he]
  split
  · exact hm
  · exact ha h
theorem gg_sub (hu : X.A.units + 1 < cLine) (ha : GE X WN a ra) (hb : GE X WN b rb)
    (hs : ∀ v, assign (.Subscript a b pos) X.env v = (do
      let ov ← holding [v] (eval a X.env)
      let iv ← holding [v, ov] (eval b X.env)
      standAt pos
      holding [v, ov, iv] (setItem ov iv v)
      release [v, ov, iv] []) := by intro _; rfl) : GG X (.Subscript a b pos) [] (DL.gSub ra rb) := by
  refine PG.imp (pg_sub ha hb (set_any hu) hs) fun v σ H Q q => ?_
  obtain ⟨d, env, S, ρ, rv, se, ss, h⟩ := q
  refine ⟨env, S, ρ, se, ss, (Post.bnd h).hush.imp fun d1 S1 ρ1 H1 _ x1 s1 h1 v1 r1 => ?_⟩
  refine ⟨env, S1, ρ1, se.mono x1.st x1.pre, s1, (Post.bnd h1).hush.imp fun d2 S2 ρ2 H2 _ x2 s2 h2 v2 r2 => ?_⟩
  have se2 := (se.mono x1.st x1.pre).mono x2.st x2.pre
  have rv2 := (rv.mono x1.st x1.pre).mono x2.st x2.pre
  have r12 := r1.mono x2.st x2.pre
  have h3 := Post.bnd h2
  cases d1 with
  | exn _ => first | exact q.elim | exact h.elim | exact h1.elim | exact h2.elim | exact h3.elim | exact h4.elim | exact h5.elim | exact p.elim | cases h | cases q | cases e
  | p z => exact h3.elim
  | tup z => exact h3.elim
  | ref n =>
    cases d2 with
    | exn _ => first | exact q.elim | exact h.elim | exact h1.elim | exact h2.elim | exact h3.elim | exact h4.elim | exact h5.elim | exact p.elim | cases h | cases q | cases e
    | tup z => exact h3.elim
    | ref z => exact h3.elim
    | p k =>
      cases r12 with
      | @ref _ l e1 =>
        cases r2 with
        | p rk =>
          replace h3 : Post X.K X.mg _ S2 ρ2 H2 (match S2[n]? with
            | some (.lst ds) => match k with
              | .int i => match ixI ds.length i with
                | some j => R.ok () (S2.set n (.lst (ds.set j d)))
                | none => .no
              | _ => .no
            | some (.dct kvs) => match keyOf k with
              | some q => if kvs.length < big then R.ok () (S2.set n (.dct (dPut kvs q k d))) else .no
              | none => .no
            | _ => .no) _ := h3
          cases q1 : S2[n]? with
          | none => rw [q1] at h3; exact h3.elim
          | some u =>
            rw [q1] at h3
            cases u with
            | gone => exact h3.elim
            | lst ds =>
              obtain ⟨vs, hv, r⟩ := s2.ob n _ l q1 e1
              cases k with
              | int i =>
                cases rk
                replace h3 : Post X.K X.mg _ S2 ρ2 H2 (match ixI ds.length i with
                  | some j => R.ok () (S2.set n (.lst (ds.set j d)))
                  | none => .no) _ := h3
                cases q2 : ixI ds.length i with
                | none => rw [q2] at h3; exact h3.elim
                | some j =>
                  rw [q2] at h3
                  have rr : DRs X.K H2 ρ2 (ds.set j d) (vs.set j v) := by
                    clear q2 h3 q1 hv
                    induction r generalizing j with
                    | nil => exact .nil
                    | cons h t ih => cases j with
                      | zero => exact .cons rv2 t
                      | succ j => exact .cons h (ih j)
                  obtain ⟨s3, x3⟩ := putL s2 e1 q1 hv rr
                  refine .inl ⟨l, vs, i, j, rfl, rfl, hv, ixN_of (by rw [← r.length]; exact q2), ?_⟩
                  have h4 := h3 _ ρ2 x3 s3
                  exact h4 _ ρ2 Ext.refl s3 σ (se2.mono x3.st x3.pre) (Off.refl _ _)
              | _ => exact h3.elim
            | dct kvs =>
              obtain ⟨ws, hv, r⟩ := s2.ob n _ l q1 e1
              replace h3 : Post X.K X.mg _ S2 ρ2 H2 (match keyOf k with
                | some q => if kvs.length < big then R.ok () (S2.set n (.dct (dPut kvs q k d))) else .no
                | none => .no) _ := h3
              cases q2 : keyOf k with
              | none => rw [q2] at h3; exact h3.elim
              | some kk =>
                rw [q2] at h3
                obtain ⟨hl, h3⟩ := postIfR h3
                have st : Stb H2 (upd H2 l (.dK (putK ws kk v))) := fun b y e s => by
                  rw [upd_ne]
                  · exact e
                  · rintro rfl
                    rw [hv] at e; cases e
                    cases s
                have rr := put_pairs q2 rv2 r
                obtain ⟨s3, x3⟩ := s2.put (o := .dK (putK ws kk v)) (u := .dct (dPut kvs kk k d)) q1 (fun z => by cases z) e1 ⟨_, upd_same, pimp (fun p q h => ⟨h.1, h.2.mono st (List.prefix_refl _)⟩) rr⟩
                refine .inr ⟨l, _, rfl, by rw [keyOf_v q2 rk]; exact DPut.k hv (by rw [← Paired.length r]; exact hl), ?_⟩
                have h4 := h3 _ ρ2 x3 s3
                exact h4 _ ρ2 Ext.refl s3 σ (se2.mono x3.st x3.pre) (Off.refl _ _)

/-! ## displays of dicts -/
inductive GPs (X : Cx) (W : WX) (pos : Pos) : List (Option Expr) → List Expr → List (E × E) → Prop
  | nil : GPs X W pos [] [] []
  | cons {k v : Expr} {ks : List (Option Expr)} {vs : List Expr} {rk rv : E} {rs : List (E × E)} : GE X W k rk → GE X W v rv → GPs X W pos ks vs rs → GPs X W pos (some k :: ks) (v :: vs) ((rk, rv) :: rs)
def rPs (K : PySem.W.Frag) (mg : Str → Option Value) (W : WX) (ps : List (E × E)) : List (TE × TE) := ps.map fun p => (rE K mg W p.1, rE K mg W p.2)
theorem GPs.pps {ks : List (Option Expr)} {vs : List Expr} {rs : List (E × E)} (h : GPs X W pos ks vs rs) : PPs X pos ks vs (rPs X.K X.mg W rs) := by
  induction h with
  | nil => exact pps_nil
  | cons h1 h2 _ ih => exact pps_cons h1 h2 ih
theorem pairs_ok : ∀ {ps : List (E × E)} {σ : L2.St} {H : Hp} {env : Env} {S : Sto} {ρ : List Addr} {Q : List (V × V) → Hp → Prop}, SimE X.K H ρ env σ → SimS X.K H ρ S →
    Post X.K X.mg (fun c d H' => W c d σ H') S ρ H (ePairs ps env S) (fun kvs _ ρ' H' => ∀ vs, Paired (fun (p : PyData × D) (q : V × V) => DV X.K H' p.1 q.1 ∧ DR X.K H' ρ' p.2 q.2) kvs vs → Q vs H') → tPairs (rPs X.K X.mg W ps) σ H Q := by
  intro ps
  induction ps with
  | nil => intro σ H env S ρ Q se ss h; exact h H ρ Ext.refl ss [] .nil
  | cons p ps ih =>
    intro σ H env S ρ Q se ss h
    obtain ⟨rk, rv⟩ := p
    refine ⟨env, S, ρ, se, ss, (Post.bnd h).imp fun d1 S1 ρ1 H1 _ x1 s1 h1 v1 r1 => ?_⟩
    refine ⟨env, S1, ρ1, se.mono x1.st x1.pre, s1, (Post.bnd h1).imp fun d2 S2 ρ2 H2 _ x2 s2 h2 v2 r2 => ?_⟩
    refine ih ((se.mono x1.st x1.pre).mono x2.st x2.pre) s2 ((Post.bnd h2).imp fun kvs S3 ρ3 H3 _ x3 s3 h3 vs rvs => ?_)
    cases d1 with
    | exn _ => first | exact q.elim | exact h.elim | exact h1.elim | exact h2.elim | exact h3.elim | exact h4.elim | exact h5.elim | exact p.elim | cases h | cases q | cases e
    | p x =>
      cases r1 with
      | p r1 => exact h3 H3 ρ3 Ext.refl s3 _ (.cons ⟨(r1.mono x2.st).mono x3.st, r2.mono x3.st x3.pre⟩ rvs)
    | tup z => exact h3.elim
    | ref z => exact h3.elim
theorem merge_ok {K : PySem.W.Frag} {H : Hp} {ρ : List Addr} : ∀ {kvs : List (PyData × D)} {vs : List (V × V)} {acc m : List (PyData × D)} {ws : List (Key × V)}, Paired (fun (p : PyData × D) (q : V × V) => DV K H p.1 q.1 ∧ DR K H ρ p.2 q.2) kvs vs → DL.mergeD acc kvs = some m →
    Paired (fun (p : PyData × D) (q : Key × V) => keyOf p.1 = some q.1 ∧ DR K H ρ p.2 q.2) acc ws → ∃ qs : List (Key × V), vs = qs.map (fun kv => (kV kv.1, kv.2)) ∧ Paired (fun (p : PyData × D) (q : Key × V) => keyOf p.1 = some q.1 ∧ DR K H ρ p.2 q.2) m (mergeK ws qs) := by
  intro kvs
  induction kvs with
  | nil =>
    intro vs acc m ws h e r
    cases h
    cases e
    exact ⟨[], rfl, r⟩
  | cons p kvs ih =>
    intro vs acc m ws h e r
    cases h with
    | @cons _ q _ vs h t =>
      obtain ⟨x, d⟩ := p
      replace e : (match keyOf x with | some k => DL.mergeD (dPut acc k x d) kvs | none => none) = some m := e
      cases q1 : keyOf x with
      | none => rw [q1] at e; cases e
      | some k =>
        rw [q1] at e
        obtain ⟨qs, e1, r1⟩ := ih t e (put_pairs q1 h.2 r)
        refine ⟨(k, q.2) :: qs, ?_, r1⟩
        rw [List.map_cons, ← e1, ← keyOf_v q1 h.1]
theorem pghost {α : Type} {r : R α} {K : PySem.W.Frag} {mg : Str → Option Value} {Wx : XW} {S : Sto} {ρ : List Addr} {H : Hp} {p : Addr} {o : HO} {k : α → Sto → List Addr → Hp → Prop} (hp : H p = none) (so : stO o = false) (ss : SimS K H ρ S)
    (h : Post K mg Wx S ρ H r k) (nt : ∀ ps, o ≠ .tbl ps := by intro _ z; cases z) : Post K mg Wx S ρ (upd H p o) r (fun a S' ρ' H' => H' p = some o ∧ Stb H' (del H' p) ∧ SimS K (del H' p) ρ' S' ∧ k a S' ρ' (del H' p)) := by
  cases r with
  | ok a S' =>
    intro H4 ρ4 x4 s4
    obtain ⟨a1, a2, a3, a4⟩ := ghost x4 hp so ss s4 nt
    exact ⟨a1, a4, a3, h _ _ a2 a3⟩
  | ex e S' =>
    obtain ⟨s0, x0⟩ := ss.lay (o := o) hp
    exact fun H' ρ' cls d e' s' => h H' ρ' cls d (x0.trans e') s'
  | no => exact h
theorem g_dict {keys : List (Option Expr)} {values : List Expr} {ps : List (E × E)} (h : GPs X W pos keys values ps) (hall : keys.all (·.isSome) = true) (hl : keys.length = values.length) (h0 : keys ≠ []) (h15 : keys.length ≤ 15) :
    GE X W (.Dict keys values pos) (eDict ps) := by
  refine PE.imp (pe_disp h.pps hall hl h0 h15) fun σ H Q q p np => ?_
  obtain ⟨env, S, ρ, se, ss, q⟩ := q
  obtain ⟨s0, x0⟩ := ss.lay (o := .dK []) np
  refine pairs_ok (se.mono x0.st x0.pre) s0 ((pghost np rfl ss (Post.bnd q)).imp fun kvs S1 ρ1 H1 _ x1 s1 h1 vs rvs => ?_)
  obtain ⟨e1, st1, s1, h1⟩ := h1
  replace rvs := pimp (fun (a : PyData × D) (b : V × V) h => And.intro (h.1.mono st1) (h.2.mono st1 (List.prefix_refl ρ1))) rvs
  cases q1 : DL.mergeD [] kvs with
  | none => rw [q1] at h1; exact h1.elim
  | some m =>
    rw [q1] at h1
    obtain ⟨hl, h1⟩ := postIf (c := kvs.length ≤ 15) h1
    obtain ⟨qs, e2, r2⟩ := merge_ok rvs q1 .nil
    refine ⟨e1, qs, e2, ?_, ?_⟩
    · have := Paired.length rvs
      rw [e2, List.length_map] at this
      omega
    · have dn : del H1 p p = none := del_same
      have stn := stb_new (o := .dK (mergeK [] qs)) dn
      obtain ⟨s2, x2⟩ := s1.push (o := .dK (mergeK [] qs)) (u := .dct m) dn ⟨_, upd_same, pimp (fun a b h => ⟨h.1, h.2.mono stn (List.prefix_append _ _)⟩) r2⟩
      have h2 := h1 _ _ x2 s2 (.ref p) (.ref (by rw [List.getElem?_append_right (by rw [s1.len]; exact Nat.le_refl _), s1.len, Nat.sub_self]; rfl))
      rw [upd_del (u := .dK [])] at h2
      exact h2
/-! ## i, j = .. -/
theorem gb_par2 (i j : Nat) {px py pt : Pos} {kt k2 : Nat} {pt2 : Pos} (hc : X.calm = true) (hN : X.N.Nodup) (hi : X.N[i]? = some x) (hj : X.N[j]? = some y) (hij : i ≠ j)
    (hx : X.env.scope.names.lookup x = some .local) (hy : X.env.scope.names.lookup y = some .local) (ha : GA X W [a, b] rs)
    (hw : swappedStores [.Tuple [.Name x px, .Name y py] kt pt] (.Tuple [a, b] k2 pt2) X.env = pure (some [x, y]))
    (hs : swapsWithSole [.Tuple [.Name x px, .Name y py] kt pt] (.Tuple [a, b] k2 pt2) pos.line X.env = pure false := by rfl) :
    GB X W (.Assign [.Tuple [.Name x px, .Name y py] kt pt] (.Tuple [a, b] k2 pt2) pos) (sPar2 i j rs) := by
  refine PS.imp (ps_par hc hN hi hj hij hx hy ha hw hs) fun D σ H q => ?_
  obtain ⟨env, S, ρ, se, ss, h⟩ := q
  refine ⟨env, S, ρ, se, ss, pre h fun ds S1 ρ1 H1 _ x1 s1 h1 vs rvs => ?_⟩
  cases rvs with
  | nil => exact h1.elim
  | cons r1 t =>
    cases t with
    | nil => exact h1.elim
    | cons r2 t =>
      cases t with
      | cons _ _ => exact h1.elim
      | nil => exact ⟨_, _, rfl, h1 H1 ρ1 Ext.refl s1 _ (((se.mono x1.st x1.pre).set i r1).set j r2)⟩
theorem gb_par3 (i j l : Nat) {z : Str} {px py pz pt pos : Pos} {kt k2 pt2} (hc : X.calm = true) (hN : X.N.Nodup) (hi : X.N[i]? = some x) (hj : X.N[j]? = some y) (hl : X.N[l]? = some z) (hij : i ≠ j) (hil : i ≠ l) (hjl : j ≠ l)
    (hx : X.env.scope.names.lookup x = some .local) (hy : X.env.scope.names.lookup y = some .local) (hz : X.env.scope.names.lookup z = some .local) (ha : GA X W [a, b, c] rs)
    (hw : swappedStores [.Tuple [.Name x px, .Name y py, .Name z pz] kt pt] (.Tuple [a, b, c] k2 pt2) X.env = pure (some [x, y, z]))
    (hs : swapsWithSole [.Tuple [.Name x px, .Name y py, .Name z pz] kt pt] (.Tuple [a, b, c] k2 pt2) pos.line X.env = pure false := by rfl) :
    GB X W (.Assign [.Tuple [.Name x px, .Name y py, .Name z pz] kt pt] (.Tuple [a, b, c] k2 pt2) pos) (sPar3 i j l rs) := by
  refine PS.imp (ps_par3 hc hN hi hj hl hij hil hjl hx hy hz ha hw hs) fun D σ H q => ?_
  obtain ⟨env, S, ρ, se, ss, h⟩ := q
  refine ⟨env, S, ρ, se, ss, pre h fun ds S1 ρ1 H1 _ x1 s1 h1 vs rvs => ?_⟩
  cases rvs with
  | nil => exact h1.elim
  | cons r1 t =>
    cases t with
    | nil => exact h1.elim
    | cons r2 t =>
      cases t with
      | nil => exact h1.elim
      | cons r3 t =>
        cases t with
        | cons _ _ => exact h1.elim
        | nil => exact ⟨_, _, _, rfl, h1 H1 ρ1 Ext.refl s1 _ ((((se.mono x1.st x1.pre).set i r1).set j r2).set l r3)⟩
/-! ## raise C('..') -/
theorem gb_raise {C : Addr} {bmB : List Value} {B newId initId : String} {m : Str} {j : Nat} {p p2 pos' : Pos} (F : ExcBaseFacts B newId initId bmB) (hq : PySem.W.excIn X.K C bmB newId = true) (gC : X.mg x = some (.ref C)) (kC : PySem.W.keepIn X.K (.ref C) = true)
    (r : Raises X (.ref C)) (hg : Gl X x) (hc : X.calm = true) (tk : Takes X W) (hdb : (x == ("__debug__" : Str)) = false := by decide) :
    GB X W (.Raise (some (.Call (.Name x p) [.Constant (.str m) j p2] [] pos)) none pos') (sRaise ⟨x, none⟩) := by
  refine PS.imp (ps_raise hc tk (pmk_own F hq gC kC r hg hdb)) fun D σ H q => ?_
  obtain ⟨env, S, ρ, se, ss, h⟩ := q
  exact h H ρ (.ref C) none Ext.refl ss ⟨C, gC, rfl, rfl⟩ σ
end
end DL

namespace DL
open PySem PySem.Spec L2 PyProof.Rows
variable [Nfo]
/-! ## defs: what they promise -/
structure FnD (P : Program) (w : World) (K : PySem.W.Frag) (mg : Str → Option Value) (base : Heap) (k : Nat) (f : Addr) (fd : FuncData) (ps : List Str) (F : List D → M D) : Prop where
  len : ∀ ds S, ds.length ≠ ps.length → F ds S = .no
  run : ∀ (A : Around) (oes : List PySem.Env) (s0 : Shared) (H : Hp) (as : Args) (us : List Value) (vs : List V) (ds : List D) (ρ : List Addr) (S : Sto) (Q : VK) (Wx : XW), Room k A → A.guards = some [] → Env0 P w K mg base A oes s0 H → BindsTo s0 fd as (ps.zip us) → Vals vs us →
    DRs K H ρ ds vs → SimS K H ρ S → Post K mg Wx S ρ H (F ds S) (fun d _ ρ' H' => ∀ v, DR K H' ρ' d v → Q v H') → codeAny (model P w) A (.call (.ref f) as) (CR (L2.CX P w) oes P w H s0 Q Wx) s0
theorem FnD.mono {P : Program} {w : World} {K : PySem.W.Frag} {mg : Str → Option Value} {base : Heap} {j k : Nat} {f : Addr} {fd : FuncData} {ps : List Str} {F : List D → M D} (h : FnD P w K mg base j f fd ps F) (l : j ≤ k) : FnD P w K mg base k f fd ps F :=
  ⟨h.len, fun A oes s0 H as us vs ds ρ S Q Wx r => h.run A oes s0 H as us vs ds ρ S Q Wx (r.mono l)⟩
/-- no way at all -/
theorem FnD.zero {P : Program} {w : World} {K : PySem.W.Frag} {mg : Str → Option Value} {base : Heap} {k : Nat} {f : Addr} {fd : FuncData} {ps : List Str} : FnD P w K mg base k f fd ps (fun _ => no) :=
  ⟨fun _ _ _ => rfl, fun A oes s0 H as us vs ds ρ S Q Wx _ _ _ _ _ _ _ h => h.elim⟩
section
variable {X : Cx} {W : WX} {k : Nat} {f : Addr} {fd : FuncData} {ps : List Str} {F : List D → M D} {x : Str} {p pos : Pos} {e : Expr} {es : List Expr} {rs : As}
theorem run_fnD {pins : List (Addr × Obj)} {σ : L2.St} {H : Hp} {s : Shared} {Q : VK} {us : List Value} {vs : List V} {ds : List D} {ρ : List Addr} {S : Sto} (h : FnD X.prog X.w X.K X.mg X.base k f fd ps F) (hr : Room k X.A) (hG : X.A.guards = some []) (hb : Binds X.K fd ps []) (tk : Takes X W)
    (I : Inv X pins σ H s) (r : Vals vs us) (rd : DRs X.K H ρ ds vs) (ss : SimS X.K H ρ S) (q : Post X.K X.mg (fun c d H' => W c d σ H') S ρ H (F ds S) (fun d _ ρ' H' => ∀ v, DR X.K H' ρ' d v → Q v H')) :
    wpAny (model X.prog X.w) X.A (call (.ref f) us) (EP X pins σ Q) X.xe s := by
  have hl : us.length = ps.length := by
    rw [← r.length, ← rd.length]
    by_cases z : ds.length = ps.length
    · exact z
    · rw [h.len ds S z] at q; exact q.elim
  have bd := hb s us I.kIn (by rw [List.append_nil]; exact hl)
  rw [List.append_nil] at bd
  have cd := h.run X.A X.stack s H ⟨us, []⟩ us vs ds ρ S Q (fun c d H' => W c d σ H') hr hG I.env0 bd r rd ss q
  refine wpAny_call (codeAny_mono cd fun res s2 hq => ?_)
  cases res with
  | error er => exact passAt tk σ pins H s er s2 I hq
  | ok fl => cases fl with
    | ret u => exact I.after hq
    | next => exact hq.elim
    | brk => exact hq.elim
    | cont => exact hq.elim
def spD (W : WX) (F : List D → M D) : Cx → List V → Hp → VK → L2.St → Prop := fun X vs H Q σ => ∃ ds S ρ, DRs X.K H ρ ds vs ∧ SimS X.K H ρ S ∧ Post X.K X.mg (fun c d H' => W c d σ H') S ρ H (F ds S) (fun d _ ρ' H' => ∀ v, DR X.K H' ρ' d v → Q v H')
theorem pe_callD {t : TA} (h : FnD X.prog X.w X.K X.mg X.base k f fd ps F) (hr : Room k X.A) (hG : X.A.guards = some []) (hg : Gl X x) (hm : X.mg x = some (.ref f)) (hk : PySem.W.keepIn X.K (.ref f) = true) (hb : Binds X.K fd ps []) (tk : Takes X W)
    (ha : PA X (e :: es) t) (hdb : (x == ("__debug__" : Str)) = false) (he : starEach (e :: es) X.env = (false, eval e X.env) :: starEach es X.env) (hpl : (backTo pos (starEach es X.env)).any (·.1) = false) :
    PE X (.Call (.Name x p) (e :: es) [] pos) (fun σ H Q => t σ H fun vs H1 => spD W F X vs H1 Q σ) := by
  refine ⟨fun pins s σ H Q I q => wpAny_Call_Name_kw (ld_glob I hg hm ?_ hdb)⟩
  have arg := ha.run pos pins s σ H _ I q
  refine PySem.W.callWith_K (h₀ := X.base) I.ok.mod.kin hk (thn arg fun us s1 z => ?_) he hpl
  obtain ⟨vs, H1, I1, r, ds, S, ρ, rd, ss, q1⟩ := z
  exact ⟨I1.kIn, run_fnD h hr hG hb tk I1 r rd ss q1⟩
theorem pe_callD0 (h : FnD X.prog X.w X.K X.mg X.base k f fd ps F) (hr : Room k X.A) (hG : X.A.guards = some []) (hg : Gl X x) (hm : X.mg x = some (.ref f)) (hk : PySem.W.keepIn X.K (.ref f) = true) (hb : Binds X.K fd ps []) (tk : Takes X W)
    (hdb : (x == ("__debug__" : Str)) = false) :
    PE X (.Call (.Name x p) [] [] pos) (fun σ H Q => spD W F X [] H Q σ) := by
  refine ⟨fun pins s σ H Q I q => wpAny_Call_Name_kw (ld_glob I hg hm ?_ hdb)⟩
  obtain ⟨ds, S, ρ, rd, ss, q1⟩ := q
  exact PySem.W.callWith_K0 I.kIn hk (run_fnD (us := []) h hr hG hb tk I .nil rd ss q1)
theorem args_ok {σ : L2.St} {H : Hp} {Q : VK} {G : List D → M D} (q : rE X.K X.mg W (fun env => bnd (rs env) G) σ H Q) (hF : ∀ (ds : List D) (S : Sto) (ρ : List Addr) (H1 : Hp) (vs : List V), DRs X.K H1 ρ ds vs → SimS X.K H1 ρ S → Post X.K X.mg (fun c d H' => W c d σ H') S ρ H1 (G ds S) (fun d _ ρ' H' => ∀ v, DR X.K H' ρ' d v → Q v H') →
    spD W F X vs H1 Q σ) : rA X.K X.mg W rs σ H fun vs H1 => spD W F X vs H1 Q σ := by
  obtain ⟨env, S, ρ, se, ss, h⟩ := q
  exact ⟨env, S, ρ, se, ss, (Post.bnd h).imp fun ds S1 ρ1 H1 _ x1 s1 h1 vs rv => hF ds S1 ρ1 H1 vs rv s1 h1⟩
/-! three kinds of calls -/
theorem callL_ok {σ : L2.St} {H : Hp} {Q : VK} (ds : List D) (S : Sto) (ρ : List Addr) (vs : List V) (r : DRs X.K H ρ ds vs) (ss : SimS X.K H ρ S) (h : Post X.K X.mg (fun c d H' => W c d σ H') S ρ H (F ds S) (fun d _ ρ' H' => ∀ v, DR X.K H' ρ' d v → Q v H')) : spD W F X vs H Q σ := ⟨ds, S, ρ, r, ss, h⟩
theorem simS_nil {K : PySem.W.Frag} {H : Hp} (t : LamX.Tabs Nfo.T H) : SimS K H [] [] := ⟨rfl, fun i j o u a e => by simp at e, fun i o a e => by simp at e, t⟩
theorem not_live_nil {ρ : List Addr} {a : Addr} : ¬ Live [] ρ a := fun ⟨i, o, e, _⟩ => by simp at e
/-- from an own, empty store back to the caller's -/
theorem ext_own {K : PySem.W.Frag} {H H' : Hp} {ρ ρ' : List Addr} {S S' : Sto} (ss : SimS K H ρ S) (x : Ext [] [] S' ρ' H H') (s' : SimS K H' ρ' S') : Ext S ρ S ρ H H' ∧ SimS K H' ρ S := by
  have fr : ∀ b o, H b = some o → (∀ ps, o ≠ .tbl ps) → H' b = some o := fun b o e t => x.fr b o e not_live_nil t
  exact ⟨⟨List.prefix_refl _, fun b o e _ t => fr b o e t, x.st, fun b l => .inl l⟩, ⟨ss.len, ss.inj, fun i o a e1 e2 => obR_mono (List.prefix_refl _) x.st (fun z => by
    obtain ⟨u, q, _, nt⟩ := ss.live_some3 ⟨i, o, e1, z, e2⟩
    rw [q, fr a u q nt]) (ss.ob i o a e1 e2), s'.tab⟩⟩
theorem dps_of {ds : List D} {ys : List PyData} {K : PySem.W.Frag} {H : Hp} {ρ : List Addr} {vs : List V} (h : toPs ds = some ys) (r : DRs K H ρ ds vs) : DRs K H [] (ys.map .p) vs := (toPs_dv h r).drs
theorem callP_ok {σ : L2.St} {H : Hp} {Q : VK} (ds : List D) (S : Sto) (ρ : List Addr) (vs : List V) (r : DRs X.K H ρ ds vs) (ss : SimS X.K H ρ S)
    (h : Post X.K X.mg (fun c d H' => W c d σ H') S ρ H ((match toPs ds with | some ys => pure1 (F (ys.map .p) []) | none => no) S) (fun d _ ρ' H' => ∀ v, DR X.K H' ρ' d v → Q v H')) : spD W F X vs H Q σ := by
  cases q : toPs ds with
  | none => rw [q] at h; exact h.elim
  | some ys =>
    rw [q] at h
    refine ⟨ys.map .p, [], [], dps_of q r, simS_nil ss.tab, ?_⟩
    replace h : Post X.K X.mg (fun c d H' => W c d σ H') S ρ H (pure1 (F (ys.map .p) []) S) (fun d _ ρ' H' => ∀ v, DR X.K H' ρ' d v → Q v H') := h
    cases q2 : F (ys.map .p) [] with
    | no => rw [q2] at h; exact h.elim
    | ex e' S' =>
      rw [q2] at h
      intro H' ρ' cls d x1 s1 er
      obtain ⟨x2, s2⟩ := ext_own ss x1 s1
      exact h H' ρ cls d x2 s2 er
    | ok d S' =>
      rw [q2] at h
      replace h : Post X.K X.mg (fun c d H' => W c d σ H') S ρ H (match toP d with | some x => R.ok (D.p x) S | none => .no) (fun d _ ρ' H' => ∀ v, DR X.K H' ρ' d v → Q v H') := h
      cases q3 : toP d with
      | none => rw [q3] at h; exact h.elim
      | some y =>
        rw [q3] at h
        intro H' ρ' x1 s1 v rv
        obtain ⟨x2, s2⟩ := ext_own ss x1 s1
        exact h H' ρ x2 s2 v (.p (toP_dv q3 rv))
/-- the store's part below n -/
theorem refs_lt {K : PySem.W.Frag} {H : Hp} {ρ : List Addr} {n : Nat} {d : D} {v : V} (r : DR K H ρ d v) (h : ∀ m ∈ refsD d, m < n) : DR K H (ρ.take n) d v := by
  induction r with
  | p r => exact .p r
  | @tup a vs ds h1 h2 h3 ih =>
    refine .tup h1 h2 fun i d v e1 e2 => ih i d v e1 e2 fun m hm => h m ?_
    have : ∀ (ds : List D) (i : Nat), ds[i]? = some d → m ∈ refsDs ds := by
      intro ds
      induction ds with
      | nil => intro i e; simp at e
      | cons y ys ih =>
        intro i e
        show m ∈ refsD y ++ refsDs ys
        cases i with
        | zero => simp at e; subst e; exact List.mem_append_left _ hm
        | succ i => exact List.mem_append_right _ (ih i (by simpa using e))
    show m ∈ refsDs ds
    exact this ds i e1
  | @ref m a e => exact .ref (by rw [List.getElem?_take_of_lt (h m (List.mem_singleton.mpr rfl))]; exact e)
  | exn h1 h2 => exact .exn h1 h2
theorem take_ok {K : PySem.W.Frag} {H H1 : Hp} {ρ ρ1 : List Addr} {S S1 : Sto} (ss : SimS K H ρ S) (x : Ext S ρ S1 ρ1 H H1) (s1 : SimS K H1 ρ1 S1) (hc : (S1.take S.length).all (fun o => match o with
        | .lst ds => decide (∀ m ∈ refsDs ds, m < S.length)
        | .dct kvs => kvs.all fun kv => decide (∀ m ∈ refsD kv.2, m < S.length)
        | .gone => true) = true) : Ext S ρ (S1.take S.length) (ρ1.take S.length) H H1 ∧ SimS K H1 (ρ1.take S.length) (S1.take S.length) := by
  have get : ∀ {i : Nat} {o : Ob}, (S1.take S.length)[i]? = some o → i < S.length ∧ S1[i]? = some o := fun {i o} e => by
    rw [List.getElem?_take] at e
    split at e
    · exact ⟨‹_›, e⟩
    · cases e
  have getr : ∀ {i : Nat} {o : Addr}, (ρ1.take S.length)[i]? = some o → i < S.length ∧ ρ1[i]? = some o := fun {i o} e => by
    rw [List.getElem?_take] at e
    split at e
    · exact ⟨‹_›, e⟩
    · cases e
  refine ⟨⟨?_, x.fr, x.st, fun b ⟨i, o, e1, h1, e2⟩ => x.new b ⟨i, o, (get e1).2, h1, (getr e2).2⟩⟩, ⟨?_, fun i j o u a e1 e2 h1 h2 e3 e4 => s1.inj i j o u a (get e1).2 (get e2).2 h1 h2 (getr e3).2 (getr e4).2, fun i o a e1 e2 => ?_, s1.tab⟩⟩
  · obtain ⟨t, rfl⟩ := x.pre
    rw [List.take_append_of_le_length (by rw [ss.len]; exact Nat.le_refl _), List.take_of_length_le (by rw [ss.len]; exact Nat.le_refl _)]
    exact List.prefix_refl _
  · rw [List.length_take, List.length_take, s1.len]
  · have cl := List.all_eq_true.mp hc o (List.mem_of_getElem? e1)
    have ob := s1.ob i o a (get e1).2 (getr e2).2
    cases o with
    | gone => trivial
    | lst ds =>
      obtain ⟨vs, h1, r⟩ := ob
      have cl := of_decide_eq_true cl
      refine ⟨vs, h1, ?_⟩
      have : ∀ {ds : List D} {vs : List V}, (∀ m ∈ refsDs ds, m < S.length) → DRs K H1 ρ1 ds vs → DRs K H1 (ρ1.take S.length) ds vs := by
        intro ds vs cl r
        induction r with
        | nil => exact .nil
        | @cons d v ds vs h t ih => exact .cons (refs_lt h fun m hm => cl m (List.mem_append_left _ hm)) (ih fun m hm => cl m (List.mem_append_right _ hm))
      exact this cl r
    | dct kvs =>
      obtain ⟨ws, h1, r⟩ := ob
      refine ⟨ws, h1, ?_⟩
      replace cl : (kvs.all fun kv => decide (∀ m ∈ refsD kv.2, m < S.length)) = true := cl
      clear h1 e1
      induction r with
      | nil => exact .nil
      | cons h t ih =>
        rw [List.all_cons, Bool.and_eq_true] at cl
        exact .cons ⟨h.1, refs_lt h.2 (of_decide_eq_true cl.1)⟩ (ih cl.2)
theorem callT_ok {σ : L2.St} {H : Hp} {Q : VK} (ds : List D) (S : Sto) (ρ : List Addr) (vs : List V) (r : DRs X.K H ρ ds vs) (ss : SimS X.K H ρ S)
    (h : Post X.K X.mg (fun c d H' => W c d σ H') S ρ H (cut1 S.length (F ds S)) (fun d _ ρ' H' => ∀ v, DR X.K H' ρ' d v → Q v H')) : spD W F X vs H Q σ := by
  refine ⟨ds, S, ρ, r, ss, ?_⟩
  cases q : F ds S with
  | no => rw [q] at h; exact h.elim
  | ex e' S' => rw [q] at h; exact h
  | ok d S' =>
    rw [q] at h
    unfold cut1 at h
    cases q2 : toP d with
    | none => simp only [q2] at h; exact h.elim
    | some y =>
      simp only [q2] at h
      obtain ⟨hc, h⟩ := postIfR h
      intro H' ρ' x1 s1 v rv
      obtain ⟨x2, s2⟩ := take_ok ss x1 s1 hc
      exact h H' _ x2 s2 v (.p (toP_dv q2 rv))
section
variable (h : FnD X.prog X.w X.K X.mg X.base k f fd ps F) (hr : Room k X.A) (hG : X.A.guards = some []) (hg : Gl X x) (hm : X.mg x = some (.ref f)) (hk : PySem.W.keepIn X.K (.ref f) = true) (hb : Binds X.K fd ps []) (tk : Takes X W)
include h hr hG hg hm hk hb tk
theorem g_call (ha : GA X W (e :: es) rs) (hdb : (x == ("__debug__" : Str)) = false := by decide) (he : starEach (e :: es) X.env = (false, eval e X.env) :: starEach es X.env := by rfl) (hpl : (backTo pos (starEach es X.env)).any (·.1) = false := by rfl) :
    GE X W (.Call (.Name x p) (e :: es) [] pos) (eCall F rs) :=
  PE.imp (pe_callD h hr hG hg hm hk hb tk ha hdb he hpl) fun σ H Q q => args_ok q fun ds S ρ H1 vs r ss h => callP_ok ds S ρ vs r ss h
theorem g_callL (ha : GA X W (e :: es) rs) (hdb : (x == ("__debug__" : Str)) = false := by decide) (he : starEach (e :: es) X.env = (false, eval e X.env) :: starEach es X.env := by rfl) (hpl : (backTo pos (starEach es X.env)).any (·.1) = false := by rfl) :
    GE X W (.Call (.Name x p) (e :: es) [] pos) (eCallL F rs) :=
  PE.imp (pe_callD h hr hG hg hm hk hb tk ha hdb he hpl) fun σ H Q q => args_ok q fun ds S ρ H1 vs r ss h => callL_ok ds S ρ vs r ss h
theorem g_callT (ha : GA X W (e :: es) rs) (hdb : (x == ("__debug__" : Str)) = false := by decide) (he : starEach (e :: es) X.env = (false, eval e X.env) :: starEach es X.env := by rfl) (hpl : (backTo pos (starEach es X.env)).any (·.1) = false := by rfl) :
    GE X W (.Call (.Name x p) (e :: es) [] pos) (eCallT F rs) :=
  PE.imp (pe_callD h hr hG hg hm hk hb tk ha hdb he hpl) fun σ H Q q => args_ok (G := fun ds S => cut1 S.length (F ds S)) q fun ds S ρ H1 vs r ss h => callT_ok ds S ρ vs r ss h
end
end
end DL

namespace DL
open PySem PySem.Spec L2 PyProof.Rows
variable [Nfo]
section
variable {P : Program} {w : World} {K : PySem.W.Frag} {mg : Str → Option Value} {base : Heap}
/-- the wish of a def's body about errors -/
abbrev WB (Wx : XW) : WX := fun cls d _ H => Wx cls d H
theorem startE {K : PySem.W.Frag} {H : Hp} {ρ : List Addr} {N : List Str} {ds : List D} {vs : List V} (r : DRs K H ρ ds vs) : SimE K H ρ (DL.start N.length ds) (L2.start N vs) := by
  have hl := r.length
  unfold DL.start L2.start
  refine ⟨by simp [hl], fun i d h => ?_⟩
  by_cases hi : i < ds.length
  · rw [List.getElem?_append_left (by simpa using hi), List.getElem?_map] at h
    cases q : ds[i]? with
    | none => rw [q] at h; cases h
    | some e =>
      rw [q] at h
      cases h
      obtain ⟨v, e2, rv⟩ := r.get q
      exact ⟨v, by rw [List.getElem?_append_left (by simpa [← hl] using hi), List.getElem?_map, e2]; rfl, rv⟩
  · rw [List.getElem?_append_right (by simpa using hi), List.getElem?_replicate] at h
    split at h <;> cases h
/-- a def by the reading of its body -/
theorem fnD_of {k : Nat} {f : Addr} {x qual : Str} {st : Stmt} {fd : FuncData} {N ps : List Str} {b : B} {m n : Nat} (F : Fun K x qual st f fd) (sc : FnScope N ps (defScope st)) (hm : ps.length = m) (hn : N.length = n)
    (hb : ∀ (cdv : Value) (A : Around) (oes : List PySem.Env) (s0 : Shared) (H : Hp) (Wx : XW), A.guards = some [] → Room k (A.deeper (envOfC qual (defScope st) s0.heap.objs.size f cdv)) →
      GBs (cxOf (L2.CX P w) P w K mg base N qual (defScope st) f cdv A oes s0 H Wx) (WB Wx) (defBody st) b) : FnD P w K mg base (k + 1) f fd ps (DL.body m n b) := by
  subst hm hn
  obtain ⟨oc, od, kV, doc, pm, an, cdv, ct, osl, rfl, lk, hcd⟩ := F.ex
  refine ⟨fun ds S z => by show (if ds.length = ps.length then _ else no) S = _; rw [if_neg z]; rfl, fun A oes s0 H as us vs ds ρ S Q Wx room gd e0 bnds rv rd ss post => ?_⟩
  obtain ⟨hl, post⟩ : ds.length = ps.length ∧ Post K mg Wx S ρ H (bnd (b (DL.start N.length ds)) (fun f => match f with | .nx _ => ret (.p .none) | .rt d => ret d | _ => no) S) (fun d _ ρ' H' => ∀ v, DR K H' ρ' d v → Q v H') := by
    by_cases z : ds.length = ps.length
    · refine ⟨z, ?_⟩
      have e : DL.body ps.length N.length b ds = bnd (b (DL.start N.length ds)) (fun f => match f with | .nx _ => ret (.p .none) | .rt d => ret d | _ => no) := if_pos z
      rw [← e]; exact post
    · have e : DL.body ps.length N.length b ds = no := if_neg z
      rw [e] at post; exact post.elim
  have vl : vs.length = ps.length := rd.length.symm.trans hl
  have Kin : K.In s0.heap := e0.mod.kin.keeps fun b o e => (e0.bs b o e).1
  have nolim : s0.heap.NoLimit := e0.mod.nolimit.keeps fun b o e => (e0.bs b o e).1
  have kinds : ∀ y ∈ ps.zip us, (defScope st).names.lookup y.1 = some .local ∨ ((defScope st).names.lookup y.1 = some .cell ∧ ((cellsFrom (s0.heap.objs.size + 1) (defScope st).names []).lookup y.1).isSome = true) := fun ⟨a, v⟩ hy =>
    (sc.par a (List.of_mem_zip hy).1).imp id fun q => ⟨q, PySem.W.cellsFrom_some _ _ _ (.inl q)⟩
  refine codeAny_call_function room.depth (Kin _ _ lk) rfl sc.co sc.gen rfl (PySem.W.codeRec_of Kin hcd) (bnds _ _ _ _ ?_)
  refine wpAny_newFunctionEnv_cells sc.kind kinds fun env he s1 ic => ?_
  subst he
  refine ⟨nolim.keeps ic.toInCall.keep, codeAny_func ?_⟩
  have inv : Inv (cxOf (L2.CX P w) P w K mg base N qual (defScope st) f cdv A oes s0 H Wx) [] (L2.start N vs) H s1 := inv_start sc room.hd e0 vl rv ic
  have read : rB K mg (WB Wx) b { nx := fun _ H' => Q .non H', rt := Q } (L2.start N vs) H := by
    refine ⟨_, S, ρ, startE rd, ss, ?_⟩
    have p2 := Post.bnd post
    cases q : b (DL.start N.length ds) S with
    | no => rw [q] at p2; exact p2.elim
    | ex e' S' =>
      rw [q] at p2
      exact fun H' ρ' cls d x1 s1 er _ => p2 H' ρ' cls d x1 s1 er
    | ok fl S' =>
      rw [q] at p2
      intro H' ρ' x1 s1
      have p3 := p2 H' ρ' x1 s1
      cases fl with
      | nx env' => exact fun σ' _ => p3 H' ρ' Ext.refl s1 _ (.p .non)
      | rt d => exact fun v rv => p3 H' ρ' Ext.refl s1 v rv
      | bk env' => exact p3.elim
      | ct env' => exact p3.elim
  have go := (hb cdv A oes s0 H Wx gd (room.deeper _)).run [] s1 (L2.start N vs) H { nx := fun _ H' => Q .non H', rt := Q } inv read
  have done : ∀ {s2 : Shared} {σ2 : L2.St} {H2 : Hp} {v : V} {u : Value}, Inv (cxOf (L2.CX P w) P w K mg base N qual (defScope st) f cdv A oes s0 H Wx) [] σ2 H2 s2 → RelV v u → Q v H2 → CE oes P w H s0 Q u s2 :=
    fun {s2 σ2 H2 v u} J r q => ⟨v, H2, J.os, J.bare, J.base, J.hok, r, q⟩
  refine wpAny_mono go (fun fl s2 h2 => ?_) fun er s2 h2 => h2
  cases fl with
  | next =>
    obtain ⟨σ2, H2, J, q⟩ := h2
    exact done (v := .non) J rfl q
  | ret u =>
    obtain ⟨v, σ2, H2, J, r, q⟩ := h2
    exact done J r q
  | brk => exact h2.elim fun _ z => z.elim fun _ z => z.2.elim
  | cont => exact h2.elim fun _ z => z.elim fun _ z => z.2.elim
/-- what every def's body may use -/
theorem takesB {P : Program} {w : World} {K : PySem.W.Frag} {mg : Str → Option Value} {base : Heap} {N : List Str} {qual : Str} {scope : Scope} {f : Addr} {cdv : Value} {A : Around} {oes : List PySem.Env} {s0 : Shared} {H : Hp} {Wx : XW} :
    Takes (cxOf (L2.CX P w) P w K mg base N qual scope f cdv A oes s0 H Wx) (WB Wx) := takes_of rfl rfl rfl rfl
theorem takesN {X : Cx} : Takes X WN := fun u s' ⟨_, _, _, _, _, _, _, _, _, _, _, _, _, _, _, _, z⟩ => z.elim
end
theorem u1 {k : Nat} {A : Around} (r : Room k A) : A.units + 1 < cLine := by
  have := r.un
  omega
theorem u65 {k : Nat} {A : Around} (r : Room k A) : A.units + 65 < cLine := by
  have := r.un
  omega

theorem ints_dv {K : PySem.W.Frag} {H : Hp} : ∀ ns : List Int, DVs K H (ns.map .int) (ns.map V.int)
  | [] => .nil
  | n :: ns => .cons (.int n) (ints_dv ns)
theorem ints_rel : ∀ {us : List Value} {ns : List Int}, IntsAre us ns → Vals (ns.map V.int) us
  | _, _, .nil => .nil
  | _, _, .cons i j t => .cons ⟨j, rfl⟩ (ints_rel t)
theorem law_end {P : Program} {w : World} {K : PySem.W.Frag} {mg mb : Str → Option Value} {k : Nat} {fa a : Addr} {fd : FuncData} {x : Str} {F : List D → M D} {s1 : Shared} {us : List Value} {ns : List Int} (kin : K.In s1.heap) (gns : s1.heap.Ns mainGlobals mg) (bns : s1.heap.Ns builtinsNs mb)
    (bbs : ∀ z : Str, z ≠ "__name__" → mb z = bootBuiltins z) (nolim : s1.heap.NoLimit) (gens : s1.gens = #[]) (at_ : s1.heap.get? a = some { cls := .type "list", data := .seq us.toArray }) (ui : IntsAre us ns) (un : ns.length ≤ 63) (room : Room k callerA)
    (fn : ∀ bs : Heap, K.In bs → bs.Ns mainGlobals mg → FnD P w K mg bs k fa fd [x] F) (bnd1 : ∀ (s : Shared) (u : Value), BindsTo s fd ⟨[u], []⟩ [(x, u)]) (hF : lawP F) (noT : Nfo.T = []) :
    codeAny (model P w) callerA (.call (.ref fa) ⟨[.ref a], []⟩) (fun r s2 => r = .ok (.ret (.bool true)) ∧ OldK s1.heap s2.heap ∧ s2.os = s1.os ∧ AllBare s2.gens) s1 := by
  have rel := ints_rel ui
  have ul := ui.length
  have line : ns.length ≤ sizeLine := Nat.le_trans un (by rw [sizeLine_eq]; decide)
  suffices main : ∀ G : Hp, (∀ b, G b ≠ none → b = a) → (∀ b, G b = none ∨ ∃ o xs, G b = some (.frz o (.lst xs))) → Fz K G a (ns.map V.int) → HOk P w G s1.heap → (G a ≠ none → K.lookup a = none) →
      codeAny (model P w) callerA (.call (.ref fa) ⟨[.ref a], []⟩) (fun r s2 => r = .ok (.ret (.bool true)) ∧ OldK s1.heap s2.heap ∧ s2.os = s1.os ∧ AllBare s2.gens) s1 by
    cases hk : K.lookup a with
    | some o =>
      have e := kin a o hk
      rw [at_] at e
      injection e with e
      subst e
      exact main (fun _ => none) (fun _ z => absurd rfl z) (fun _ => .inl rfl) (.inr ⟨_, us.toArray, _, hk, rfl, rfl, rfl, by rw [List.size_toArray, ul]; exact line, by simpa using rel⟩) (fun _ _ z => nomatch z) fun z => absurd rfl z
    | none =>
      have here : ∀ b (u : HO), (if b = a then some (HO.frz { cls := .type "list", data := .seq us.toArray } (.lst (ns.map V.int))) else none) = some u → b = a ∧ u = HO.frz { cls := .type "list", data := .seq us.toArray } (.lst (ns.map V.int)) := fun b u z => by
        split at z
        · cases z; exact ⟨‹_›, rfl⟩
        · cases z
      refine main (fun b => if b = a then some (.frz { cls := .type "list", data := .seq us.toArray } (.lst (ns.map V.int))) else none) (fun b z => ?_) (fun b => ?_) (.inl ⟨_, if_pos rfl⟩) (fun b u z => ?_) fun _ => hk
      · by_cases hb : b = a
        · exact hb
        · exact absurd (if_neg hb) z
      · by_cases hb : b = a
        · exact .inr ⟨_, _, if_pos hb⟩
        · exact .inl (if_neg hb)
      · obtain ⟨rfl, rfl⟩ := here b u z
        exact ⟨at_, by rw [List.length_map]; exact line, us, _, rel, at_⟩
  intro G one shape fz hok away
  have low : ∀ {b : Addr} {o : Obj}, s1.heap.get? b = some o → G b = none → (hidT s1.heap G).get? b = some o := fun e n => hidT_get e n
  have dicts : ∀ {b : Addr} {o : Obj} {es : Array DictEntry} {ep : Nat}, s1.heap.get? b = some o → o.data = .dict es ep → G b = none := fun {b o es ep} e d => by
    apply Classical.byContradiction
    intro z
    have e2 := one b z
    subst e2
    rw [at_] at e
    cases e
    cases d
  have names : ∀ {b : Addr} {m : Str → Option Value}, s1.heap.Ns b m → (hidT s1.heap G).Ns b m := fun {b m} z => by
    obtain ⟨o, es, ep, e, d, r⟩ := z
    exact ⟨o, es, ep, low e (dicts e d), d, r⟩
  have inb : K.In (hidT s1.heap G) := fun b o e => low (kin b o e) (by
    apply Classical.byContradiction
    intro z
    have e2 := one b z
    subst e2
    rw [away z] at e
    cases e)
  have mod : Mod K mg (hidT s1.heap G) := by
    obtain ⟨mc, c1, c2⟩ := nolim
    exact ⟨inb, names gns, ⟨mb, names bns, bbs⟩, mc, names c1, c2⟩
  have env0 : Env0 P w K mg (hidT s1.heap G) callerA [] s1 G := ⟨rfl, mod, fun b o e => of_hidT e, Nat.le_of_eq (hidT_size _ _), trivial, fun b hb => absurd (show b ∈ ([] : List Addr) from hb) (by simp), hok, .of_eq gens⟩
  obtain ⟨S, hS⟩ := hF ns un
  have go := (fn _ inb (names gns)).run callerA [] s1 G ⟨[.ref a], []⟩ [.ref a] [.ref a] [.p (.list (ns.map .int))] [] [] (fun v _ => v = .bl true) (fun _ _ _ => False) room rfl env0 (bnd1 s1 (.ref a)) (.cons rfl .nil)
    (.cons (.p (.lst fz (ints_dv ns))) .nil) (simS_nil fun p hp => by rw [noT] at hp; cases hp) (by
      rw [hS]
      intro H2 ρ2 x2 s2 v rv
      cases rv with
      | p rv => cases rv; rfl)
  refine codeAny_mono go fun r s2 h => ?_
  match r, h with
  | .error e, h => obtain ⟨_, _, _, _, _, _, _, _, _, _, _, _, z⟩ := h; exact z.elim
  | .ok .next, h => exact h.elim
  | .ok .brk, h => exact h.elim
  | .ok .cont, h => exact h.elim
  | .ok (.ret u), h =>
    obtain ⟨v, H2, os, bare, un2, hok2, ru, q⟩ := h
    have q2 : v = .bl true := q
    subst q2
    obtain rfl : u = Value.bool true := ru
    refine ⟨rfl, OldK.of_keep fun b o e => ?_, os, bare⟩
    rcases shape b with z | ⟨ob, xs, z⟩
    · exact un2.keep b o e z (by intro z; exact absurd (show b ∈ ([] : List Addr) from z) (by simp)) (by simp)
    · have f1 := (hok b _ z).1
      rw [e] at f1
      cases f1
      exact (hok2 b _ (un2.frzs b o _ z)).1
omit [Nfo] in
/-- the goal that k_head leaves -/
theorem law_walk {l : PySem.W.OpenLaw} {k : Nat} {q : Program} {loose : List Str} {XP : (Str → Option Value) → Heap → Prop} {YP : World → Heap → Prop} {d : DefRec} {K : Params → PySem.W.Frag} {F : List D → M D} {x : Str} (hn : l.most = some 63) (hdf : d.params.defaults = []) (room : Room k callerA)
    (hY : ∀ (w : World) (h : Heap), YP w h → (K w.params).In h)
    (fns : ∀ (w : World) (mg : Str → Option Value) (fa : Addr) (h : Heap), (K w.params).In h → h.Ns mainGlobals mg → mg d.name = some (.ref fa) →
      ∃ (N : Nfo) (fd : FuncData), N.T = [] ∧ (∀ (s : Shared) (u : Value), BindsTo s fd ⟨[u], []⟩ [(x, u)]) ∧ ∀ bs : Heap, (K w.params).In bs → bs.Ns mainGlobals mg → @FnD N l.prog w (K w.params) mg bs k fa fd [x] F) (hF : lawP F) :
    PySem.W.WalkO q loose XP YP l.row.toRowW d [] (fun f vs => PySem.call f vs) :=
  Att.attach_call hn hdf fun w s0 s1 mg mb fa o pm cd doc a vs ns G Y ho hd hcd hmg hobj hi hlen hg => by
    have kin := hY w _ Y
    obtain ⟨N, fd, noT, b1, f1⟩ := fns w mg fa _ kin G.T.g hmg
    exact law_end kin G.T.g G.T.b G.T.builtins G.T.nolimit hg hobj hi hlen room f1 b1 hF noT
end DL

namespace DL
open PySem PySem.Spec L2
variable [Nfo]
section
variable {X : Cx} {W : WX} {a b c : Expr} {es : List Expr} {ra rb rc : E} {ta tb : T} {rs : As} {p pos : Pos} {x : Str}
/-! ## is None -/
theorem isN_ok {K : PySem.W.Frag} {H : Hp} {ρ : List Addr} {d : D} {v : V} (neg : Bool) (r : DR K H ρ d v) : ∃ k, fIsN neg d = ret (.p (.bool k)) ∧ k = (neg ^^ decide (v = .non)) := by
  cases r with
  | exn _ => exact ⟨neg, rfl, by cases neg <;> rfl⟩
  | tup _ _ _ => exact ⟨neg, rfl, by cases neg <;> rfl⟩
  | ref _ => exact ⟨neg, rfl, by cases neg <;> rfl⟩
  | p r =>
    refine ⟨_, rfl, ?_⟩
    cases r <;> cases neg <;> rfl
theorem g_isN {j : Nat} {q : Pos} (ha : GE X W a ra) (hm : behindInMarks .Is (.Constant .none j q) = false := by rfl) : GE X W (.Compare a [.Is] [.Constant .none j q] pos) (e1D (fIsN false) ra) := by
  refine PE.imp (pe_cmpR op_isN ha pe_non hm) fun σ H Q h => ?_
  obtain ⟨env, S, ρ, se, ss, h⟩ := h
  refine ⟨env, S, ρ, se, ss, (Post.bnd h).imp fun d S1 ρ1 H1 _ x1 s1 h1 v rv => ?_⟩
  obtain ⟨k, e, ek⟩ := isN_ok false rv
  rw [e] at h1
  rw [Bool.false_xor] at ek
  subst ek
  exact ⟨rfl, h1 H1 ρ1 Ext.refl s1 _ (.p (.bl _))⟩
theorem g_notN {j : Nat} {q : Pos} (ha : GE X W a ra) (hm : behindInMarks .IsNot (.Constant .none j q) = false := by rfl) : GE X W (.Compare a [.IsNot] [.Constant .none j q] pos) (e1D (fIsN true) ra) := by
  refine PE.imp (pe_cmpR op_notN ha pe_non hm) fun σ H Q h => ?_
  obtain ⟨env, S, ρ, se, ss, h⟩ := h
  refine ⟨env, S, ρ, se, ss, (Post.bnd h).imp fun d S1 ρ1 H1 _ x1 s1 h1 v rv => ?_⟩
  obtain ⟨k, e, ek⟩ := isN_ok true rv
  rw [e] at h1
  rw [Bool.true_xor] at ek
  subst ek
  exact ⟨rfl, h1 H1 ρ1 Ext.refl s1 _ (.p (.bl _))⟩
theorem gt_isN {j : Nat} {q : Pos} (ha : GE X W a ra) (hm : behindInMarks .Is (.Constant .none j q) = false := by rfl) : GT X W (.Compare a [.Is] [.Constant .none j q] pos) (tVal (e1D (fIsN false) ra)) := by
  refine PT.imp (pt_cmpR op_isN ha pe_non hm) fun σ H Q h => ?_
  obtain ⟨env, S, ρ, se, ss, h⟩ := h
  refine ⟨env, S, ρ, se, ss, ?_⟩
  have h0 : Post X.K X.mg (fun c d H' => W c d σ H') S ρ H (bnd (ra env) (fun d => bnd (fIsN false d) fun x => match x with | .p (.bool b) => ret b | _ => no) S) (fun b _ _ H' => Q b H') := by
    have e : bnd (ra env) (fun d => bnd (fIsN false d) fun x => match x with | .p (.bool b) => ret b | _ => no) S = tVal (e1D (fIsN false) ra) env S := by
      unfold tVal e1D bnd
      cases ra env S <;> rfl
    rw [e]; exact h
  refine (Post.bnd h0).imp fun d S1 ρ1 H1 _ x1 s1 h1 v rv => ?_
  obtain ⟨k, e, ek⟩ := isN_ok false rv
  rw [e] at h1
  rw [Bool.false_xor] at ek
  subst ek
  exact ⟨rfl, _, rfl, h1 H1 ρ1 Ext.refl s1⟩
theorem gt_notN {j : Nat} {q : Pos} (ha : GE X W a ra) (hm : behindInMarks .IsNot (.Constant .none j q) = false := by rfl) : GT X W (.Compare a [.IsNot] [.Constant .none j q] pos) (tVal (e1D (fIsN true) ra)) := by
  refine PT.imp (pt_cmpR op_notN ha pe_non hm) fun σ H Q h => ?_
  obtain ⟨env, S, ρ, se, ss, h⟩ := h
  refine ⟨env, S, ρ, se, ss, ?_⟩
  have h0 : Post X.K X.mg (fun c d H' => W c d σ H') S ρ H (bnd (ra env) (fun d => bnd (fIsN true d) fun x => match x with | .p (.bool b) => ret b | _ => no) S) (fun b _ _ H' => Q b H') := by
    have e : bnd (ra env) (fun d => bnd (fIsN true d) fun x => match x with | .p (.bool b) => ret b | _ => no) S = tVal (e1D (fIsN true) ra) env S := by
      unfold tVal e1D bnd
      cases ra env S <;> rfl
    rw [e]; exact h
  refine (Post.bnd h0).imp fun d S1 ρ1 H1 _ x1 s1 h1 v rv => ?_
  obtain ⟨k, e, ek⟩ := isN_ok true rv
  rw [e] at h1
  rw [Bool.true_xor] at ek
  subst ek
  exact ⟨rfl, _, rfl, h1 H1 ρ1 Ext.refl s1⟩
/-! ## x.extend(y) -/
theorem ext_any (T : String) (hT : T = "list" ∨ T = "tuple") (l : Addr) (items : Array Value) (n : Nat) (b : Addr) (items2 : Array Value) (n2 : Nat) (dd : Option Addr) (sl : Array (Option Value)) (h0 : ¬(!items.isEmpty && Builtin.List.listTooLong (items.size + items2.size)) = true) (h1 : items.size ≤ sizeLine) (h2 : items.size + items2.size ≤ sizeLine + 1) :
    Meets (Builtin.«list.extend» ⟨[.ref l, .ref b], []⟩) (fun _ R s => s.heap.get? l = some { cls := .type "list", dict := none, data := .seq items n, slots := #[] } ∧ s.heap.get? b = some { cls := .type T, dict := dd, data := .seq items2 n2, slots := sl } ∧ R (.ok (.ret Value.none)) { s with heap := s.heap.update l (Obj.mapSeq fun x => x ++ items2), toks := s.toks }) :=
  .of_wp fun prog w A R s h => by
    obtain ⟨hp, g, d, tk, os⟩ := s
    obtain ⟨hl, hb, h⟩ := h
    have f1 := AutoSeq1.idx_int
    have f2 := AutoSeq1.sub_tuple_tuple
    have f3 := AutoSeq1.sub_list_list
    have f4 := AutoSeq1.sub_tuple_list
    have f5 := AutoSeq1.sub_list_tuple
    have hz : (items ++ items2).size ≤ sizeLine + 1 := by rw [Array.size_append]; exact h2
    rcases hT with rfl | rfl
    · wp_walk using (wpAny_updateSeq hl rfl (hz := h1) (_hz' := hz)), wpAny_loadPart' hl, wpAny_loadPart' hb
      exact ⟨_, rfl, h⟩
    · wp_walk using (wpAny_updateSeq hl rfl (hz := h1) (_hz' := hz)), wpAny_loadPart' hl, wpAny_loadPart' hb
      exact ⟨_, rfl, h⟩
def rExt (K : PySem.W.Frag) : V → List V → Hp → VK → Prop := fun x vs H Q => ∃ l b xs zs, x = .ref l ∧ vs = [.ref b] ∧ H l = some (.lst xs) ∧ (SqL K H b zs ∨ SqT K H b zs) ∧ xs.length + zs.length ≤ sizeLine ∧ Q .non (upd H l (.lst (xs ++ zs)))
theorem mt_ext : MtR X "list.extend" (rExt X.K) := by
  intro pins s σ H x vs v us Q I rx rv h
  obtain ⟨l, b, xs, zs, rfl, rfl, hH, hB, hz, q⟩ := h
  cases rx
  obtain ⟨u, rfl, ru⟩ := rv.one
  cases ru
  obtain ⟨z, its, n, r, hl, e⟩ := I.lstM hH
  obtain ⟨T, hT, its2, dd, sl, n2, r2, e2⟩ : ∃ (T : String) (hT : T = "list" ∨ T = "tuple") (its2 : List Value) (dd : Option Addr) (sl : Array (Option Value)) (n2 : Nat), Vals zs its2 ∧ s.heap.get? b = some { cls := .type T, dict := dd, data := .seq its2.toArray n2, slots := sl } := by
    rcases hB with hB | hB
    · obtain ⟨its2, r2, ⟨⟨cls2, dd2, data2, sl2⟩, n2, e2, ec2, ed2, es2⟩, z2⟩ := I.list hB
      simp only at ec2 ed2 es2
      subst ec2 ed2 es2
      exact ⟨"list", .inl rfl, its2, _, sl2, n2, r2, e2⟩
    · obtain ⟨its2, r2, ⟨⟨cls2, dd2, data2, sl2⟩, e2, ec2, n2, ed2⟩, z2⟩ := I.tuple hB
      simp only at ec2 ed2
      subst ec2 ed2
      exact ⟨"tuple", .inr rfl, its2, dd2, sl2, n2, r2, e2⟩
  have l2 := r2.length
  have hsz : its.toArray.size + its2.toArray.size ≤ sizeLine := by rw [List.size_toArray, List.size_toArray]; omega
  have hlong : ¬ (!its.toArray.isEmpty && Builtin.List.listTooLong (its.toArray.size + its2.toArray.size)) = true := by
    rw [notLongL hsz, Bool.and_false]
    exact Bool.false_ne_true
  refine call_meets PySem.F.slot_list_extend ⟨_, e, rfl⟩ PySem.F.entry_list_extend (PySem.F.args_list_extend_2 _ _) (ext_any T hT l its.toArray n b its2.toArray n2 dd sl hlong (by rw [List.size_toArray]; omega) (by omega)) ⟨e, e2, ?_⟩
  exact ⟨.non, _, I.lset (its' := its ++ its2) hH e (by simp) (r.append r2) (by rw [List.length_append]; omega), rfl, q⟩
theorem g_extend {apos : Pos} (ha : GE X W a ra) (hb : GE X W b rb) (hbase : attributeBase a "extend" X.env (eval a X.env) = eval a X.env := by rfl)
    (hfew : ((backTo pos (starEach (b :: []) X.env)).all (fun x => !x.1) && (backToKw pos (keywordEach [] X.env)).all (fun x => x.1.isSome) && decide ((b :: []).length + ([] : List Keyword).length + (if ([] : List Keyword).isEmpty then 0 else 1) < 30)) = true := by rfl)
    (hline : (apos.endLine == pos.line) = true := by rfl) (hs : starEach (b :: []) X.env = (false, eval b X.env) :: starEach [] X.env := by rfl) (hpl : (backTo pos (starEach [] X.env)).any (·.1) = false := by rfl) :
    GE X W (.Call (.Attribute a "extend" apos) [b] [] pos) (eM1 fExt ra rb) := by
  refine g_m1 PySem.F.plainAttrs_list PySem.F.slot_list_extend PySem.F.type_list_extend mt_ext ha hb (fun d e S ρ H2 v u Q Wx ss rv ru h => ?_) hbase hfew hline hs hpl
  cases d with
  | exn _ => first | exact q.elim | exact h.elim | exact h1.elim | exact h2.elim | exact h3.elim | exact h4.elim | exact h5.elim | exact p.elim | cases h | cases q | cases e
  | p _ => exact h.elim
  | tup _ => exact h.elim
  | ref n =>
    cases rv with
    | @ref _ l e1 =>
      have ansE : ∀ (ds es : List D) (us : List V) (b2 : Addr), u = .ref b2 → S[n]? = some (.lst ds) → (SqL X.K H2 b2 us ∨ SqT X.K H2 b2 us) → DRs X.K H2 ρ es us → ds.length + es.length ≤ big →
          Post X.K X.mg Wx S ρ H2 (R.ok (D.p .none) (S.set n (.lst (ds ++ es)))) (fun d _ ρ' H' => ∀ v, DR X.K H' ρ' d v → Q v H') → rExt X.K (.ref l) [u] H2 Q := by
        intro ds es us b2 eu q hB rs hl h
        obtain ⟨vs, h1, r1⟩ := ss.ob n _ _ q e1
        obtain ⟨s2, x2⟩ := putL ss e1 q h1 (r1.append rs)
        subst eu
        exact ⟨l, b2, vs, us, rfl, rfl, h1, hB, by rw [← r1.length, ← rs.length, ← big_line]; exact hl, h _ ρ x2 s2 _ (.p .non)⟩
      cases e with
      | exn _ => first | exact q.elim | exact h.elim | exact h1.elim | exact h2.elim | exact h3.elim | exact h4.elim | exact h5.elim | exact p.elim | cases h | cases q | cases e
      | tup ds => exact h.elim
      | p y =>
        cases ru with
        | p ru =>
          cases ru with
          | @lst b2 us ys hf hv =>
            replace h : Post X.K X.mg Wx S ρ H2 (match S[n]? with | some (.lst ds) => if ds.length + ys.length ≤ big then R.ok (D.p .none) (S.set n (.lst (ds ++ ys.map .p))) else .no | _ => .no) _ := h
            cases q : S[n]? with
            | none => rw [q] at h; exact h.elim
            | some o =>
              rw [q] at h
              cases o with
              | lst ds =>
                obtain ⟨hc, h⟩ := postIfR h
                exact ansE ds (ys.map .p) us b2 rfl q (.inl hf.sq) hv.drs (by rw [List.length_map]; exact hc) h
              | dct _ => exact h.elim
              | gone => exact h.elim
          | @tup b2 us ys hf hv =>
            replace h : Post X.K X.mg Wx S ρ H2 (match S[n]? with | some (.lst ds) => if ds.length + ys.length ≤ big then R.ok (D.p .none) (S.set n (.lst (ds ++ ys.map .p))) else .no | _ => .no) _ := h
            cases q : S[n]? with
            | none => rw [q] at h; exact h.elim
            | some o =>
              rw [q] at h
              cases o with
              | lst ds =>
                obtain ⟨hc, h⟩ := postIfR h
                exact ansE ds (ys.map .p) us b2 rfl q (.inr hf.sq) hv.drs (by rw [List.length_map]; exact hc) h
              | dct _ => exact h.elim
              | gone => exact h.elim
          | _ => exact h.elim
      | ref m =>
        cases ru with
        | @ref _ b2 e2 =>
          replace h : Post X.K X.mg Wx S ρ H2 (match S[n]?, S[m]? with | some (.lst ds), some (.lst es) => if ds.length + es.length ≤ big ∧ n ≠ m then R.ok (D.p .none) (S.set n (.lst (ds ++ es))) else .no | _, _ => .no) _ := h
          cases q : S[n]? with
          | none => rw [q] at h; exact h.elim
          | some o =>
            cases o with
            | dct _ => rw [q] at h; exact h.elim
            | gone => rw [q] at h; exact h.elim
            | lst ds =>
              cases q2 : S[m]? with
              | none => rw [q, q2] at h; exact h.elim
              | some o2 =>
                cases o2 with
                | dct _ => rw [q, q2] at h; exact h.elim
                | gone => rw [q, q2] at h; exact h.elim
                | lst es =>
                  rw [q, q2] at h
                  obtain ⟨hc, h⟩ := postIfR h
                  obtain ⟨us, h2, r2⟩ := ss.ob m _ _ q2 e2
                  exact ansE ds es us b2 rfl q (.inl (SqL.of h2)) r2 hc.1 h
end
end DL

namespace DL
open PySem PySem.Spec L2
variable [Nfo]
section
variable {X : Cx} {W : WX} {a b c : Expr} {es : List Expr} {ra rb rc : E} {ta tb : T} {rs : As} {p pos : Pos} {x : Str}
/-! ## i op= .. -/
theorem gb_aug (i : Nat) {op : Operator} {f : Int → Int → Int} {p2 : Pos} (hN : X.N.Nodup) (hi : X.N[i]? = some x) (hx : Loc X.env.scope x) (ho : PIp X op (ipI f)) (ha : GE X W a ra)
    (hf : X.fn x = true ∨ X.env.scope.names.lookup x = some .local := by first | exact .inl rfl | exact .inr rfl | assumption) : GB X W (.AugAssign (.Name x p2) op a pos) (sAug i f ra) := by
  refine PS.imp (ps_aug hN hi hx ha ho hf) fun D σ H q => ?_
  obtain ⟨env, S, ρ, se, ss, h⟩ := q
  have h0 := Post.bnd (m := eVar i env) h
  unfold eVar at h0
  cases q : env[i]? with
  | none => rw [q] at h0; exact h0.elim
  | some o =>
    cases o with
    | none => rw [q] at h0; exact h0.elim
    | some d =>
      rw [q] at h0
      obtain ⟨v, e, r⟩ := se.at_ i d q
      refine ⟨v, e, env, S, ρ, se, ss, ?_⟩
      have h1 := h0 H ρ Ext.refl ss
      refine pre h1 fun d2 S1 ρ1 H1 _ x1 s1 h2 v2 r2 => ?_
      have r' := r.mono x1.st x1.pre
      cases d with
      | exn _ => first | exact q.elim | exact h.elim | exact h1.elim | exact h2.elim | exact h3.elim | exact h4.elim | exact h5.elim | exact p.elim | cases h | cases q | cases e
      | tup _ => exact h2.elim
      | ref _ => exact h2.elim
      | p y =>
        cases y with
        | int m =>
          cases d2 with
          | exn _ => first | exact q.elim | exact h.elim | exact h1.elim | exact h2.elim | exact h3.elim | exact h4.elim | exact h5.elim | exact p.elim | cases h | cases q | cases e
          | tup _ => exact h2.elim
          | ref _ => exact h2.elim
          | p y2 =>
            cases y2 with
            | int n =>
              cases r' with
              | p r' =>
                cases r2 with
                | p r2 =>
                  cases r'
                  cases r2
                  exact ⟨m, n, rfl, rfl, h2 H1 ρ1 Ext.refl s1 _ ((se.mono x1.st x1.pre).set i (.p (.int _)))⟩
            | _ => exact h2.elim
        | _ => exact h2.elim
/-! ## x[y] op= .. -/
def rGetL : V → V → Hp → VK → Prop := fun o i H Q => ∃ p xs k z, o = .ref p ∧ i = .int k ∧ 0 ≤ k ∧ H p = some (.lst xs) ∧ atI xs k = some z ∧ Q z H
theorem get_lst : PGet X rGetL := by
  intro pins s σ H o i ov iv Q I ro ri h
  obtain ⟨p, xs, k, z, rfl, rfl, h0, hp, hz, q⟩ := h
  cases ro
  obtain ⟨t, rfl⟩ := ri
  obtain ⟨its, r, pl, hs⟩ := I.list (SqL.of hp)
  obtain ⟨j, h1, h2, h3, h4, h5⟩ := atI_get hz
  obtain ⟨w, ew, rw'⟩ := r.get h2
  have hl := r.length
  have hn := line63
  have hj : k.toNat = j := by
    rw [seqIndex_of h0 h5] at h1
    exact Option.some.inj h1
  exact wpAny_getItem_list pl.isList h0 (by omega) (by rw [hj]; simpa using ew) ⟨z, H, I, rw', q⟩
theorem gb_augS {op : Operator} {f : Int → Int → Int} {p2 : Pos} (ha : GE X W a ra) (hb : GE X W b rb) (hc : GE X W c rc) (ho : PIp X op (ipI f))
    (hs : ∀ ov iv new, augStore b ov iv new = (do holding [new, ov, iv] (setItem ov iv new); release [new, ov, iv] []; pure .next) := by intros; rfl) : GB X W (.AugAssign (.Subscript a b p2) op c pos) (sAugL f ra rb rc) := by
  refine PS.imp (ps_augS ha hb get_lst hc ho set_list hs) fun D σ H q => ?_
  obtain ⟨env, S, ρ, se, ss, h⟩ := q
  refine ⟨env, S, ρ, se, ss, pre h fun d1 S1 ρ1 H1 _ x1 s1 h1 v1 r1 => ?_⟩
  refine ⟨env, S1, ρ1, se.mono x1.st x1.pre, s1, pre h1 fun d2 S2 ρ2 H2 _ x2 s2 h2 v2 r2 => ?_⟩
  have se2 := (se.mono x1.st x1.pre).mono x2.st x2.pre
  have r12 := r1.mono x2.st x2.pre
  have h3 := Post.bnd h2
  cases d1 with
  | exn _ => first | exact q.elim | exact h.elim | exact h1.elim | exact h2.elim | exact h3.elim | exact h4.elim | exact h5.elim | exact p.elim | cases h | cases q | cases e
  | p z => exact h3.elim
  | tup z => exact h3.elim
  | ref n =>
    cases d2 with
    | exn _ => first | exact q.elim | exact h.elim | exact h1.elim | exact h2.elim | exact h3.elim | exact h4.elim | exact h5.elim | exact p.elim | cases h | cases q | cases e
    | tup z => exact h3.elim
    | ref z => exact h3.elim
    | p k =>
      cases k with
      | int i =>
        cases r12 with
        | @ref _ l e1 =>
          cases r2 with
          | p rk =>
            cases rk
            replace h3 : Post X.K X.mg _ S2 ρ2 H2 (match S2[n]? with
              | some (.lst ds) => if 0 ≤ i then opt (atL ds i) S2 else .no
              | _ => .no) _ := h3
            cases q1 : S2[n]? with
            | none => rw [q1] at h3; exact h3.elim
            | some u =>
              rw [q1] at h3
              cases u with
              | gone => exact h3.elim
              | dct _ => exact h3.elim
              | lst ds =>
                obtain ⟨h0, h3⟩ := postIfR h3
                obtain ⟨old, eo, h3⟩ := postOpt (o := atL ds i) h3
                obtain ⟨vs, hv, r⟩ := s2.ob n _ l q1 e1
                obtain ⟨w, ew, rw2⟩ := r.atI eo
                refine ⟨l, vs, i, w, rfl, rfl, h0, hv, ew, env, S2, ρ2, se2, s2, ?_⟩
                have h4 := h3 H2 ρ2 Ext.refl s2
                refine pre h4 fun d3 S3 ρ3 H3 _ x3 s3 h5 v3 r3 => ?_
                have rw3 := rw2.mono x3.st x3.pre
                have e3 := pre_get x3.pre e1
                cases old with
                | exn _ => first | exact q.elim | exact h.elim | exact h1.elim | exact h2.elim | exact h3.elim | exact h4.elim | exact h5.elim | exact p.elim | cases h | cases q | cases e
                | tup _ => exact h5.elim
                | ref _ => exact h5.elim
                | p y =>
                  cases y with
                  | int m =>
                    cases d3 with
                    | exn _ => first | exact q.elim | exact h.elim | exact h1.elim | exact h2.elim | exact h3.elim | exact h4.elim | exact h5.elim | exact p.elim | cases h | cases q | cases e
                    | tup _ => exact h5.elim
                    | ref _ => exact h5.elim
                    | p y2 =>
                      cases y2 with
                      | int n2 =>
                        cases rw3 with
                        | p rw3 =>
                          cases r3 with
                          | p r3 =>
                            cases rw3
                            cases r3
                            refine ⟨m, n2, rfl, rfl, ?_⟩
                            have h6 := Post.bnd h5
                            replace h6 : Post X.K X.mg _ S3 ρ3 H3 (match S3[n]? with
                              | some (.lst ds) => match ixI ds.length i with
                                | some j => R.ok () (S3.set n (.lst (ds.set j (.p (.int (f m n2))))))
                                | none => .no
                              | _ => .no) _ := h6
                            cases q3 : S3[n]? with
                            | none => rw [q3] at h6; exact h6.elim
                            | some u =>
                              rw [q3] at h6
                              cases u with
                              | gone => exact h6.elim
                              | dct _ => exact h6.elim
                              | lst es =>
                                replace h6 : Post X.K X.mg _ S3 ρ3 H3 (match ixI es.length i with
                                  | some j => R.ok () (S3.set n (.lst (es.set j (.p (.int (f m n2))))))
                                  | none => .no) _ := h6
                                obtain ⟨us, hu, ru⟩ := s3.ob n _ l q3 e3
                                cases q4 : ixI es.length i with
                                | none => rw [q4] at h6; exact h6.elim
                                | some j =>
                                  rw [q4] at h6
                                  have rr : DRs X.K H3 ρ3 (es.set j (.p (.int (f m n2)))) (us.set j (.int (f m n2))) := by
                                    clear q4 h6 q3 hu
                                    induction ru generalizing j with
                                    | nil => exact .nil
                                    | cons h t ih => cases j with
                                      | zero => exact .cons (.p (.int _)) t
                                      | succ j => exact .cons h (ih j)
                                  obtain ⟨s4, x4⟩ := putL s3 e3 q3 hu rr
                                  refine ⟨l, us, i, j, rfl, rfl, hu, ixN_of (by rw [← ru.length]; exact q4), ?_⟩
                                  exact h6 _ ρ3 x4 s4 _ ρ3 Ext.refl s4 σ ((se2.mono x3.st x3.pre).mono x4.st x4.pre)
                      | _ => exact h5.elim
                  | _ => exact h5.elim
      | _ => exact h3.elim
/-! ## len(set(t)) -/
theorem mem_dist : ∀ (ns : List Int) (x : Int), x ∈ dist ns ↔ x ∈ ns
  | [], x => by simp [dist]
  | y :: ns, x => by
    have ih := mem_dist ns
    unfold dist
    split
    · rename_i h
      rw [ih] at h
      constructor
      · intro z; exact List.mem_cons_of_mem _ ((ih x).mp z)
      · intro z
        rcases List.mem_cons.mp z with rfl | z
        · exact (ih _).mpr h
        · exact (ih x).mpr z
    · constructor
      · intro z
        rcases List.mem_cons.mp z with rfl | z
        · exact List.mem_cons_self
        · exact List.mem_cons_of_mem _ ((ih x).mp z)
      · intro z
        rcases List.mem_cons.mp z with rfl | z
        · exact List.mem_cons_self
        · exact List.mem_cons_of_mem _ ((ih x).mpr z)
theorem nodup_dist : ∀ ns : List Int, (dist ns).Nodup
  | [] => List.nodup_nil
  | y :: ns => by
    unfold dist
    split
    · exact nodup_dist ns
    · exact List.nodup_cons.mpr ⟨by assumption, nodup_dist ns⟩
theorem ints_of {K : PySem.W.Frag} {H : Hp} : ∀ {xs : List PyData} {vs : List V} {ns : List Int}, intsOf xs = some ns → DVs K H xs vs → vs = ns.map V.int
  | [], _, _, e, .nil => by cases e; rfl
  | .int i :: xs, _, _, e, .cons h t => by
    replace e : (intsOf xs).map (i :: ·) = some _ := e
    cases q : intsOf xs with
    | none => rw [q] at e; cases e
    | some ms =>
      rw [q] at e
      cases e
      cases h
      rw [ints_of q t]; rfl
theorem vals_ia : ∀ {ns : List Int} {us : List Value}, Vals (ns.map V.int) us → PyProof.Rows.IntsAre us ns
  | [], _, .nil => .nil
  | n :: ns, _, .cons r t => by
    obtain ⟨k, rfl⟩ := r
    exact .cons n k (vals_ia t)
def tLenT (K : PySem.W.Frag) (ta : TE) : TE := fun σ H Q => ta σ H fun x H1 => ∃ (l : Addr) (ns : List Int), x = .ref l ∧ SqT K H1 l (ns.map V.int) ∧ ns.length ≤ 4000 ∧ Q (.int (dist ns).length) H1
theorem pe_lenT {t : TE} {p2 q : Pos} (hg : Gl X "len") (hm : X.mg "len" = none) (hg2 : Gl X "set") (hm2 : X.mg "set" = none) (ha : PE X a t) (hc : X.calm = true) (na : starEach [a] X.env = (false, eval a X.env) :: starEach [] X.env) :
    PE X (.Call (.Name "len" p) [.Call (.Name "set" p2) [a] [] q] [] pos) (tLenT X.K t) := by
  refine ⟨fun pins s σ H Q I h => ?_⟩
  refine PyProof.Rows.Call_ (ld_blt I hg hm boot_len (PyProof.Rows.callWith_builtin1 (PyProof.Rows.args_cons ?_ rfl) rfl rfl))
  refine PyProof.Rows.Call_ (ld_blt I hg2 hm2 PyProof.Rows.boot_set (PyProof.Rows.callWith_type1 (PyProof.Rows.args_cons ?_ na) na rfl))
  refine thn (ha.run pins s σ H _ I h) fun v s1 z => PyProof.Rows.args_nil ?_
  obtain ⟨y, H1, I1, r1, l, ns, rfl, hq, hl, q1⟩ := z
  cases r1
  obtain ⟨its, r, pt, hz⟩ := I1.tuple hq
  refine call_set_tupI ns (I1.ok.hd hc) pt (by simpa using vals_ia r) (by unfold scanBound; omega) fun h' tk n hS hn hk => ?_
  refine PyProof.Rows.args_nil ?_
  obtain ⟨o, es, ep, t, ho, hex, hd, hgd, hnd, hmem, hsc, hf, hsz, _⟩ := hS
  have I2 : Inv X pins σ H1 { s1 with heap := h', toks := tk } := I1.kept hk
  have hcount : es.size = (dist ns).length := by
    have e1 : ((es.toList.map L2.keyOf) : List Int).length = (dist ns).length := by
      refine (List.Perm.length_eq ((List.perm_ext_iff_of_nodup hnd (nodup_dist ns)).mpr fun k => ?_))
      rw [mem_dist, ← hmem k]
      simp
    rw [← e1, List.length_map, Array.length_toList]
  exact call_len_set ho hex hd hf (by omega) ⟨.int _, H1, I2.tok _, ⟨_, by rw [hcount]⟩, q1⟩
theorem g_lenSet {p2 q : Pos} (hc : X.calm = true) (hg : Gl X "len") (hm : X.mg "len" = none) (hg2 : Gl X "set") (hm2 : X.mg "set" = none) (ha : GE X W a ra) (na : starEach [a] X.env = (false, eval a X.env) :: starEach [] X.env := by rfl) :
    GE X W (.Call (.Name "len" p) [.Call (.Name "set" p2) [a] [] q] [] pos) (e1 fLenSet ra) := by
  refine PE.imp (pe_lenT hg hm hg2 hm2 ha hc na) fun σ H Q h => ?_
  obtain ⟨env, S, ρ, se, ss, h⟩ := h
  refine ⟨env, S, ρ, se, ss, (Post.bnd h).imp fun d S1 ρ1 H1 _ x1 s1 h1 v rv => ?_⟩
  have h2 := Post.bnd h1
  cases q1 : view S1 d with
  | none => unfold see at h2; rw [q1] at h2; exact h2.elim
  | some y =>
    unfold see at h2
    rw [q1] at h2
    have h3 := h2 H1 ρ1 Ext.refl s1
    have vw := view_dp s1 rv q1
    cases y with
    | tuple xs =>
      replace h3 : Post X.K X.mg _ S1 ρ1 H1 ((match intsOf xs with
        | some ns => if ns.length ≤ 4000 then ret (.p (.int (dist ns).length)) else no
        | none => no : M D) S1) _ := h3
      cases q2 : intsOf xs with
      | none => rw [q2] at h3; exact h3.elim
      | some ns =>
        rw [q2] at h3
        obtain ⟨hl, h3⟩ := postIf (c := ns.length ≤ 4000) h3
        obtain ⟨l, vs, rfl, h4, r4⟩ := Vw.tuple vw
        have ev := ints_of q2 r4
        subst ev
        exact ⟨l, ns, rfl, h4, hl, ans s1 h3 (.int _)⟩
    | _ => exact h3.elim
end
end DL

namespace DL
open PySem PySem.Spec L2
variable [Nfo]
/-! ## enumerate(t) of a tuple -/
section
theorem enum_newT (l : Addr) (items : Array Value) (n : Nat) (dct : Option Addr) (sl : Array (Option Value)) :
    Meets (Builtin.«enumerate.__new__» ⟨[.type "enumerate", .ref l], []⟩) (fun _ R s => s.heap.get? l = some { cls := .type "tuple", dict := dct, data := .seq items n, slots := sl } ∧
      R (.ok (.ret (.ref (s.heap.push { cls := .type "tuple_iterator", data := .fields #[.ref l, .int 0 0] }).objs.size)))
        { s with heap := (s.heap.push { cls := .type "tuple_iterator", data := .fields #[.ref l, .int 0 0] }).push { cls := .type "enumerate", data := .fields #[.none, .bool false, .ref s.heap.objs.size, rawInt 0, .none, .none] } }) :=
  .of_wp fun prog w A R s h => by
    obtain ⟨hp, g, d, tk, os⟩ := s
    obtain ⟨hl, h⟩ := h
    have hsub := sub_enumerate
    have hT : Heap.IsTuple (Shared.heap ⟨hp, g, d, tk, os⟩) l items := ⟨_, hl, rfl, n, rfl⟩
    wp_walk using AutoSeq1.wpAny_loadPart' hl
    refine wpAny_stack_any fun st => wpAny_pure ?_
    split
    · rename_i c _ _ _ _ _
      cases (c == Value.type "enumerate")
      · wp_walk using AutoSeq1.wpAny_loadPart' hl, wpAny_pyIter_tuple hT
        exact ⟨_, rfl, h⟩
      · wp_walk using AutoSeq1.wpAny_loadPart' hl, wpAny_pyIter_tuple hT
        exact ⟨_, rfl, h⟩
    · wp_walk using AutoSeq1.wpAny_loadPart' hl, wpAny_pyIter_tuple hT
      exact ⟨_, rfl, h⟩
variable {prog : Program} {w : World} {A : Around} {E : Value → Shared → Prop} {s : Shared}
theorem call_enumT {l : Addr} {items : Array Value} {Q : Value → Shared → Prop} (hT : s.heap.IsTuple l items)
    (h : ∀ h', IsEnum h' (s.heap.objs.size + 1) s.heap.objs.size 0 .none → h'.IsTupleIter s.heap.objs.size l 0 → h'.objs.size = s.heap.objs.size + 2 → (∀ b o, s.heap.get? b = some o → h'.get? b = some o) → Q (.ref (s.heap.objs.size + 1)) { s with heap := h' }) :
    wpAny (model prog w) A (call (.type "enumerate") [.ref l]) Q E s := by
  obtain ⟨⟨c, dct, dt, sl⟩, hl, hc, n, hd⟩ := hT
  replace hc : c = .type "tuple" := hc
  replace hd : dt = .seq items n := hd
  subst hc hd
  have pz : (s.heap.push { cls := .type "tuple_iterator", data := .fields #[.ref l, .int 0 0] }).objs.size = s.heap.objs.size + 1 := Heap.size_push ..
  have en : IsEnum ((s.heap.push { cls := .type "tuple_iterator", data := .fields #[.ref l, .int 0 0] }).push { cls := .type "enumerate", data := .fields #[.none, .bool false, .ref s.heap.objs.size, rawInt 0, .none, .none] }) (s.heap.objs.size + 1) s.heap.objs.size 0 .none := by
    have q := Heap.get?_push_size (s.heap.push { cls := .type "tuple_iterator", data := .fields #[.ref l, .int 0 0] }) (o := { cls := .type "enumerate", data := .fields #[.none, .bool false, .ref s.heap.objs.size, rawInt 0, .none, .none] }) rfl
    rw [pz] at q
    exact q
  refine callType_new F.called_enumerate (by decide) (F.typeCall_enumerate_1 _) (F.newCall_enumerate_1 _) (fun obj => F.args_object_init_2 obj _) F.entry_enumerate_new (enum_newT l items n dct sl) ⟨hl, ?_⟩
  show _ ∧ _
  rw [pz]
  exact ⟨⟨_, en, rfl⟩, h _ en ⟨_, Heap.get?_push_of_some _ (Heap.get?_push_size _ rfl), rfl, rfl⟩ (by rw [Heap.size_push, pz]) fun b o q => Heap.get?_push_of_some _ (Heap.get?_push_of_some _ q)⟩
end
/-- t: a tuple, else a list -/
def SqK (K : PySem.W.Frag) (t : Bool) (H : Hp) (a : Addr) (xs : List V) : Prop := match t with
  | true => SqT K H a xs
  | false => SqL K H a xs
def SrcAt (t : Bool) (h : Heap) (a : Addr) (items : Array Value) : Prop := match t with
  | true => h.IsTuple a items
  | false => h.IsList a items
def SrcIt (t : Bool) (h : Heap) (it a : Addr) (i : Nat) : Prop := match t with
  | true => h.IsTupleIter it a i
  | false => h.IsListIter it a i
def srcO (t : Bool) (a : Addr) : Obj := match t with
  | true => { cls := .type "tuple_iterator", data := .fields #[.ref a, .int 0 0] }
  | false => { cls := .type "list_iterator", data := .fields #[.ref a, .int 0 0] }
theorem src_begins (t : Bool) (a : Addr) (items : Array Value) : Begins (.ref a) (srcO t a) fun h => SrcAt t h a items := match t with
  | true => begins_tuple a items
  | false => begins_list a items
theorem src_draws {prog : Program} {w : World} {A : Around} (t : Bool) (hh : A.handled = none) (it a : Addr) (hne : a ≠ it) (items : Array Value) : Draws prog w A it [it, a] items.size (fun i v => items[i]? = some v) (fun i h => SrcIt t h it a i ∧ SrcAt t h a items) := match t with
  | true => Draws.tuple hh it a hne items
  | false => Draws.list hh it a hne items
theorem src_there {t : Bool} {h : Heap} {it a : Addr} {i : Nat} (x : SrcIt t h it a i) : ∃ o, h.get? it = some o ∧ ∀ v, o.data ≠ .cell v := by
  cases t with
  | true => obtain ⟨o, e, _, d⟩ := x; exact ⟨o, e, fun v q => by rw [d] at q; cases q⟩
  | false => obtain ⟨o, e, _, d⟩ := x; exact ⟨o, e, fun v q => by rw [d] at q; cases q⟩
theorem src_keep {t : Bool} {h h' : Heap} {it a : Addr} {i : Nat} (x : SrcIt t h it a i) (k : ∀ o, h.get? it = some o → h'.get? it = some o) : SrcIt t h' it a i := by
  cases t with
  | true => exact Heap.IsTupleIter.at x k
  | false => exact Heap.IsListIter.at x k
theorem src_of {X : Cx} {pins : List (Addr × Obj)} {σ : L2.St} {H : Hp} {s : Shared} {t : Bool} {a : Addr} {xs : List V} (I : Inv X pins σ H s) (h : SqK X.K t H a xs) : ∃ its : List Value, Vals xs its ∧ SrcAt t s.heap a its.toArray ∧ xs.length ≤ sizeLine ∧ a < s.heap.objs.size := by
  cases t with
  | true =>
    obtain ⟨its, r, p, z⟩ := I.tuple h
    obtain ⟨o, e, q⟩ := id p
    exact ⟨its, r, p, z, Heap.lt_size e⟩
  | false =>
    obtain ⟨its, r, p, z⟩ := I.list h
    exact ⟨its, r, p.isList, z, p.lt⟩
theorem src_inj {X : Cx} {pins : List (Addr × Obj)} {σ : L2.St} {H : Hp} {s : Shared} {t : Bool} {a : Addr} {xs ys : List V} (I : Inv X pins σ H s) (h : SqK X.K t H a xs) (h' : SqK X.K t H a ys) : xs = ys := by
  cases t with
  | true => exact I.tuple_inj h h'
  | false => exact I.list_inj h h'
theorem src_ne {t : Bool} {h : Heap} {it a : Addr} {i : Nat} {items : Array Value} (x : SrcIt t h it a i) (y : SrcAt t h a items) : a ≠ it := fun q => by
  subst q
  cases t with
  | true => obtain ⟨o1, e1, k1, _⟩ := x; obtain ⟨o2, e2, k2, _⟩ := y; rw [e1] at e2; cases e2; rw [k1] at k2; exact absurd k2 (by decide)
  | false => obtain ⟨o1, e1, k1, _⟩ := x; obtain ⟨o2, e2, k2, _⟩ := y; rw [e1] at e2; cases e2; rw [k1] at k2; exact absurd k2 (by decide)
/-- a pair that is laid for the turn -/
def YPN (xs ys : Nat → Option V) : Nat → Hp → V → Hp → Prop := fun i H v H' => ∃ (T : Addr) (x y : V) (o : Obj), v = .ref T ∧ H T = none ∧ o.dict = none ∧ H' = upd H T (.frz o (.tup [x, y])) ∧ xs i = some x ∧ ys i = some y
def IteT (K : PySem.W.Frag) (t : Bool) (a : Addr) : It :=
  ⟨fun i H => ∃ (xs : List V) (x : V), SqK K t H a xs ∧ xs[i]? = some x, fun i H v H' => ∃ (T : Addr) (x : V) (o : Obj), v = .ref T ∧ H T = none ∧ o.dict = none ∧ H' = upd H T (.frz o (.tup [.int (i : Nat), x])) ∧ ∀ xs, SqK K t H a xs → xs[i]? = some x, fun i H => ∃ xs : List V, SqK K t H a xs ∧ xs.length ≤ i⟩
theorem turn_enumT {P : Program} {w : World} {K : PySem.W.Frag} {elts : List Expr} {kk : Nat} {tpos : Pos} (t : Bool) (a e it : Addr) :
    Turn P w K (.Tuple elts kk tpos) (IteT K t a) [e, it] e (fun i h => (∃ old, IsEnum h e it ((i : Nat) : Int) old) ∧ SrcIt t h it a i ∧ e ≠ it) where
  mem := by simp
  obj := fun i h st b hb => by
    obtain ⟨⟨old, he⟩, hi, _⟩ := st
    rcases (by simpa using hb : b = e ∨ b = it) with z | z
    · subst z; exact ⟨_, he, fun v q => nomatch q⟩
    · subst z; exact src_there hi
  keep := fun i h h' st k => by
    obtain ⟨⟨old, he⟩, hi, hne⟩ := st
    exact ⟨⟨old, k e (by simp) _ he⟩, src_keep hi fun o q => k it (by simp) o q, hne⟩
  item := by
    intro X hP hw hK hc i pins s σ H E I hf st hg
    subst hP hw hK
    obtain ⟨⟨old, he⟩, hit, hne⟩ := st
    obtain ⟨xs, x, hq, hx⟩ := hg
    obtain ⟨its, rv, pt, _, la⟩ := src_of I hq
    obtain ⟨u, hu, ru⟩ := rv.get hx
    have le : e < s.heap.objs.size := Heap.lt_size he
    have li : it < s.heap.objs.size := by obtain ⟨_, q, _⟩ := src_there hit; exact Heap.lt_size q
    have hai : a ≠ it := src_ne hit pt
    have hae : a ≠ e := fun z => by
      subst z
      have he' : s.heap.get? a = some _ := he
      cases t with
      | true => obtain ⟨o2, q2, c2, _⟩ := pt; rw [he'] at q2; cases q2; exact absurd (show Value.type "enumerate" = Value.type "tuple" from c2) (by decide)
      | false => obtain ⟨o2, q2, c2, _⟩ := pt; rw [he'] at q2; cases q2; exact absurd (show Value.type "enumerate" = Value.type "list" from c2) (by decide)
    have hlt : i < its.toArray.size := by rw [List.size_toArray]; exact (List.getElem?_eq_some_iff.mp hu).1
    refine wpAny_pyNext_enum_itemD (src_draws (A := X.A.in1) t (I.ok.hd hc) it a hai its.toArray) he ⟨hit, pt⟩ hlt hne (by simp [hne, Ne.symm hae]) fun u2 h' tk hu2 ho hst hT hsz hk => ?_
    have eu : u2 = u := by
      have q : its.toArray[i]? = some u := by simpa using hu
      rw [q] at hu2
      exact (Option.some.inj hu2).symm
    subst eu
    refine ⟨_, rfl, wpAny_letOwnedTupleGo_enum (s := { s with heap := h', toks := tk + 1 }) ho fun h2 he2 sb => ?_⟩
    have hT2 : h2.get? s.heap.objs.size = some { cls := .type "tuple", data := .seq #[.int i tk, u2] } := (sb.2 _ (Nat.ne_of_gt le)).trans hT
    obtain ⟨ob, hob⟩ : ∃ ob : Obj, ob = { cls := .type "tuple", data := .seq #[.int i tk, u2] } := ⟨_, rfl⟩
    have nw : ObjOk X.prog X.w (upd H s.heap.objs.size (.frz ob (.tup [.int (i : Nat), x]))) h2 s.heap.objs.size (.frz ob (.tup [.int (i : Nat), x])) :=
      ⟨by rw [hob]; exact hT2, by show 2 ≤ sizeLine; decide, [.int i tk, u2], .cons ⟨_, rfl⟩ (.cons ru .nil), ⟨_, hT2, rfl, _, rfl⟩⟩
    have I1 : Inv X pins σ (upd H s.heap.objs.size (.frz ob (.tup [.int (i : Nat), x]))) { s with heap := h2, toks := tk + 1 } :=
      I.turnedNew (ch := [e, it]) (fun b ob hb q => (sb.2 b (fun z => hb (by simp [z]))).trans (hk b ob (fun z => hb (by simp [z])) (fun z => hb (by simp [z])) q)) hf (Nat.le_refl _) nw
    refine ⟨.ref s.heap.objs.size, _, I1, rfl, ⟨_, x, ob, rfl, I.hok.fresh (Nat.le_refl _), by rw [hob], rfl, fun ys hy => by rw [src_inj I hy hq]; exact hx⟩, ⟨⟨u2, ?_⟩, src_keep hst.1 fun o q => (sb.2 it (Ne.symm hne)).trans q, hne⟩, fun b hb => ?_⟩
    · rw [show ((i + 1 : Nat) : Int) = (i : Int) + 1 by omega]
      exact he2
    · have lb : b < s.heap.objs.size := by
        rcases (by simpa using hb : b = e ∨ b = it) with z | z
        · rw [z]; exact le
        · rw [z]; exact li
      rw [upd_ne (Nat.ne_of_lt lb)]
      exact (hf b hb).1
  done := by
    intro X hP hw hK hc i pins s σ H E I hf st hg
    subst hP hw hK
    obtain ⟨⟨old, he⟩, hit, hne⟩ := st
    obtain ⟨xs, hq, hx⟩ := hg
    cases t with
    | true =>
      obtain ⟨its, rv, pt, hz⟩ := I.tuple hq
      obtain ⟨f0, f1, f2, f3, f4, f5⟩ := hf it (by simp)
      have hl := rv.length
      have hT : s.TypeIs (.ref e) "enumerate" := ⟨_, he, rfl⟩
      unfold pyNext
      refine wpAny_bind (wpAny_attempt (wpAny_callSpecial?_slot (name := Str.ofString "__next__") hT F.slot_enumerate_next (wpAny_call_entry F.slot_enumerate_next hT F.entry_enumerate_next ?_ (F.args_enumerate_next_1 _))))
      show wpAny _ _ (field (.ref e) 2 >>= _) _ _ _
      refine wpAny_bind (wpAny_field he rfl (x := .ref it) rfl (wpAny_bind (wpAny_nextOf_tuple_end (I.ok.hd hc) hit pt (by simp; omega) fun h' x eb hx' => ?_)))
      obtain ⟨o, ho, ho2⟩ := hx'
      refine wpAny_bind (wpAny_isInstance (T := "StopIteration") (b := true) ⟨o, ho, ho2⟩ isSubtype_stop (wpAny_pure ⟨rfl, ?_⟩))
      exact I.turned (t' := s.toks) (fun b o hb q => eb b o hb q) f0 f1 f3 f4 f5
    | false =>
      obtain ⟨its, rv, pt, hz⟩ := I.list hq
      obtain ⟨f0, f1, f2, f3, f4, f5⟩ := hf it (by simp)
      have hl := rv.length
      exact wpAny_pyNext_enum_end (I.ok.hd hc) he hit pt.isList (by simp; omega) fun h' eb => ⟨rfl, I.turned (t' := s.toks) (fun b o hb q => eb b o hb q) f0 f1 f3 f4 f5⟩
  self := fun A i s Q E st h => by
    obtain ⟨⟨_, he⟩, _⟩ := st
    exact wpAny_pyIter_enum he h
section
variable {X : Cx} {W : WX} {a b c : Expr} {es elts : List Expr} {ra rb rc : E} {p pos tpos : Pos} {x : Str} {kk : Nat}
def iEnumA (K : PySem.W.Frag) (tl : TE) : TI := fun σ H R => tl σ H fun x H1 =>
  (∃ a xs, x = .ref a ∧ SqL K H1 a xs ∧ (xs.length ≤ big → R (IteT K false a) H1)) ∨ (∃ a xs, x = .ref a ∧ SqT K H1 a xs ∧ (xs.length ≤ big → R (IteT K true a) H1))
theorem pi_enumA {t : TE} (hg : Gl X "enumerate") (hm : X.mg "enumerate" = none) (ha : PE X a t) (hs : starEach [a] X.env = [(false, eval a X.env)]) (hs2 : starEach (a :: []) X.env = (false, eval a X.env) :: starEach [] X.env) :
    PI X (.Tuple elts kk tpos) (.Call (.Name "enumerate" p) [a] [] pos) (iEnumA X.K t) := by
  refine ⟨fun pins s σ H R I h => ?_⟩
  have hp : PA X [a] (tCons t tNil) := pa_cons ha pa_nil hs2
  refine PyProof.Rows.Call_ (ld_blt I hg hm PyProof.Rows.boot_enumerate (PyProof.Rows.callWith_type1 (thn (hp.run pos pins s σ H (fun vs H1 => match vs with | [x] => ((∃ a xs, x = .ref a ∧ SqL X.K H1 a xs ∧ (xs.length ≤ big → R (IteT X.K false a) H1)) ∨ (∃ a xs, x = .ref a ∧ SqT X.K H1 a xs ∧ (xs.length ≤ big → R (IteT X.K true a) H1))) | _ => False) I ?_) fun us s1 z => ?_) hs rfl))
  · exact h
  · obtain ⟨vs, H1, I1, r1, z⟩ := z
    cases r1 with
    | nil => exact z.elim
    | cons r rr =>
      cases rr with
      | cons _ _ => exact z.elim
      | nil =>
      rcases z with ⟨a, xs, rfl, hq, q⟩ | ⟨a, xs, rfl, hq, q⟩
      · cases r
        obtain ⟨its, rv, p', hz⟩ := I1.list hq
        refine call_enumerate_list p'.isList fun h' he hit hsz hk => wpAny_pyIter_enum he ?_
        have I2 : Inv X pins σ H1 { s1 with heap := h' } := I1.kept (t' := s1.toks) hk
        refine ⟨s1.heap.objs.size + 1, [s1.heap.objs.size + 1, s1.heap.objs.size], _, _, H1, rfl, I2, turn_enumT false a (s1.heap.objs.size + 1) s1.heap.objs.size, ⟨⟨.none, he⟩, hit, Nat.succ_ne_self _⟩, fun b hb => ?_, q (by rw [big_line]; exact hz)⟩
        have hle : s1.heap.objs.size ≤ b := by
          rcases (by simpa using hb : b = s1.heap.objs.size + 1 ∨ b = s1.heap.objs.size) with z | z
          · rw [z]; exact Nat.le_add_right _ _
          · rw [z]; exact Nat.le_refl _
        exact I1.fpOk hle (I1.hok.fresh hle)
      · cases r
        obtain ⟨its, rv, p', hz⟩ := I1.tuple hq
        refine call_enumT p' fun h' he hit hsz hk => wpAny_pyIter_enum he ?_
        have I2 : Inv X pins σ H1 { s1 with heap := h' } := I1.kept (t' := s1.toks) hk
        refine ⟨s1.heap.objs.size + 1, [s1.heap.objs.size + 1, s1.heap.objs.size], _, _, H1, rfl, I2, turn_enumT true a (s1.heap.objs.size + 1) s1.heap.objs.size, ⟨⟨.none, he⟩, hit, Nat.succ_ne_self _⟩, fun b hb => ?_, q (by rw [big_line]; exact hz)⟩
        have hle : s1.heap.objs.size ≤ b := by
          rcases (by simpa using hb : b = s1.heap.objs.size + 1 ∨ b = s1.heap.objs.size) with z | z
          · rw [z]; exact Nat.le_add_right _ _
          · rw [z]; exact Nat.le_refl _
        exact I1.fpOk hle (I1.hok.fresh hle)
theorem walk_enumT {K : PySem.W.Frag} {t : Bool} {a : Addr} {xs : List V} : Walk (IteT K t a) xs.length (fun H => SqK K t H a xs) (YPN (fun i => some (.int (i : Nat))) (fun i => xs[i]?)) := by
  refine ⟨fun i _ hi q => ⟨xs, xs[i], q, by simp [hi]⟩, fun _ q => ⟨xs, q, Nat.le_refl _⟩, fun i H v H' _ q y => ?_⟩
  obtain ⟨T, x, o, h1, h2, h3, h4, h5⟩ := y
  exact ⟨T, .int (i : Nat), x, o, h1, h2, h3, h4, rfl, h5 xs q⟩
theorem enumD_len : ∀ (ds : List D) (k : Nat), (enumD k ds).length = ds.length
  | [], _ => rfl
  | _ :: ds, k => congrArg (· + 1) (enumD_len ds (k + 1))
theorem enumD_get : ∀ (ds : List D) (k i : Nat), (enumD k ds)[i]? = ds[i]?.map fun d => mkTup [.p (.int ((k + i : Nat) : Int)), d]
  | [], _, _ => by simp [enumD]
  | d :: ds, k, 0 => by simp [enumD]
  | d :: ds, k, i + 1 => by
    show (enumD (k + 1) ds)[i]? = ds[i]?.map _
    rw [enumD_get ds (k + 1) i, show k + 1 + i = k + (i + 1) by omega]
theorem pair_dr {K : PySem.W.Frag} {H1 : Hp} {ρ1 : List Addr} {T : Addr} {d1 d2 : D} {x y : V} {o : Obj} (nT : H1 T = none) (od : o.dict = none) (r1 : DR K H1 ρ1 d1 x) (r2 : DR K H1 ρ1 d2 y) : DR K (upd H1 T (.frz o (.tup [x, y]))) ρ1 (mkTup [d1, d2]) (.ref T) := by
  have st : Stb H1 (upd H1 T (.frz o (.tup [x, y]))) := stb_new nT
  exact mkTup_dr (SqN.of od) (.cons (r1.mono st (List.prefix_refl _)) (.cons (r2.mono st (List.prefix_refl _)) .nil))
theorem walkD_enum {K : PySem.W.Frag} {H : Hp} {ρ : List Addr} {vs : List V} {ds : List D} {J : It} {G : Hp → Prop} (r : DRs K H ρ ds vs) (hl : ds.length ≤ big) (hw : Walk J vs.length G (YPN (fun i => some (.int (i : Nat))) (fun i => vs[i]?))) (hG : ∀ H1, Stb H H1 → G H1) : WalkD K H ρ (enumD 0 ds) J := by
  refine ⟨⟨G, _, by rw [enumD_len, r.length]; exact hw, hG, fun i H1 x H2 d ρ1 s q e y => ?_⟩, by rw [enumD_len]; exact hl⟩
  obtain ⟨T, x1, x2, o, rfl, nT, od, rfl, f1, f2⟩ := y
  cases f1
  rw [enumD_get, Nat.zero_add] at e
  cases q2 : ds[i]? with
  | none => rw [q2] at e; cases e
  | some d2 =>
    rw [q2] at e
    cases e
    obtain ⟨d', e2, r2⟩ := r.getV f2
    rw [q2] at e2
    cases e2
    exact ⟨.inr ⟨T, _, nT, rfl⟩, pair_dr nT od (.p (.int _)) (r2.mono s q)⟩
theorem gi_enum (hg : Gl X "enumerate" := by rfl) (hm : X.mg "enumerate" = none) (ha : GE X W a ra) (hs : starEach [a] X.env = [(false, eval a X.env)] := by rfl) (hs2 : starEach (a :: []) X.env = (false, eval a X.env) :: starEach [] X.env := by rfl) :
    GI X W (.Tuple elts kk tpos) (.Call (.Name "enumerate" p) [a] [] pos) (iEnumD ra) := by
  refine PI.imp (pi_enumA hg hm ha hs hs2) fun σ H R q => ?_
  obtain ⟨env, S, ρ, se, ss, h⟩ := q
  have h0 : Post X.K X.mg (fun c d H' => W c d σ H') S ρ H (bnd (ra env) (fun d => bnd (match d with
    | .tup xs => ret xs
    | .p x => opt ((elems x).map fun xs => xs.map .p)
    | .ref _ => no | .exn _ => no) fun ds => ret (enumD 0 ds)) S) (fun ds _ ρ' H' => ∀ J, WalkD X.K H' ρ' ds J → R J H') := by
    have e : bnd (ra env) (fun d => bnd (match d with
      | .tup xs => ret xs
      | .p x => opt ((elems x).map fun xs => xs.map .p)
      | .ref _ => no | .exn _ => no) fun ds => ret (enumD 0 ds)) S = iEnumD ra env S := by
      unfold iEnumD iVal bnd
      cases ra env S <;> rfl
    rw [e]; exact h
  refine ⟨env, S, ρ, se, ss, (Post.bnd h0).imp fun d S1 ρ1 H1 _ x1 s1 h1 v rv => ?_⟩
  cases d with
  | exn _ => first | exact q.elim | exact h.elim | exact h1.elim | exact h2.elim | exact h3.elim | exact h4.elim | exact h5.elim | exact p.elim | cases h | cases q | cases e
  | p y =>
    cases rv with
    | p rv =>
      cases y with
      | list xs =>
        cases rv with
        | lst hf hd => exact .inl ⟨_, _, rfl, hf.sq, fun hl => h1 H1 ρ1 Ext.refl s1 _ (walkD_enum hd.drs (by rw [List.length_map, hd.length]; exact hl) (walk_enumT (t := false)) fun H1 s => (hf.mono s).sq)⟩
      | tuple xs =>
        cases rv with
        | tup hf hd => exact .inr ⟨_, _, rfl, hf.sq, fun hl => h1 H1 ρ1 Ext.refl s1 _ (walkD_enum hd.drs (by rw [List.length_map, hd.length]; exact hl) (walk_enumT (t := true)) fun H1 s => (hf.mono s).sq)⟩
      | _ => exact h1.elim
  | tup ds =>
    cases rv with
    | tup h2 h3 h4 => exact .inr ⟨_, _, rfl, h2.sq, fun hl => h1 H1 ρ1 Ext.refl s1 _ (walkD_enum (DRs.of_get h3 h4) (by rw [h3]; exact hl) (walk_enumT (t := true)) fun H1 s => (h2.mono s).sq)⟩
  | ref n => exact h1.elim
end
end DL

namespace DL
open PySem PySem.Spec L2
variable [Nfo]
/-! ## zip of a list or a tuple and a list or a tuple -/
def ItzK (K : PySem.W.Frag) (t u : Bool) (a b : Addr) : It :=
  ⟨fun i H => ∃ (xs ys : List V) (x y : V), SqK K t H a xs ∧ SqK K u H b ys ∧ xs[i]? = some x ∧ ys[i]? = some y,
    fun i H v H' => ∃ (T : Addr) (x y : V) (o : Obj), v = .ref T ∧ H T = none ∧ o.dict = none ∧ H' = upd H T (.frz o (.tup [x, y])) ∧ (∀ xs, SqK K t H a xs → xs[i]? = some x) ∧ ∀ ys, SqK K u H b ys → ys[i]? = some y,
    fun i H => ∃ xs ys : List V, SqK K t H a xs ∧ SqK K u H b ys ∧ i ≤ xs.length ∧ i ≤ ys.length ∧ (i = xs.length ∨ i = ys.length)⟩
theorem turn_zipK {P : Program} {w : World} {K : PySem.W.Frag} {elts : List Expr} {kk : Nat} {tpos : Pos} {t u : Bool} {a b z TI TO i1 i2 : Addr} (D : ZipSep2 z TI TO i1 i2 [i1, a] [i2, b]) :
    Turn P w K (.Tuple elts kk tpos) (ItzK K t u a b) [z, TI, TO, i1, i2] z (fun i h => IsZip h z TI TO .none ∧ IsTupOf2 h TI (.ref i1) (.ref i2) ∧ (∃ x y, IsTupOf2 h TO x y) ∧ SrcIt t h i1 a i ∧ SrcIt u h i2 b i) where
  mem := by simp
  obj := fun i h st c hc => by
    obtain ⟨hz, hTI, ⟨x, y, hTO⟩, s1, s2⟩ := st
    rcases (by simpa using hc : c = z ∨ c = TI ∨ c = TO ∨ c = i1 ∨ c = i2) with q | q | q | q | q
    · subst q; exact ⟨_, hz, fun v q => nomatch q⟩
    · subst q; exact ⟨_, hTI, fun v q => nomatch q⟩
    · subst q; exact ⟨_, hTO, fun v q => nomatch q⟩
    · subst q; exact src_there s1
    · subst q; exact src_there s2
  keep := fun i h h' st k => by
    obtain ⟨hz, hTI, ⟨x, y, hTO⟩, s1, s2⟩ := st
    exact ⟨k z (by simp) _ hz, k TI (by simp) _ hTI, ⟨x, y, k TO (by simp) _ hTO⟩, src_keep s1 fun o q => k i1 (by simp) o q, src_keep s2 fun o q => k i2 (by simp) o q⟩
  item := by
    intro X hP hw hK hc i pins s σ H E I hf st hg
    subst hP hw hK
    obtain ⟨hz, hTI, ⟨x0, y0, hTO⟩, h1, h2⟩ := st
    obtain ⟨xs, ys, x, y, hqx, hqy, hx, hy⟩ := hg
    obtain ⟨its, rv, p, _, _⟩ := src_of I hqx
    obtain ⟨its2, rv2, p2, _, _⟩ := src_of I hqy
    obtain ⟨v1, hu, ru⟩ := rv.get hx
    obtain ⟨v2, hu2, ru2⟩ := rv2.get hy
    have lz : z < s.heap.objs.size := Heap.lt_size hz
    have ne1 : a ≠ i1 := src_ne h1 p
    have ne2 : b ≠ i2 := src_ne h2 p2
    have D1 := src_draws (prog := X.prog) (w := X.w) (A := X.A.in1) t (I.ok.hd hc) i1 a ne1 its.toArray
    have D2 := src_draws (prog := X.prog) (w := X.w) (A := X.A.in1) u (I.ok.hd hc) i2 b ne2 its2.toArray
    refine wpAny_pyNext_zipD2_item D D1 D2 hz hTI hTO ⟨h1, p⟩ ⟨h2, p2⟩ (by rw [List.size_toArray]; exact (List.getElem?_eq_some_iff.mp hu).1) (by rw [List.size_toArray]; exact (List.getElem?_eq_some_iff.mp hu2).1) fun w1 w2 h' tk e1 e2 z' TO' st1 st2 hT hsz hk => ?_
    have ew1 : w1 = v1 := by
      have q : its.toArray[i]? = some v1 := by simpa using hu
      rw [q] at e1; exact (Option.some.inj e1).symm
    have ew2 : w2 = v2 := by
      have q : its2.toArray[i]? = some v2 := by simpa using hu2
      rw [q] at e2; exact (Option.some.inj e2).symm
    subst ew1 ew2
    refine ⟨_, rfl, wpAny_letOwnedTupleGo_zip (s := { s with heap := h', toks := tk }) z' fun h2' z'' sb => ?_⟩
    have hT2 : h2'.get? s.heap.objs.size = some { cls := .type "tuple", data := .seq #[w1, w2] } := (sb.2 _ (Nat.ne_of_gt lz)).trans hT
    obtain ⟨ob, hob⟩ : ∃ ob : Obj, ob = { cls := .type "tuple", data := .seq #[w1, w2] } := ⟨_, rfl⟩
    have nw : ObjOk X.prog X.w (upd H s.heap.objs.size (.frz ob (.tup [x, y]))) h2' s.heap.objs.size (.frz ob (.tup [x, y])) :=
      ⟨by rw [hob]; exact hT2, by show 2 ≤ sizeLine; decide, [w1, w2], .cons ru (.cons ru2 .nil), ⟨_, hT2, rfl, _, rfl⟩⟩
    have I1 : Inv X pins σ (upd H s.heap.objs.size (.frz ob (.tup [x, y]))) { s with heap := h2', toks := tk } :=
      I.turnedNew (ch := [z, TI, TO, i1, i2]) (fun c o hb q => (sb.2 c (fun q' => hb (by simp [q']))).trans (hk c o (fun q' => hb (by simp [q'])) (fun q' => hb (by simp [q'])) (fun q' => hb (by simp [q'])) (fun q' => hb (by simp [q'])) q)) hf (Nat.le_refl _) nw
    have i1z : i1 ≠ z := fun q => D.zf1 (by rw [← q]; simp)
    have i2z : i2 ≠ z := fun q => D.zf2 (by rw [← q]; simp)
    refine ⟨.ref s.heap.objs.size, _, I1, rfl, ⟨_, x, y, ob, rfl, I.hok.fresh (Nat.le_refl _), by rw [hob], rfl, fun l hl => by rw [src_inj I hl hqx]; exact hx, fun l hl => by rw [src_inj I hl hqy]; exact hy⟩, ⟨z'', ?_, ⟨w1, w2, ?_⟩, ?_, ?_⟩, fun c hcm => ?_⟩
    · exact (sb.2 _ D.TIz).trans (hk _ _ D.TIz D.TITO D.TIi1 D.TIi2 hTI)
    · exact (sb.2 _ D.TOz).trans TO'
    · exact src_keep st1.1 fun o q => (sb.2 _ i1z).trans q
    · exact src_keep st2.1 fun o q => (sb.2 _ i2z).trans q
    · have lt : c < s.heap.objs.size := by
        rcases (by simpa using hcm : c = z ∨ c = TI ∨ c = TO ∨ c = i1 ∨ c = i2) with q | q | q | q | q
        · rw [q]; exact lz
        · rw [q]; exact Heap.lt_size hTI
        · rw [q]; exact Heap.lt_size hTO
        · rw [q]; obtain ⟨_, e, _⟩ := src_there h1; exact Heap.lt_size e
        · rw [q]; obtain ⟨_, e, _⟩ := src_there h2; exact Heap.lt_size e
      rw [upd_ne (Nat.ne_of_lt lt)]
      exact (hf c hcm).1
  done := by
    intro X hP hw hK hc i pins s σ H E I hf st hg
    subst hP hw hK
    obtain ⟨hz, hTI, ⟨x0, y0, hTO⟩, h1, h2⟩ := st
    obtain ⟨xs, ys, hqx, hqy, l1, l2, hend⟩ := hg
    obtain ⟨its, rv, p, _, _⟩ := src_of I hqx
    obtain ⟨its2, rv2, p2, _, _⟩ := src_of I hqy
    have r1 := rv.length
    have r2 := rv2.length
    have ne1 : a ≠ i1 := src_ne h1 p
    have ne2 : b ≠ i2 := src_ne h2 p2
    have D1 := src_draws (prog := X.prog) (w := X.w) (A := X.A.in1) t (I.ok.hd hc) i1 a ne1 its.toArray
    have D2 := src_draws (prog := X.prog) (w := X.w) (A := X.A.in1) u (I.ok.hd hc) i2 b ne2 its2.toArray
    exact wpAny_pyNext_zipD2_end D D1 D2 hz hTI hTO ⟨h1, p⟩ ⟨h2, p2⟩ (by rw [List.size_toArray]; omega) (by rw [List.size_toArray]; omega) (by rw [List.size_toArray, List.size_toArray]; omega) fun h' tk hk => ⟨rfl, I.turnedL (ch := [z, TI, TO, i1, i2]) (fun c o hb q =>
      hk c o (fun q' => hb (by simp [q'])) (fun q' => hb (by simp [q'])) (fun q' => hb (by simp [q'])) (fun q' => hb (by simp [q'])) q) hf⟩
  self := fun A i s Q E st h => wpAny_pyIter_zip st.1 h
section
variable {X : Cx} {W : WX} {a b c : Expr} {es elts : List Expr} {ra rb rc : E} {p pos tpos : Pos} {x : Str} {kk : Nat}
def iZipK (K : PySem.W.Frag) (ta tb : TE) : TI := fun σ H R => ta σ H fun x H1 => tb σ H1 fun y H2 => ∃ t u a b xs ys, x = .ref a ∧ y = .ref b ∧ SqK K t H2 a xs ∧ SqK K u H2 b ys ∧ (xs.length ≤ big → ys.length ≤ big → R (ItzK K t u a b) H2)
theorem pi_zipK {ta tb : TE} (hg : Gl X "zip") (hm : X.mg "zip" = none) (ha : PE X a ta) (hb : PE X b tb) (hs : starEach (a :: [b]) X.env = (false, eval a X.env) :: starEach [b] X.env) (hs2 : starEach (b :: []) X.env = (false, eval b X.env) :: starEach [] X.env) (hpl : (backTo pos (starEach [b] X.env)).any (·.1) = false) :
    PI X (.Tuple elts kk tpos) (.Call (.Name "zip" p) [a, b] [] pos) (iZipK X.K ta tb) := by
  refine ⟨fun pins s σ H R I h => ?_⟩
  have hp : PA X [a, b] (tCons ta (tCons tb tNil)) := pa_cons ha (pa_cons hb pa_nil hs2) hs
  refine PyProof.Rows.Call_ (ld_blt I hg hm PyProof.Rows.boot_zip (PyProof.Rows.callWith_type1 (thn (hp.run pos pins s σ H (fun vs H2 => match vs with
    | [x, y] => ∃ t u a b xs ys, x = .ref a ∧ y = .ref b ∧ SqK X.K t H2 a xs ∧ SqK X.K u H2 b ys ∧ (xs.length ≤ big → ys.length ≤ big → R (ItzK X.K t u a b) H2)
    | _ => False) I h) fun us s1 z => ?_) hs hpl))
  obtain ⟨vs, H1, I1, r1, z⟩ := z
  cases r1 with
  | nil => exact z.elim
  | cons r rr => cases rr with
   | nil => exact z.elim
   | cons r' rr => cases rr with
    | cons _ _ => exact z.elim
    | nil =>
    obtain ⟨t, u, a, b, xs, ys, rfl, rfl, hqx, hqy, q⟩ := z
    obtain rfl := r
    obtain rfl := r'
    obtain ⟨its, rv, p1, z1, la⟩ := src_of I1 hqx
    obtain ⟨its2, rv2, p2, z2, lb⟩ := src_of I1 hqy
    refine zip_begins2 (src_begins t a its.toArray) (src_begins u b its2.toArray) p1 p2 fun h' hz hTI hTO g1 g2 hsz hk => wpAny_pyIter_zip hz ?_
    have I2 : Inv X pins σ H1 { s1 with heap := h' } := I1.kept (t' := s1.toks) hk
    have it1 : SrcIt t h' s1.heap.objs.size a 0 := by
      cases t with
      | true => exact ⟨_, g1, rfl, rfl⟩
      | false => exact ⟨_, g1, rfl, rfl⟩
    have it2 : SrcIt u h' (s1.heap.objs.size + 1) b 0 := by
      cases u with
      | true => exact ⟨_, g2, rfl, rfl⟩
      | false => exact ⟨_, g2, rfl, rfl⟩
    refine ⟨s1.heap.objs.size + 4, [s1.heap.objs.size + 4, s1.heap.objs.size + 2, s1.heap.objs.size + 3, s1.heap.objs.size, s1.heap.objs.size + 1], _, _, H1, rfl, I2, turn_zipK (t := t) (u := u) (a := a) (b := b) (zip_sep2 (N := s1.heap.objs.size) (fp1 := [a]) (fp2 := [b]) (fun c hc => by rw [List.mem_singleton.mp hc]; exact la) (fun c hc => by rw [List.mem_singleton.mp hc]; exact lb)),
      ⟨hz, hTI, ⟨_, _, hTO⟩, it1, it2⟩, fun c hcm => ?_, q (by rw [big_line]; exact z1) (by rw [big_line]; exact z2)⟩
    have hle : s1.heap.objs.size ≤ c := by
      rcases (by simpa using hcm : c = s1.heap.objs.size + 4 ∨ c = s1.heap.objs.size + 2 ∨ c = s1.heap.objs.size + 3 ∨ c = s1.heap.objs.size ∨ c = s1.heap.objs.size + 1) with z | z | z | z | z
      · rw [z]; exact Nat.le_add_right _ _
      · rw [z]; exact Nat.le_add_right _ _
      · rw [z]; exact Nat.le_add_right _ _
      · rw [z]; exact Nat.le_refl _
      · rw [z]; exact Nat.le_add_right _ _
    exact I1.fpOk hle (I1.hok.fresh hle)
theorem walk_zipK {K : PySem.W.Frag} {t u : Bool} {a b : Addr} {xs ys : List V} {n : Nat} (hn : n = min xs.length ys.length) : Walk (ItzK K t u a b) n (fun H => SqK K t H a xs ∧ SqK K u H b ys) (YPN (fun i => xs[i]?) (fun i => ys[i]?)) := by
  subst hn
  refine ⟨fun i _ hi q => ?_, fun _ q => ⟨xs, ys, q.1, q.2, by omega, by omega, by omega⟩, fun i H v H' _ q y => ?_⟩
  · have h1 : i < xs.length := by omega
    have h2 : i < ys.length := by omega
    exact ⟨xs, ys, xs[i], ys[i], q.1, q.2, by simp [h1], by simp [h2]⟩
  · obtain ⟨T, x, z, o, h1, h2, h3, h4, h5, h6⟩ := y
    exact ⟨T, x, z, o, h1, h2, h3, h4, h5 xs q.1, h6 ys q.2⟩
theorem zipD_len : ∀ (ds es : List D), (zipD ds es).length = min ds.length es.length
  | [], _ => by simp [zipD]
  | _ :: _, [] => by simp [zipD]
  | d :: ds, e :: es => by
    show (zipD ds es).length + 1 = _
    rw [zipD_len ds es, List.length_cons, List.length_cons]
    omega
theorem zipD_get : ∀ (ds es : List D) (i : Nat) (d e : D), ds[i]? = some d → es[i]? = some e → (zipD ds es)[i]? = some (mkTup [d, e])
  | [], _, _, _, _, h, _ => by simp at h
  | _ :: _, [], _, _, _, _, h => by simp at h
  | d :: ds, e :: es, 0, _, _, h1, h2 => by simp at h1 h2; subst h1 h2; rfl
  | d :: ds, e :: es, i + 1, x, y, h1, h2 => zipD_get ds es i x y (by simpa using h1) (by simpa using h2)
/-- the kinds of what is walked -/
def Src (K : PySem.W.Frag) (H : Hp) (ρ : List Addr) (ds : List D) (v : V) : Prop := ∃ t a vs, v = .ref a ∧ SqK K t H a vs ∧ (∀ H', Stb H H' → SqK K t H' a vs) ∧ DRs K H ρ ds vs
theorem bnd_assoc {α β γ : Type} (m : M α) (f : α → M β) (g : β → M γ) (S : Sto) : bnd (bnd m f) g S = bnd m (fun a => bnd (f a) g) S := by
  unfold bnd
  cases m S <;> rfl
def vOf (d : D) : M (List D) := match d with
  | .tup xs => ret xs
  | .p x => opt ((elems x).map fun xs => xs.map .p)
  | .ref _ => no
  | .exn _ => no
theorem src_val {K : PySem.W.Frag} {H : Hp} {ρ : List Addr} {d : D} {v : V} {ds : List D} {S S' : Sto} (r : DR K H ρ d v) (h : vOf d S = .ok ds S') : S' = S ∧ Src K H ρ ds v := by
  cases d with
  | exn _ => cases h
  | p y =>
    cases r with
    | p r =>
      cases y with
      | list xs => cases r with
        | lst hf hd => cases h; exact ⟨rfl, false, _, _, rfl, hf.sq, fun H' s => (hf.mono s).sq, hd.drs⟩
      | tuple xs => cases r with
        | tup hf hd => cases h; exact ⟨rfl, true, _, _, rfl, hf.sq, fun H' s => (hf.mono s).sq, hd.drs⟩
      | _ => cases h
  | tup ds => cases r with
    | tup h2 h3 h4 => cases h; exact ⟨rfl, true, _, _, rfl, h2.sq, fun H' s => (h2.mono s).sq, DRs.of_get h3 h4⟩
  | ref n => cases h
theorem vOf_ex {d : D} {S S' : Sto} {e : Ex} : vOf d S ≠ .ex e S' := fun h => by
  cases d with
  | exn _ => cases h
  | p y => cases y <;> cases h
  | tup ds => cases h
  | ref n => cases h
theorem walkD_zip {K : PySem.W.Frag} {H : Hp} {ρ : List Addr} {t u : Bool} {a b : Addr} {vs us : List V} {ds es : List D} (h1 : ∀ H', Stb H H' → SqK K t H' a vs) (h2 : ∀ H', Stb H H' → SqK K u H' b us) (r1 : DRs K H ρ ds vs) (r2 : DRs K H ρ es us) (l1 : vs.length ≤ big) : WalkD K H ρ (zipD ds es) (ItzK K t u a b) := by
  refine ⟨⟨fun H => SqK K t H a vs ∧ SqK K u H b us, _, by rw [zipD_len, r1.length, r2.length]; exact walk_zipK rfl, fun H1 s => ⟨h1 H1 s, h2 H1 s⟩, fun i H1 x H2 d ρ1 s q e y => ?_⟩, by rw [zipD_len, r1.length]; omega⟩
  obtain ⟨T, x1, x2, o, rfl, nT, od, rfl, f1, f2⟩ := y
  obtain ⟨d1, e1, s1⟩ := r1.getV f1
  obtain ⟨d2, e2, s2⟩ := r2.getV f2
  rw [zipD_get ds es i d1 d2 e1 e2] at e
  cases e
  exact ⟨.inr ⟨T, _, nT, rfl⟩, pair_dr nT od (s1.mono s q) (s2.mono s q)⟩
theorem gi_zip (hg : Gl X "zip" := by rfl) (hm : X.mg "zip" = none) (ha : GE X W a ra) (hb : GE X W b rb) (hs : starEach (a :: [b]) X.env = (false, eval a X.env) :: starEach [b] X.env := by rfl) (hs2 : starEach (b :: []) X.env = (false, eval b X.env) :: starEach [] X.env := by rfl) (hpl : (backTo pos (starEach [b] X.env)).any (·.1) = false := by rfl) :
    GI X W (.Tuple elts kk tpos) (.Call (.Name "zip" p) [a, b] [] pos) (iZipD ra rb) := by
  refine PI.imp (pi_zipK hg hm ha hb hs hs2 hpl) fun σ H R q => ?_
  obtain ⟨env, S, ρ, se, ss, h⟩ := q
  have h0 : Post X.K X.mg (fun c d H' => W c d σ H') S ρ H (bnd (ra env) (fun d => bnd (vOf d) fun ds => bnd (bnd (rb env) vOf) fun es => ret (zipD ds es)) S) (fun ds _ ρ' H' => ∀ J, WalkD X.K H' ρ' ds J → R J H') := by
    rw [← bnd_assoc]
    exact h
  refine ⟨env, S, ρ, se, ss, (Post.bnd h0).imp fun d S1 ρ1 H1 _ x1 s1 h1 v rv => ?_⟩
  have h2 := Post.bnd h1
  cases q1 : vOf d S1 with
  | no => rw [q1] at h2; exact h2.elim
  | ex e' S' => exact absurd q1 vOf_ex
  | ok ds S' =>
    rw [q1] at h2
    obtain ⟨rfl, t, a1, vs, rfl, k1, m1, r1⟩ := src_val rv q1
    have h3 := h2 H1 ρ1 Ext.refl s1
    dsimp only at h3
    rw [bnd_assoc] at h3
    refine ⟨env, S', ρ1, se.mono x1.st x1.pre, s1, (Post.bnd h3).imp fun e S2 ρ2 H2 _ x2 s2 h4 u ru => ?_⟩
    have h5 := Post.bnd h4
    cases q2 : vOf e S2 with
    | no => rw [q2] at h5; exact h5.elim
    | ex e' S' => exact absurd q2 vOf_ex
    | ok es S3 =>
      rw [q2] at h5
      obtain ⟨rfl, t2, a2, us, rfl, k2, m2, r2⟩ := src_val ru q2
      have h6 := h5 H2 ρ2 Ext.refl s2
      refine ⟨t, t2, a1, a2, vs, us, rfl, rfl, m1 H2 x2.st, k2, fun l1 l2 => ?_⟩
      exact h6 H2 ρ2 Ext.refl s2 _ (walkD_zip (fun H' st => m1 H' (x2.st.trans st)) m2 (r1.mono x2.st x2.pre) r2 l1)
end
end DL

namespace DL
open PySem PySem.Spec L2
variable [Nfo]
section
variable {X : Cx} {W : WX} {a b c : Expr} {es : List Expr} {ra rb rc : E} {ta tb : T} {rs : As} {p pos : Pos} {x : Str} {st : Stmt} {sts : List Stmt} {ba bb : B} {ri : DL.I} {g : G} {tg : Expr}
/-! ## for x in a list that may change -/
theorem gb_forR {os : List Nat} (hp : PassesOwn (model X.prog X.w) X.A X.env X.xe) (hc : X.calm = true) (ha : GE X W a ra) (hg : GG X tg os g) (hb : GBs X W sts ba) (hs : ∀ x, foldedSetIterable a X.env x = pure x := by intro _; rfl) :
    GB X W (.For tg a sts [] pos) (sForR ra g ba) := by
  refine PS.imp (ps_for hp hc (pi_list ha) hg hb hs) fun D σ H q => ?_
  obtain ⟨env, S, ρ, se, ss, h⟩ := q
  refine ⟨env, S, ρ, se, ss, pre h fun d S1 ρ1 H1 _ x1 s1 h1 v rv => ?_⟩
  have se1 := se.mono x1.st x1.pre
  cases d with
  | exn _ => first | exact q.elim | exact h.elim | exact h1.elim | exact h2.elim | exact h3.elim | exact h4.elim | exact h5.elim | exact p.elim | cases h | cases q | cases e
  | p _ => exact h1.elim
  | tup _ => exact h1.elim
  | ref n =>
    cases rv with
    | @ref _ l e1 =>
      replace h1 : Post X.K X.mg _ S1 ρ1 H1 (match S1[n]? with
        | some (.lst es) => forR g ba n (es.length + 1) 0 env S1
        | _ => .no) (kFl X.K D) := h1
      cases q1 : S1[n]? with
      | none => rw [q1] at h1; exact h1.elim
      | some o =>
        rw [q1] at h1
        cases o with
        | dct _ => exact h1.elim
        | gone => exact h1.elim
        | lst es =>
          obtain ⟨vs, hv, r⟩ := s1.ob n _ l q1 e1
          refine ⟨l, rfl, ⟨vs, SqL.of hv⟩, fun i m σ2 H2 => ∃ env S ρ, SimE X.K H2 ρ env σ2 ∧ SimS X.K H2 ρ S ∧ ρ[n]? = some l ∧ Post X.K X.mg (fun c d H' => ∀ σ', W c d σ' H') S ρ H2 (forR g ba n m i env S) (kFl X.K D), ⟨es.length + 1, env, S1, ρ1, se1, s1, e1, h1⟩, fun i m σ2 H2 z => ?_⟩
          obtain ⟨env2, S2, ρ2, se2, s2, e2, h2⟩ := z
          cases m with
          | zero => exact h2.elim
          | succ k =>
            replace h2 : Post X.K X.mg _ S2 ρ2 H2 (match S2[n]? with
              | some (.lst es) => match es[i]? with
                | some x => bnd (hush (g x env2)) (fun env1 => bnd (ba env1) fun f => match f with
                  | .nx env2 => forR g ba n k (i + 1) env2
                  | .ct env2 => forR g ba n k (i + 1) env2
                  | .bk env2 => ret (.nx env2)
                  | .rt d => ret (.rt d)) S2
                | none => .ok (.nx env2) S2
              | _ => .no) (kFl X.K D) := h2
            cases q2 : S2[n]? with
            | none => rw [q2] at h2; exact h2.elim
            | some o2 =>
              rw [q2] at h2
              cases o2 with
              | dct _ => exact h2.elim
              | gone => exact h2.elim
              | lst fs =>
                obtain ⟨us, hu, r2⟩ := s2.ob n _ l q2 e2
                cases q3 : fs[i]? with
                | none =>
                  simp only [q3] at h2
                  refine .inl ⟨⟨us, SqL.of hu, ?_⟩, h2 H2 ρ2 Ext.refl s2 σ2 se2⟩
                  rw [← r2.length]
                  exact List.getElem?_eq_none_iff.mp q3
                | some d =>
                  simp only [q3] at h2
                  obtain ⟨y, ey, ry⟩ := r2.get q3
                  refine .inr ⟨⟨us, y, SqL.of hu, ey⟩, fun σ' H' => ∃ env S ρ, SimE X.K H' ρ env σ' ∧ SimS X.K H' ρ S ∧ ρ[n]? = some l ∧ Post X.K X.mg (fun c d H' => ∀ σ', W c d σ' H') S ρ H' (forR g ba n k (i + 1) env S) (kFl X.K D), fun σ' H' z => ⟨k, Nat.lt_succ_self k, z⟩, fun x H' yl => ?_⟩
                  obtain ⟨rfl, fx⟩ := yl
                  have ex : x = y := by
                    have := fx us (SqL.of hu)
                    rw [ey] at this
                    exact (Option.some.inj this).symm
                  subst ex
                  refine ⟨d, env2, S2, ρ2, ry, se2, s2, ((Post.bnd h2).imp fun env4 S4 ρ4 H4 _ x4 s4 h4 σ4 se4 _ => ⟨env4, S4, ρ4, se4, s4, (Post.bnd h4).imp fun f S5 ρ5 H5 _ x5 s5 h5 => ?_⟩).hush⟩
                  have e5 := pre_get (x4.trans x5).pre e2
                  cases f with
                  | nx env5 => exact fun σ5 se5 => ⟨env5, S5, ρ5, se5, s5, e5, h5⟩
                  | ct env5 => exact fun σ5 se5 => ⟨env5, S5, ρ5, se5, s5, e5, h5⟩
                  | bk env5 => exact fun σ5 se5 => h5 H5 ρ5 Ext.refl s5 σ5 se5
                  | rt d => exact fun v rv => h5 H5 ρ5 Ext.refl s5 v rv
end
end DL

namespace DL
open PySem PySem.Spec L2
variable [Nfo]
section
variable {X : Cx} {W : WX} {a b c : Expr} {es : List Expr} {ra rb rc : E} {ta tb : T} {rs : As} {pp pos : Pos} {x : Str} {st : Stmt} {sts : List Stmt} {ba bb : B} {ri : DL.I} {g : G} {tg : Expr}
theorem lcR_ok {fz : Bool} {own : List (Str × Nat)} {os : List Nat} (hos : ∀ i, i ∈ os → i ∈ own.map (·.2)) {σ : L2.St} {H : Hp} {Q : VK} (q : rE X.K X.mg W (eLcR fz (own.map (·.2)) rb g ta ra) σ H Q) :
    tLc (iList X.K (rE X.K X.mg W rb)) (rG X.K X.mg os g) (rT X.K X.mg WN ta) (rE X.K X.mg WN ra) (own.map (·.2)) σ H (frzQ Q) := by
  obtain ⟨env, S, ρ, se, ss, h⟩ := q
  refine ⟨env, S, ρ, se, ss, (Post.bnd h).imp fun d S1 ρ1 H1 _ x1 s1 h1 v rv => ?_⟩
  cases d with
  | exn _ => first | exact q.elim | exact h.elim | exact h1.elim | exact h2.elim | exact h3.elim | exact h4.elim | exact h5.elim | exact p.elim | cases h | cases q | cases e
  | p _ => exact h1.elim
  | tup _ => exact h1.elim
  | ref n =>
    cases rv with
    | @ref _ l e1 =>
      replace h1 : Post X.K X.mg _ S1 ρ1 H1 (match S1[n]? with
        | some (.lst es) => if es.length < big then hush (bnd (lcR g ta ra (DL.wipe env (own.map (·.2))) n (es.length + 1) 0) fun ys => mkL fz ys) S1 else .no
        | _ => .no) _ := h1
      cases q1 : S1[n]? with
      | none => rw [q1] at h1; exact h1.elim
      | some o =>
        rw [q1] at h1
        cases o with
        | dct _ => exact h1.elim
        | gone => exact h1.elim
        | lst es =>
          obtain ⟨hlen, h1⟩ := postIfR h1
          obtain ⟨us0, hv0, r0⟩ := s1.ob n _ l q1 e1
          refine ⟨l, rfl, ⟨us0, SqL.of hv0⟩, fun p hp => ?_⟩
          have h1 : Post X.K X.mg W0 S1 ρ1 H1 (bnd (lcR g ta ra (DL.wipe env (own.map (·.2))) n (es.length + 1) 0) (fun ys => mkL fz ys) S1) (fun d _ ρ' H' => ∀ v, DR X.K H' ρ' d v → Q v H') := h1.hush
          have sew := (se.mono x1.st x1.pre).wipe (own.map (·.2))
          refine ⟨fun i m Hc => ∃ Hg S2 ρ2 acc vs, Hg p = none ∧ Hc = upd Hg p (.lst vs) ∧ Stb H1 Hg ∧ ρ1 <+: ρ2 ∧ SimS X.K Hg ρ2 S2 ∧ DRs X.K Hg ρ2 acc vs ∧ acc.length ≤ i ∧ i + m = es.length + 1 ∧
              Post X.K X.mg W0 S2 ρ2 Hg (bnd (lcR g ta ra (DL.wipe env (own.map (·.2))) n m i) (fun ys => mkL fz (acc ++ ys)) S2) (fun d _ ρ' H' => ∀ v, DR X.K H' ρ' d v → Q v H'),
            ⟨es.length + 1, H1, S1, ρ1, [], [], hp, rfl, Stb.refl _, List.prefix_refl _, s1, .nil, Nat.zero_le _, by omega, h1⟩, fun i m Hc z => ?_⟩
          obtain ⟨Hg, S2, ρ2, acc, vs, g0, rfl, g1, g2, s2, r2, l2, hm, h2⟩ := z
          have e2 := pre_get g2 e1
          have stc : Stb Hg (upd Hg p (.lst vs)) := stb_new g0
          cases m with
          | zero => exact h2.elim
          | succ k =>
            replace h2 : Post X.K X.mg W0 S2 ρ2 Hg (bnd (fun S => match S[n]? with
              | some (.lst es) => match es[i]? with
                | some x => bnd (lcT g ta ra (DL.wipe env (own.map (·.2))) x) (fun o => bnd (lcR g ta ra (DL.wipe env (own.map (·.2))) n k (i + 1)) fun ys => ret (o.toList ++ ys)) S
                | none => .ok [] S
              | _ => .no) (fun ys => mkL fz (acc ++ ys)) S2) (fun d _ ρ' H' => ∀ v, DR X.K H' ρ' d v → Q v H') := h2
            cases q2 : S2[n]? with
            | none => unfold bnd at h2; simp only [q2] at h2; exact h2.elim
            | some o2 =>
              cases o2 with
              | dct _ => unfold bnd at h2; simp only [q2] at h2; exact h2.elim
              | gone => unfold bnd at h2; simp only [q2] at h2; exact h2.elim
              | lst fs =>
                obtain ⟨us, hu, ru⟩ := s2.ob n _ l q2 e2
                have hlp : l ≠ p := ne_of_none hu g0
                have huc : (upd Hg p (.lst vs)) l = some (.lst us) := by rw [upd_ne hlp]; exact hu
                cases q3 : fs[i]? with
                | none =>
                  refine .inl ⟨⟨us, SqL.of huc, ?_⟩, ?_⟩
                  · rw [← ru.length]
                    exact List.getElem?_eq_none_iff.mp q3
                  · unfold bnd at h2
                    simp only [q2, q3] at h2
                    rw [List.append_nil] at h2
                    exact ansL s2 h2 r2 g0
                | some d =>
                  obtain ⟨y, ey, ry⟩ := ru.get q3
                  refine .inr ⟨⟨us, y, SqL.of huc, ey⟩, _, fun H' z => ⟨k, Nat.lt_succ_self k, z⟩, fun x H3 yl => ?_⟩
                  obtain ⟨rfl, fx⟩ := yl
                  have ex : x = y := by
                    have := fx us (SqL.of huc)
                    rw [ey] at this
                    exact (Option.some.inj this).symm
                  subst ex
                  obtain ⟨sc, xc⟩ := s2.lay (o := .lst vs) g0
                  have turn := Post.bnd (m := lcT g ta ra (DL.wipe env (own.map (·.2))) d) (f := fun o => bnd (lcR g ta ra (DL.wipe env (own.map (·.2))) n k (i + 1)) fun ys => mkL fz (acc ++ (o.toList ++ ys))) (S := S2) (K := X.K) (mg := X.mg) (W := W0) (ρ := ρ2) (H := Hg) (k := fun d _ ρ' H' => ∀ v, DR X.K H' ρ' d v → Q v H') (by
                    unfold bnd at h2 ⊢
                    simp only [q2, q3] at h2
                    cases q4 : lcT g ta ra (DL.wipe env (own.map (·.2))) d S2 with
                    | ok o S3 =>
                      rw [q4] at h2
                      dsimp only at h2 ⊢
                      cases q5 : lcR g ta ra (DL.wipe env (own.map (·.2))) n k (i + 1) S3 with
                      | ok ys S4 => rw [q5] at h2; exact h2
                      | ex e' S4 => rw [q5] at h2; exact h2
                      | no => rw [q5] at h2; exact h2
                    | ex e' S3 => rw [q4] at h2; exact h2
                    | no => rw [q4] at h2; exact h2)
                  have turnC := (pghost (o := .lst vs) g0 rfl s2 turn)
                  have se3 := (sew.mono (g1.trans stc) g2)
                  refine ⟨d, _, S2, ρ2, ry.mono stc (List.prefix_refl _), se3, sc, ((Post.bnd (m := hush (g d (DL.wipe env (own.map (·.2))))) turnC).imp fun env1 S4 ρ4 H4 _ x4 s4 h4 σ4 se4 of4 => ?_).hush⟩
                  refine ⟨off_wipe ⟨of4.1, fun j hj => of4.2 j fun z => hj (hos j z)⟩, env1, S4, ρ4, se4, s4, (Post.bnd h4).imp fun b S5 ρ5 H5 _ x5 s5 h5 => ?_⟩
                  cases b with
                  | true =>
                    refine ⟨env1, S5, ρ5, se4.mono x5.st x5.pre, s5, (Post.bnd h5).imp fun d S6 ρ6 H6 _ x6 s6 h6 v rv => ?_⟩
                    obtain ⟨b1, b4, b5, b6⟩ := h6 H6 ρ6 Ext.refl s6
                    have x46 := (x4.trans x5).trans x6
                    have b3 : Stb Hg (del H6 p) := (stc.trans x46.st).trans b4
                    have b2 : ρ2 <+: ρ6 := x46.pre
                    have rl := r2.length
                    refine ⟨vs, b1, by rw [← big_line]; omega, del H6 p, S6, ρ6, acc ++ [d], vs ++ [v], del_same, by rw [upd_del (u := .lst vs)], g1.trans b3, g2.trans b2, b5, (r2.mono b3 b2).append (.cons (rv.mono b4 (List.prefix_refl _)) .nil), by rw [List.length_append, List.length_singleton]; omega, by omega, ?_⟩
                    have e3 : ∀ ys, acc ++ [d] ++ ys = acc ++ ((some d).toList ++ ys) := fun ys => by simp
                    simp only [e3]
                    exact b6
                  | false =>
                    obtain ⟨b1, b4, b5, b6⟩ := h5 H5 ρ5 Ext.refl s5
                    have x45 := x4.trans x5
                    have b3 : Stb Hg (del H5 p) := (stc.trans x45.st).trans b4
                    have b2 : ρ2 <+: ρ5 := x45.pre
                    refine ⟨del H5 p, S5, ρ5, acc, vs, del_same, ?_, g1.trans b3, g2.trans b2, b5, r2.mono b3 b2, by omega, by omega, b6⟩
                    rw [upd_del (u := .lst vs)]
                    funext z
                    by_cases hz : z = p
                    · subst hz; rw [upd_same]; exact b1
                    · rw [upd_ne hz]
theorem g_lcR (fz : Bool) {scope : Scope} {own : List (Str × Nat)} {os : List Nat} {ifs : List Expr} (hc : X.calm = true) (hN : X.N.Nodup) (hi : GE X W b rb) (ok : BlkOk X.N X.env.scope scope own) (hos : ∀ i, i ∈ os → i ∈ own.map (·.2))
    (hg : ∀ (s : Shared) (H : Hp) (C : Addr) (cl : List (Str × Addr)) (fp : List Addr), GG (X.blk s H scope (compEnvC scope cl C X.env) fp) tg os g)
    (ht : ∀ (s : Shared) (H : Hp) (C : Addr) (cl : List (Str × Addr)) (fp : List Addr), GTs (X.blk s H scope (compEnvC scope cl C X.env) fp) WN ifs ta)
    (he : ∀ (s : Shared) (H : Hp) (C : Addr) (cl : List (Str × Addr)) (fp : List Addr), GE (X.blk s H scope (compEnvC scope cl C X.env) fp) WN a ra) (hs : ∀ x, foldedSetIterable b X.env x = pure x := by intro _; rfl) :
    GE X W (.ListComp a [⟨tg, b, ifs, 0⟩] scope pos) (eLcR fz (own.map (·.2)) rb g ta ra) :=
  PE.imp (pe_frz (pe_lc (g := rG X.K X.mg os g) (tt := rT X.K X.mg WN ta) (te := rE X.K X.mg WN ra) hc hN (pi_list hi) ok hg ht he hs)) fun σ H Q q => lcR_ok hos q
theorem gb_setLcR (fz : Bool) {scope : Scope} {own : List (Str × Nat)} {os : List Nat} {ifs : List Expr} {i : Nat} {y : Str} {py spos : Pos} (hc : X.calm = true) (hN : X.N.Nodup) (hy : X.N[i]? = some y) (hyl : X.env.scope.names.lookup y = some .local)
    (hsw : swapsWith (.ListComp a [⟨tg, b, ifs, 0⟩] scope pos) (some (.Name y py)) spos.line X.env = pure true) (hi : GE X W b rb) (ok : BlkOk X.N X.env.scope scope own) (hos : ∀ i, i ∈ os → i ∈ own.map (·.2))
    (hg : ∀ (s : Shared) (H : Hp) (C : Addr) (cl : List (Str × Addr)) (fp : List Addr), GG (X.blk s H scope (compEnvC scope cl C X.env) fp) tg os g)
    (ht : ∀ (s : Shared) (H : Hp) (C : Addr) (cl : List (Str × Addr)) (fp : List Addr), GTs (X.blk s H scope (compEnvC scope cl C X.env) fp) WN ifs ta)
    (he : ∀ (s : Shared) (H : Hp) (C : Addr) (cl : List (Str × Addr)) (fp : List Addr), GE (X.blk s H scope (compEnvC scope cl C X.env) fp) WN a ra) (hs : ∀ x, foldedSetIterable b X.env x = pure x := by intro _; rfl) :
    GB X W (.Assign [.Name y py] (.ListComp a [⟨tg, b, ifs, 0⟩] scope pos) spos) (sSet i (eLcR fz (own.map (·.2)) rb g ta ra)) := by
  refine PS.imp (ps_frz (ps_setLc (g := rG X.K X.mg os g) (tt := rT X.K X.mg WN ta) (te := rE X.K X.mg WN ra) hc hN hy hyl hsw (pi_list hi) ok hg ht he hs)) fun D σ H q => ?_
  have k := lcR_ok (fz := fz) (own := own) (Q := fun x H1 => D.nx (σ.set i (some x)) H1) hos (by
    obtain ⟨env, S, ρ, se, ss, h⟩ := q
    exact ⟨env, S, ρ, se, ss, pre h fun d S1 ρ1 H1 _ x1 s1 h1 v rv => h1 H1 ρ1 Ext.refl s1 _ ((se.mono x1.st x1.pre).set i rv)⟩)
  obtain ⟨env, S, ρ, se, ss, k⟩ := k
  refine ⟨env, S, ρ, se, ss, k.imp fun d S1 ρ1 H1 _ x1 s1 h1 v rv => ?_⟩
  obtain ⟨l, e, k1, k2⟩ := h1 v rv
  refine ⟨l, e, k1, fun p hp => ?_⟩
  obtain ⟨Wm, w0, turn⟩ := k2 p hp
  refine ⟨Wm, w0, fun i m H w => ?_⟩
  rcases turn i m H w with ⟨u1, u2⟩ | u
  · refine .inl ⟨u1, ?_⟩
    rcases u2 with ⟨l2, xs, e2, hl, z⟩ | z
    · exact .inl ⟨l2, xs, hl, z⟩
    · exact .inr z
  · exact .inr u
end
end DL

/-! ## slices with a step -/
namespace DL
open PySem PySem.Spec L2 PyProof.Rows
variable [Nfo]
theorem stepB_eq (lo hi : Option Int) (st : Int) (h0 : st ≠ 0) (n : Nat) : Builtin.Slice.sliceAdjust lo hi st (n : Int) = ((sliceBounds lo hi (some st) n).1, (sliceBounds lo hi (some st) n).2.1) := by
  unfold Builtin.Slice.sliceAdjust sliceBounds
  simp only [Option.getD_some]
  refine Prod.ext ?_ ?_
  · cases lo with
    | none => dsimp only; split <;> split <;> omega
    | some v => dsimp only; repeat' split <;> omega
  · cases hi with
    | none => dsimp only; split <;> split <;> omega
    | some v => dsimp only; repeat' split <;> omega
theorem stepL_get {α : Type} (xs : List α) (a b c : Int) (h0 : c ≠ 0) : ((List.range (Builtin.Slice.slicePlaces a b c)).filterMap fun (k : Nat) => xs.toArray[(a + (k : Int) * c).toNat]?) = (sliceRange a b c).filterMap (xs[·]?) := by
  have e : (if c > 0 then (if a < b then (b - a + c - 1) / c else 0) else (if a > b then (a - b - c - 1) / (-c) else 0) : Int).toNat = Builtin.Slice.slicePlaces a b c := by
    unfold Builtin.Slice.slicePlaces
    by_cases hc : c > 0
    · simp only [hc, if_true]
      by_cases hab : a < b
      · simp only [hab, if_true]
        rw [show b - a + c - 1 = (b - a - 1) + c * 1 by omega, Int.add_mul_ediv_left _ _ (by omega)]
      · simp [hab]
    · simp only [hc, if_false]
      by_cases hab : a > b
      · simp only [hab, if_true]
        rw [show a - b - c - 1 = (a - b - 1) + (-c) * 1 by omega, Int.add_mul_ediv_left _ _ (by omega)]
      · simp [hab]
  unfold sliceRange
  dsimp only
  rw [e, List.filterMap_map]
  congr 1
  funext k
  show xs.toArray[_]? = xs[_]?
  rw [List.getElem?_toArray, Int.mul_comm]
theorem stepL_len {α : Type} (xs : List α) (lo hi : Option Int) (st : Int) : (stepL xs lo hi st).length ≤ xs.length := by
  unfold stepL
  refine Nat.le_trans (List.length_filterMap_le _ _) (sliceRange_length_le _ _ _ _ (fun hc => ?_) fun hc => ?_)
  · simp only [sliceBounds] at hc ⊢
    simp only [hc, if_true]
    constructor
    · cases lo with
      | none => simp
      | some i => dsimp only; omega
    · cases hi with
      | none => simp
      | some i => dsimp only; omega
  · simp only [sliceBounds] at hc ⊢
    simp only [hc, if_false]
    constructor
    · cases lo with
      | none => simp
      | some i => dsimp only; omega
    · cases hi with
      | none => simp
      | some i => dsimp only; omega
def stW (lo hi : Option Int) (st : Int) (n : Nat) : Prop := (sliceBounds lo hi (some st) n).1 = 0 ∧ st = 1 ∧ Builtin.Slice.slicePlaces (sliceBounds lo hi (some st) n).1 (sliceBounds lo hi (some st) n).2.1 st = n
theorem stW_all {α : Type} (xs : List α) {lo hi : Option Int} {st : Int} (h : stW lo hi st xs.length) (h0 : st ≠ 0) : stepL xs lo hi st = xs := by
  obtain ⟨w1, w2, w3⟩ := h
  have e0 := stepL_get xs (sliceBounds lo hi (some st) xs.length).1 (sliceBounds lo hi (some st) xs.length).2.1 st h0
  show (sliceRange (sliceBounds lo hi (some st) xs.length).1 (sliceBounds lo hi (some st) xs.length).2.1 st).filterMap (xs[·]?) = xs
  rw [← e0, w3, w1, w2]
  have e : (fun (k : Nat) => xs.toArray[((0 : Int) + (k : Int) * 1).toNat]?) = fun k => xs.toArray[k]? := by
    funext k
    rw [show ((0 : Int) + (k : Int) * 1).toNat = k by omega]
  rw [e]
  have := PySem.W.krv_all xs.toArray
  rw [List.size_toArray] at this
  exact this
theorem pick_step (xs : List Value) (lo hi : Option Int) (st : Int) : slicePick xs.toArray lo hi (some st) = (stepL xs lo hi st).toArray := by
  unfold slicePick stepL
  rw [List.size_toArray]
  congr 1
  congr 1
  funext k
  exact List.getElem?_toArray ..
section
variable {prog : Program} {w : World} {A : Around} {E : Value → Shared → Prop} {s : Shared}
theorem applied_step {sl : Addr} {vl vu vs : Value} {lo hi : Option Int} {st : Int} {n : Nat} {Q : Int × Int × Nat → Shared → Prop} (hs : s.heap.IsSliceOf sl vl vu vs) (pl : IsPart vl lo) (pu : IsPart vu hi) (ps : IsPart vs (some st)) (h0 : st ≠ 0)
    (h : Q ((sliceBounds lo hi (some st) n).1, st, Builtin.Slice.slicePlaces (sliceBounds lo hi (some st) n).1 (sliceBounds lo hi (some st) n).2.1 st) s) : wpAny (model prog w) A (Builtin.Slice.sliceApplied (.ref sl) (pure (n : Int))) Q E s := by
  obtain ⟨os, hos, hcs, hds⟩ := id hs
  unfold Builtin.Slice.sliceApplied Builtin.Slice.sliceFields
  refine wpAny_bind (wpAny_bind (wpAny_field hos hds (x := vl) rfl (wpAny_bind (wpAny_field hos hds (x := vu) rfl (wpAny_bind (wpAny_field hos hds (x := vs) rfl (wpAny_pure ?_)))))))
  refine wpAny_bind (HT.slicePart_ ps ?_)
  show wpAny _ _ (if (st == 0) = true then _ else _) _ _ s
  rw [if_neg (by simpa using h0)]
  refine wpAny_bind (HT.slicePart_ pl (wpAny_bind (HT.slicePart_ pu (wpAny_bind (wpAny_pure ?_)))))
  show wpAny _ _ (match Builtin.Slice.sliceAdjust lo hi st (n : Int) with | (lo, hi) => pure (lo, st, Builtin.Slice.slicePlaces lo hi st)) _ _ s
  rw [stepB_eq lo hi st h0 n]
  exact wpAny_pure h
theorem getItem_tuple_step {t sl : Addr} {items : List Value} {vl vu vs : Value} {lo hi : Option Int} {st : Int} {Q : Value → Shared → Prop} (ht : IsTup s.heap t items.toArray) (hs : s.heap.IsSliceOf sl vl vu vs) (pl : IsPart vl lo) (pu : IsPart vu hi) (ps : IsPart vs (some st)) (h0 : st ≠ 0)
    (h1 : stW lo hi st items.length → Q (.ref t) s)
    (h : Q (.ref s.heap.objs.size) { s with heap := s.heap.push { cls := .type "tuple", data := .seq (stepL items lo hi st).toArray } })
    (hsz : items.length ≤ sizeLine) : wpAny (model prog w) A (getItem (.ref t) (.ref sl)) Q E s := by
  have htake : sizeOk (.seq (stepL items lo hi st).toArray) := by
    show (stepL items lo hi st).toArray.size ≤ sizeLine
    rw [List.size_toArray]
    exact Nat.le_trans (stepL_len ..) hsz
  obtain ⟨os, hos, hcs, hds⟩ := id hs
  have hTs : s.TypeIs (.ref sl) "slice" := ⟨os, hos, hcs⟩
  unfold getItem
  try with_reducible refine wpAny_holding ?_
  first | refine wpAny_bind (wpAny_pure ?_) | skip
  refine wpAny_bind (wpAny_sequenceKey ht.typeIs (by decide) ?_)
  refine wpAny_bind (wpAny_callSpecial?_slot (name := Str.ofString "__getitem__") ht.typeIs PyProof.Rows.slot_tuple_getitem
    (wpAny_call_entry PyProof.Rows.slot_tuple_getitem ht.typeIs entry_tuple_getitem ?_ (args_tuple_getitem _ _)))
  show wpAny _ _ (Builtin.Tuple.tupleItemsOf (.ref t) >>= _) _ _ s
  refine wpAny_bind (tupleItemsOf_ ht ?_)
  refine wpAny_bind (wpAny_typeOf hTs ?_)
  rw [if_pos (by decide)]
  refine wpAny_bind (applied_step hs pl pu ps h0 ?_)
  have e0 : (((List.range (Builtin.Slice.slicePlaces (sliceBounds lo hi (some st) items.toArray.size).1 (sliceBounds lo hi (some st) items.toArray.size).2.1 st)).filterMap fun (k : Nat) => items.toArray[((sliceBounds lo hi (some st) items.toArray.size).1 + (k : Int) * st).toNat]?)) = stepL items lo hi st := by
    rw [stepL_get _ _ _ _ h0, List.size_toArray]
    rfl
  by_cases hw : ((sliceBounds lo hi (some st) items.toArray.size).1 == 0 && st == 1 && (Builtin.Slice.slicePlaces (sliceBounds lo hi (some st) items.toArray.size).1 (sliceBounds lo hi (some st) items.toArray.size).2.1 st) == items.toArray.size) = true
  · show wpAny _ _ (if ((sliceBounds lo hi (some st) items.toArray.size).1 == 0 && st == 1 && (Builtin.Slice.slicePlaces (sliceBounds lo hi (some st) items.toArray.size).1 (sliceBounds lo hi (some st) items.toArray.size).2.1 st) == items.toArray.size) = true then _ else _) _ _ s
    rw [if_pos hw]
    rw [Bool.and_eq_true, Bool.and_eq_true] at hw
    have w1 := eq_of_beq hw.1.1
    have w2 := eq_of_beq hw.1.2
    have w3 := eq_of_beq hw.2
    have hh := h1 (by rw [List.size_toArray] at w1 w3; exact ⟨w1, w2, w3⟩)
    refine wpAny_bind ?_
    show wpAny _ _ (typeOf (.ref t) >>= fun T => pure (T == .type "tuple")) _ _ s
    refine wpAny_bind (wpAny_typeOf ht.typeIs (wpAny_pure ?_))
    first
      | rw [if_pos (by decide)]
      | simp only [beq_self_eq_true, if_true]
    first
      | exact wpAny_bind (wpAny_rule (wpAny_pure ⟨_, rfl, wpAny_pure hh⟩))
      | exact wpAny_bind (wpAny_rule (wpAny_bind (wpAny_pure (wpAny_pure ⟨_, rfl, wpAny_pure hh⟩))))
  · show wpAny _ _ (if ((sliceBounds lo hi (some st) items.toArray.size).1 == 0 && st == 1 && (Builtin.Slice.slicePlaces (sliceBounds lo hi (some st) items.toArray.size).1 (sliceBounds lo hi (some st) items.toArray.size).2.1 st) == items.toArray.size) = true then _ else _) _ _ s
    rw [if_neg hw, e0]
    first
      | exact wpAny_bind (m := Builtin.Tuple.tupleExact _) (wpAny_newObj_type (wpAny_pure ⟨_, rfl, wpAny_pure h⟩) htake)
      | exact wpAny_bind (m := Builtin.Tuple.tupleExact _) (wpAny_newObj_type (wpAny_bind (wpAny_pure (wpAny_pure ⟨_, rfl, wpAny_pure h⟩))) htake)
      | exact wpAny_bind (wpAny_bind (m := Builtin.Tuple.tupleExact _) (wpAny_newObj_type (wpAny_pure (wpAny_pure ⟨_, rfl, wpAny_pure h⟩)) htake))
      | exact wpAny_bind (wpAny_bind (m := Builtin.Tuple.tupleExact _) (wpAny_newObj_type (wpAny_pure ⟨_, rfl, wpAny_pure h⟩) htake))
end
section
variable {X : Cx} {W : WX} {a b c : Expr} {ra rb rc : E} {pos p2 : Pos} {te : TE} {e : Expr} {tl th ts : TO} {lo hi : Option Expr} {st : Expr}
/-- a[lo:hi:st], a a list or a tuple -/
def tStep (K : PySem.W.Frag) (te : TE) (tl th ts : TO) : TE := fun σ H Q => te σ H fun x H1 => tl σ H1 fun l H2 => th σ H2 fun u H3 => ts σ H3 fun k H4 => ∃ k' a xs, k = some k' ∧ k' ≠ 0 ∧ x = .ref a ∧
  ((SqL K H4 a xs ∧ ∀ p, H4 p = none → Q (.ref p) (upd H4 p (.lst (stepL xs l u k')))) ∨ (SqT K H4 a xs ∧ (stepL xs l u k' = xs → Q (.ref a) H4) ∧ NewT Q H4 (stepL xs l u k')))
theorem vals_step {xs : List V} {its : List Value} (r : Vals xs its) (lo hi : Option Int) (st : Int) : Vals (stepL xs lo hi st) (stepL its lo hi st) := by
  unfold stepL
  rw [r.length]
  generalize sliceRange _ _ _ = ks
  induction ks with
  | nil => exact .nil
  | cons k ks ih =>
    rw [List.filterMap_cons, List.filterMap_cons]
    cases q : xs[k]? with
    | none =>
      have : its[k]? = none := by
        rw [List.getElem?_eq_none_iff] at q ⊢
        rw [← r.length]; exact q
      rw [this]
      exact ih
    | some x =>
      obtain ⟨u, hu, ru⟩ := r.get q
      rw [hu]
      exact .cons ru ih
theorem pe_step (he : PE X e te) (hl : PO X lo tl) (hu : PO X hi th) (hst : PO X (some st) ts) : PE X (.Subscript e (.Slice lo hi (some st) p2) pos) (tStep X.K te tl th ts) := by
  refine ⟨fun pins s σ H Q I h => ?_⟩
  refine Subscript_ (thn (he.run pins s σ H _ I h) fun v s1 ⟨x, H1, I1, r1, q1⟩ => ?_)
  refine wpAny_Slice (thn (hl.run pins s1 σ H1 _ I1 q1) fun vl s2 ⟨l, H2, I2, pl, q2⟩ => thn (hu.run pins s2 σ H2 _ I2 q2) fun vu s3 ⟨u, H3, I3, pu, q3⟩ => thn (hst.run pins s3 σ H3 _ I3 q3) fun vs s4 ⟨o, H4, I4, ps, q4⟩ => ?_)
  obtain ⟨k', a, xs, rfl, hk, rfl, q⟩ := q4
  cases r1
  have I5 : Inv X pins σ H4 { s4 with heap := s4.heap.push { cls := .type "slice", data := .fields #[vl, vu, vs] } } := I4.kept (t' := s4.toks) fun b ob q => Heap.get?_push_of_some _ q
  show wpAny (model X.prog X.w) X.A (subscriptTail e (.Slice lo hi (some st) p2) (.ref a) (.ref s4.heap.objs.size)) (EP X pins σ Q) X.xe { s4 with heap := s4.heap.push { cls := .type "slice", data := .fields #[vl, vu, vs] } }
  rcases q with ⟨hx, q⟩ | ⟨hx, qa, q⟩
  · obtain ⟨its, r, ht, hz⟩ := I5.list hx
    have hlen := r.length
    refine tail_any (ops := [.ref a, .ref s4.heap.objs.size]) ht.isList.typeIs (PySem.slot_list_getitem.lookup) ?_ (by with_unfolding_all rfl)
    refine wpAny_getItem_list_slice ht.isList (Heap.IsSliceOf.new _ vl vu vs) pl pu ps (fun z => hk (Option.some.inj z)) ?_ (by rw [List.size_toArray]; omega)
    rw [pick_step]
    refine ⟨.ref _, _, I5.laid (t' := s4.toks) (o := .lst (stepL xs l u k')) (fun b ob q => Heap.get?_push_of_some _ q) (Nat.le_refl _) ?_, rfl, q _ (I5.hok.fresh (Nat.le_refl _))⟩
    exact ⟨Nat.le_trans (stepL_len ..) hz, _, 0, vals_step r l u k', Heap.get?_push_size _ rfl⟩
  · obtain ⟨its, r, ht, hz⟩ := I5.tuple hx
    have hlen := r.length
    refine tail_any (ops := [.ref a, .ref s4.heap.objs.size]) ht.typeIs (PyProof.Rows.slot_tuple_getitem.lookup) ?_ (by with_unfolding_all rfl)
    refine getItem_tuple_step ht (Heap.IsSliceOf.new _ vl vu vs) pl pu ps hk (fun z => ?_) ?_ (by omega)
    · rw [← hlen] at z
      exact ⟨.ref a, H4, I5, rfl, qa (stW_all xs z hk)⟩
    · exact laidT I5 (vals_step r l u k') (Nat.le_trans (stepL_len ..) hz) q
theorem DVs.step {K : PySem.W.Frag} {H : Hp} {xs : List PyData} {vs : List V} (h : DVs K H xs vs) (lo hi : Option Int) (st : Int) : DVs K H (stepL xs lo hi st) (stepL vs lo hi st) := by
  unfold stepL
  rw [h.length]
  generalize sliceRange _ _ _ = ks
  induction ks with
  | nil => exact .nil
  | cons k ks ih =>
    rw [List.filterMap_cons, List.filterMap_cons]
    cases q : xs[k]? with
    | none =>
      have : vs[k]? = none := by
        rw [List.getElem?_eq_none_iff] at q ⊢
        rw [← h.length]; exact q
      rw [this]
      exact ih
    | some x =>
      obtain ⟨u, hu, ru⟩ := h.get q
      rw [hu]
      exact .cons ru ih
theorem g_step (fz : Bool) {rl rh rs : DL.O} (ha : GE X W a ra) (hl : GO X W lo rl) (hh : GO X W hi rh) (hs : GO X W (some st) rs) : GE X W (.Subscript a (.Slice lo hi (some st) p2) pos) (eStep fz ra rl rh rs) := by
  refine PE.imp (pe_frz (pe_step ha hl hh hs)) fun σ H Q q => ?_
  obtain ⟨env, S, ρ, se, ss, h⟩ := q
  refine ⟨env, S, ρ, se, ss, (Post.bnd h).imp fun d S1 ρ1 H1 _ x1 s1 h1 v rv => ⟨env, S1, ρ1, se.mono x1.st x1.pre, s1, (Post.bnd h1).imp fun l S2 ρ2 H2 _ x2 s2 h2 => ⟨env, S2, ρ2, (se.mono x1.st x1.pre).mono x2.st x2.pre, s2, (Post.bnd h2).imp fun k S3 ρ3 H3 _ x3 s3 h3 =>
    ⟨env, S3, ρ3, ((se.mono x1.st x1.pre).mono x2.st x2.pre).mono x3.st x3.pre, s3, (Post.bnd h3).imp fun m S4 ρ4 H4 _ x4 s4 h4 => ?_⟩⟩⟩⟩
  replace rv := rv.mono (x2.trans (x3.trans x4)).st (x2.trans (x3.trans x4)).pre
  unfold bnd see at h4
  cases q1 : view S4 d with
  | none => rw [q1] at h4; exact h4.elim
  | some x =>
    simp only [q1] at h4
    have hv := view_dp s4 rv q1
    cases m with
    | none => exact h4.elim
    | some m =>
      cases x with
      | list xs =>
        obtain ⟨t, vs, rfl, e1, r1⟩ := Vw.list hv
        obtain ⟨h0, h4⟩ := postIf (c := m ≠ 0) h4
        exact ⟨m, t, vs, rfl, h0, rfl, .inl ⟨e1, fun p hp => ansP s4 h4 (r1.step l k m) hp⟩⟩
      | tuple xs =>
        obtain ⟨t, vs, rfl, e1, r1⟩ := Vw.tupleN hv
        obtain ⟨h0, h4⟩ := postIf (c := m ≠ 0) h4
        refine ⟨m, t, vs, rfl, h0, rfl, .inr ⟨e1.sq, fun z => ?_, ansTF s4 h4 (r1.step l k m)⟩⟩
        refine .inr (ansD s4 h4 (.p (.tup e1 ?_)))
        have := r1.step l k m
        rw [z] at this
        exact this
      | _ => exact h4.elim
end
end DL

namespace SrtO
open PySem PyProof.Rows Srt
section
variable {prog : Program} {w : World} {A : Around} {E : Value → Shared → Prop} {s : Shared}
/-- sorted(t), t a tuple -/
theorem sorted_ordT {l : Addr} {vs : List Value} {ltv : Value → Value → Bool} {Q : Value → Shared → Prop} (O : Swo ltv) (hl : IsTup s.heap l vs.toArray) (hz : vs.length ≤ sizeLine)
    (hS : 2 ≤ vs.length → ∀ (h₁ : Heap) (a : Addr), h₁.get? a = some (seqObj "list" vs.toArray 0) → SortableO prog w A.in1.in1 { s with heap := h₁ } a vs ltv)
    (h : ∀ (out : List Value) (h' : Heap) (a : Addr) (ep : Nat), Srtd ltv out → Stb ltv out vs → (∀ b o, s.heap.get? b = some o → h'.get? b = some o) → s.heap.get? a = none → h'.get? a = some (seqObj "list" out.toArray ep) → Q (.ref a) { s with heap := h' }) :
    wpAny (model prog w) A (call (.builtin "sorted") [.ref l]) Q E s := by
  obtain ⟨⟨cls, dd, data, sl⟩, ho, hc, n, hd⟩ := id hl
  refine Calls.call_function_entry kind_sorted plain_sorted entry_sorted (args_sorted1 _) ?_
  unfold Builtin.«sorted»
  refine wpAny_bind (m := checkCount "sorted" 1 1 _) (wpAny_pure ?_)
  refine wpAny_bind (wpAny_collect_seq l (.inr rfl) ho hc hd (fun h1 hk => ?_) (by rw [List.size_toArray]; exact hz))
  refine wpAny_bind (wpAny_newList ?_ hz)
  have hoL : (h1.push (seqObj "list" vs.toArray 0)).get? h1.objs.size = some (seqObj "list" vs.toArray 0) := Heap.get?_push_size _ rfl
  have keep : ∀ b o, s.heap.get? b = some o → b ≠ h1.objs.size ∧ (h1.push (seqObj "list" vs.toArray 0)).get? b = some o := fun b o q =>
    ⟨Nat.ne_of_lt (Heap.lt_size (hk b o q)), Heap.get?_push_of_some _ (hk b o q)⟩
  show wpAny _ _ _ _ _ { s with heap := h1.push (seqObj "list" vs.toArray 0) }
  refine wpAny_bind (wpAny_holding (wpAny_call_entry slot_list_sort ⟨_, hoL, rfl⟩ entry_list_sort (list_sort_ord O hoL hz (fun h2 => hS h2 _ _ hoL) fun out hs hb => ⟨_, rfl, ?_⟩) (args_list_sort _)))
  obtain ⟨ep, he⟩ := sortedHeap_at (vs := vs) (out := out.toArray) hoL
  refine wpAny_pure ⟨_, rfl, h out _ _ ep hs hb (fun b o q => ?_) ?_ he⟩
  · rw [sortedHeap_old (keep b o q).1 (Heap.lt_size (keep b o q).2)]
    exact (keep b o q).2
  · cases e : s.heap.get? h1.objs.size with
    | none => rfl
    | some o => exact absurd rfl (keep _ o e).1
end
end SrtO
namespace L2
open PySem PySem.Spec PyProof.Rows
section
variable {X : Cx}
theorem cr_sortedIT : CallR X (.builtin "sorted") (fun vs H Q => ∃ (a : Addr) (ns : List Int), vs = [V.ref a] ∧ SqT X.K H a (ns.map V.int) ∧
    ∀ (ns' : List Int) (p : Addr), ns'.Perm ns → ns'.Pairwise (· ≤ ·) → H p = none → Q (.ref p) (upd H p (.lst (ns'.map V.int)))) := by
  intro pins s σ H vs us Q I r h
  obtain ⟨a, ns, rfl, hs, q⟩ := h
  obtain ⟨its, rv, hl, hz⟩ := I.tuple hs
  rw [Vals.ref1 r]
  have hi := rv.ints
  refine SrtO.sorted_ordT SrtO.swo_int hl (by rw [← rv.length]; exact hz) (fun h2 h₁ a' _ => SrtO.ints_sortable hi h2) fun out h' p ep h1 h2 hk hn hp => ?_
  obtain ⟨k1, k2, k3⟩ := SrtO.ints_out hi h1 h2
  have hlen : ((out.map SrtO.iv).map V.int).length ≤ sizeLine := by
    rw [List.length_map, k2.length_eq]
    rw [List.length_map] at hz
    exact hz
  have hH : H p = none := I.hok.gone hn
  exact ⟨.ref _, upd H p (.lst ((out.map SrtO.iv).map V.int)), I.laidN (t' := s.toks) hk hn hH ⟨hlen, out, ep, vals_of_ints k1, hp⟩, rfl, q _ _ k2 k3 hH⟩
end
end L2

/-! ## more of lists -/
namespace DL
open PySem PySem.Spec L2 PyProof.Rows
variable [Nfo]
theorem seqIx_eq (n : Nat) (i : Int) : seqIndex? i n = ixI n i := by
  unfold seqIndex? ixI
  dsimp only
  by_cases h0 : i < 0
  · have h1 : ¬ 0 ≤ i := by omega
    by_cases h2 : -(n : Int) ≤ i
    · have h3 : 0 ≤ i + (n : Int) := by omega
      have h4 : i + (n : Int) < n := by omega
      simp [h0, h1, h2, h3, h4]
    · have h3 : ¬ 0 ≤ i + (n : Int) := by omega
      simp [h0, h1, h2, h3]
  · have h1 : 0 ≤ i := by omega
    by_cases h2 : i < (n : Int)
    · simp [h0, h1, h2]
    · simp [h0, h1, h2]
theorem DRs.erase {K : PySem.W.Frag} {H : Hp} {ρ : List Addr} : ∀ {ds : List D} {vs : List V} (n : Nat), DRs K H ρ ds vs → DRs K H ρ (ds.eraseIdx n) (vs.eraseIdx n)
  | _, _, _, .nil => by simp; exact .nil
  | _, _, 0, .cons r t => by rw [List.eraseIdx_cons_zero, List.eraseIdx_cons_zero]; exact t
  | _, _, n + 1, .cons r t => by simp only [List.eraseIdx_cons_succ]; exact .cons r (DRs.erase n t)
section
variable {X : Cx} {W : WX} {a b c : Expr} {ra rb rc : E} {p pos : Pos} {x : Str} {tg : Expr}
theorem g_popAt {apos : Pos} (ha : GE X W a ra) (hb : GE X W b rb) (hbase : attributeBase a "pop" X.env (eval a X.env) = eval a X.env := by rfl)
    (hfew : ((backTo pos (starEach (b :: []) X.env)).all (fun x => !x.1) && (backToKw pos (keywordEach [] X.env)).all (fun x => x.1.isSome) && decide ((b :: []).length + ([] : List Keyword).length + (if ([] : List Keyword).isEmpty then 0 else 1) < 30)) = true := by rfl)
    (hline : (apos.endLine == pos.line) = true := by rfl) (hs : starEach (b :: []) X.env = (false, eval b X.env) :: starEach [] X.env := by rfl) (hpl : (backTo pos (starEach [] X.env)).any (·.1) = false := by rfl) :
    GE X W (.Call (.Attribute a "pop" apos) [b] [] pos) (eM1 fPopAt ra rb) := by
  refine g_m1 PySem.F.plainAttrs_list PySem.F.slot_list_pop PySem.F.type_list_pop mt_popAt ha hb (fun d e S ρ H2 v u Q Wx ss rv ru h => ?_) hbase hfew hline hs hpl
  cases d with
  | ref n =>
    cases e with
    | p y =>
      cases y with
      | int i =>
        cases rv with
        | ref e1 =>
          cases ru with
          | p ru =>
            cases ru
            replace h : Post X.K X.mg Wx S ρ H2 (match S[n]? with
              | some (.lst ds) => (match ixI ds.length i with
                | some k => if -4611686018427387904 ≤ i ∧ i < 4611686018427387904 then (match ds[k]? with
                  | some d => R.ok d (S.set n (.lst (ds.eraseIdx k)))
                  | none => .no) else .no
                | none => .no)
              | _ => .no) _ := h
            cases q : S[n]? with
            | none => rw [q] at h; exact h.elim
            | some o =>
              rw [q] at h
              cases o with
              | lst ds =>
                replace h : Post X.K X.mg Wx S ρ H2 (match ixI ds.length i with
                  | some k => if -4611686018427387904 ≤ i ∧ i < 4611686018427387904 then (match ds[k]? with
                    | some d => R.ok d (S.set n (.lst (ds.eraseIdx k)))
                    | none => .no) else .no
                  | none => .no) _ := h
                cases q1 : ixI ds.length i with
                | none => rw [q1] at h; exact h.elim
                | some k =>
                  rw [q1] at h
                  obtain ⟨⟨h0, h1⟩, h⟩ := postIfR h
                  cases q2 : ds[k]? with
                  | none => rw [q2] at h; exact h.elim
                  | some d =>
                    rw [q2] at h
                    obtain ⟨vs, e3, r1⟩ := ss.ob n _ _ q e1
                    obtain ⟨v, e4, rv4⟩ := r1.get q2
                    obtain ⟨s2, x2⟩ := putL ss e1 q e3 (r1.erase k)
                    exact ⟨_, vs, i, k, v, rfl, rfl, e3, by omega, by omega, by rw [seqIx_eq, ← r1.length]; exact q1, e4, h _ ρ x2 s2 _ (rv4.mono x2.st x2.pre)⟩
              | _ => exact h.elim
      | _ => exact h.elim
    | _ => exact h.elim
  | _ => exact h.elim
/-! sorted, max, min -/
theorem one_seeF {f : PyData → M D} {r : V → Hp → VK → Prop} {σ : L2.St} {H : Hp} {Q Q' : VK} (h : rE X.K X.mg W (e1 f ra) σ H Q)
    (hr : ∀ (x : PyData) (S : Sto) (ρ : List Addr) (H2 : Hp) (v : V), SimS X.K H2 ρ S → Vw X.K H2 x v →
      Post X.K X.mg (fun c d H' => W c d σ H') S ρ H2 (f x S) (fun d _ ρ' H' => ∀ v, DR X.K H' ρ' d v → Q v H') → r v H2 Q') :
    tUn r (rE X.K X.mg W ra) σ H Q' := by
  refine oneF (f := fun x => bnd (see x) fun u => f u) h fun d S ρ H2 v ss rv h2 => ?_
  unfold bnd see at h2
  cases q1 : view S d with
  | none => rw [q1] at h2; exact h2.elim
  | some x =>
    simp only [q1] at h2
    exact hr x S ρ H2 v ss (view_dp ss rv q1) h2
theorem g_call1F {id : String} {r : List V → Hp → VK → Prop} {f : PyData → M D} (hc : CallR X (.builtin id) r) (hg : Gl X x) (hm : X.mg x = none) (hv : bootBuiltins x = some (.builtin id)) (ha : GE X W a ra)
    (h : ∀ (d : PyData) (S : Sto) (ρ : List Addr) (H2 : Hp) (v : V) (Q : VK) (Wx : XW), SimS X.K H2 ρ S → Vw X.K H2 d v → Post X.K X.mg Wx S ρ H2 (f d S) (fun d _ ρ' H' => ∀ v, DR X.K H' ρ' d v → Q v H') → r [v] H2 (frzQ Q))
    (hn : x ≠ "__name__" := by decide) (hdb : (x == ("__debug__" : Str)) = false := by decide) (he : starEach (a :: []) X.env = (false, eval a X.env) :: starEach [] X.env := by rfl) (hpl : (backTo pos (starEach [] X.env)).any (·.1) = false := by rfl) :
    GE X W (.Call (.Name x p) [a] [] pos) (e1 f ra) :=
  PE.imp (pe_frz (pe_callB hc hg hm hv (pa_cons ha pa_nil he) hn hdb he hpl)) fun σ H Q q => one_seeF (r := fun v => r [v]) q fun d S ρ H2 v ss hv p => h d S ρ H2 v Q _ ss hv p
theorem sort_is {ns ns' : List Int} (h : ns'.Perm ns) (s : ns'.Pairwise (· ≤ ·)) : ns' = sortI ns := by
  have h1 := List.pairwise_mergeSort (le := fun a b : Int => decide (a ≤ b)) (fun a b c h1 h2 => by
    have := of_decide_eq_true h1
    have := of_decide_eq_true h2
    exact decide_eq_true (by omega)) (fun a b => by
    by_cases h : a ≤ b
    · rw [decide_eq_true h]; rfl
    · rw [decide_eq_true (by omega : b ≤ a)]; simp) ns
  refine List.Perm.eq_of_pairwise (le := (· ≤ ·)) (fun a b _ _ h1 h2 => by omega) s (h1.imp fun h => of_decide_eq_true h) (h.trans (List.mergeSort_perm ..).symm)
theorem cr_sortedA : CallR X (.builtin "sorted") (fun vs H Q => ∃ (a : Addr) (ns : List Int), vs = [V.ref a] ∧ (SqL X.K H a (ns.map V.int) ∨ SqT X.K H a (ns.map V.int)) ∧ ∀ p : Addr, H p = none → Q (.ref p) (upd H p (.lst ((sortI ns).map V.int)))) := by
  intro pins s σ H vs us Q I r h
  obtain ⟨a, ns, rfl, h1 | h1, q⟩ := h
  · exact cr_sortedI pins s σ H _ us Q I r ⟨a, ns, rfl, h1, fun ns' p hp hs hn => by rw [sort_is hp hs]; exact q p hn⟩
  · exact cr_sortedIT pins s σ H _ us Q I r ⟨a, ns, rfl, h1, fun ns' p hp hs hn => by rw [sort_is hp hs]; exact q p hn⟩
theorem dvs_ints {K : PySem.W.Frag} {H : Hp} (ns : List Int) : DVs K H (ns.map .int) (ns.map V.int) := by
  induction ns with
  | nil => exact .nil
  | cons n ns ih => exact .cons (.int n) ih
theorem g_sorted (fz : Bool) (hg : Gl X "sorted" := by rfl) (hm : X.mg "sorted" = none) (ha : GE X W a ra) (he : starEach (a :: []) X.env = (false, eval a X.env) :: starEach [] X.env := by rfl) (hpl : (backTo pos (starEach [] X.env)).any (·.1) = false := by rfl) :
    GE X W (.Call (.Name "sorted" p) [a] [] pos) (e1 (fSorted fz) ra) := by
  refine g_call1F cr_sortedA hg hm (by decide +kernel) ha (fun d S ρ H2 v Q Wx ss hv q => ?_) (by decide) (by decide) he hpl
  cases d with
  | list xs =>
    obtain ⟨t, vs, rfl, h1, r1⟩ := hv.list
    unfold fSorted at q
    cases q1 : intsOf xs with
    | none => simp only [q1] at q; exact q.elim
    | some ns =>
      simp only [q1] at q
      rw [ints_map q1 r1] at h1
      exact ⟨t, ns, rfl, .inl h1, fun l hl => ansP ss q (dvs_ints _) hl⟩
  | tuple xs =>
    obtain ⟨t, vs, rfl, h1, r1⟩ := hv.tuple
    unfold fSorted at q
    cases q1 : intsOf xs with
    | none => simp only [q1] at q; exact q.elim
    | some ns =>
      simp only [q1] at q
      rw [ints_map q1 r1] at h1
      exact ⟨t, ns, rfl, .inr h1, fun l hl => ansP ss q (dvs_ints _) hl⟩
  | _ => exact q.elim
theorem fold_max : ∀ (ns : List Int) (n m : Int), m ∈ n :: ns → (∀ y ∈ n :: ns, y ≤ m) → m = ns.foldl max n
  | [], n, m, h, _ => by simpa using h
  | k :: ns, n, m, h, g => by
    rw [List.foldl_cons]
    refine fold_max ns (max n k) m ?_ fun y hy => ?_
    · have g1 := g n List.mem_cons_self
      have g2 := g k (List.mem_cons_of_mem _ List.mem_cons_self)
      rcases List.mem_cons.mp h with rfl | h
      · rw [show max m k = m by omega]; exact List.mem_cons_self
      · rcases List.mem_cons.mp h with rfl | h
        · rw [show max n m = m by omega]; exact List.mem_cons_self
        · exact List.mem_cons_of_mem _ h
    · have g1 := g n List.mem_cons_self
      have g2 := g k (List.mem_cons_of_mem _ List.mem_cons_self)
      rcases List.mem_cons.mp hy with rfl | h
      · omega
      · exact g y (List.mem_cons_of_mem _ (List.mem_cons_of_mem _ h))
theorem fold_min : ∀ (ns : List Int) (n m : Int), m ∈ n :: ns → (∀ y ∈ n :: ns, m ≤ y) → m = ns.foldl min n
  | [], n, m, h, _ => by simpa using h
  | k :: ns, n, m, h, g => by
    rw [List.foldl_cons]
    refine fold_min ns (min n k) m ?_ fun y hy => ?_
    · have g1 := g n List.mem_cons_self
      have g2 := g k (List.mem_cons_of_mem _ List.mem_cons_self)
      rcases List.mem_cons.mp h with rfl | h
      · rw [show min m k = m by omega]; exact List.mem_cons_self
      · rcases List.mem_cons.mp h with rfl | h
        · rw [show min n m = m by omega]; exact List.mem_cons_self
        · exact List.mem_cons_of_mem _ h
    · have g1 := g n List.mem_cons_self
      have g2 := g k (List.mem_cons_of_mem _ List.mem_cons_self)
      rcases List.mem_cons.mp hy with rfl | h
      · omega
      · exact g y (List.mem_cons_of_mem _ (List.mem_cons_of_mem _ h))
theorem g_maxL (hc : X.calm = true) (hg : Gl X "max" := by rfl) (hm : X.mg "max" = none) (ha : GE X W a ra) (he : starEach (a :: []) X.env = (false, eval a X.env) :: starEach [] X.env := by rfl) (hpl : (backTo pos (starEach [] X.env)).any (·.1) = false := by rfl) :
    GE X W (.Call (.Name "max" p) [a] [] pos) (e1 fMaxL ra) := by
  refine g_call1 (cr_max hc) hg hm (by decide +kernel) ha (fun d S ρ H2 v Q Wx ss hv q => ?_) (by decide) (by decide) he hpl
  cases d with
  | list xs =>
    obtain ⟨t, vs, rfl, h1, r1⟩ := hv.list
    unfold fMaxL at q
    cases q1 : intsOf xs with
    | none => simp only [q1] at q; exact q.elim
    | some ns =>
      cases ns with
      | nil => simp only [q1] at q; exact q.elim
      | cons n ns =>
        simp only [q1] at q
        rw [ints_map q1 r1] at h1
        exact ⟨t, n :: ns, rfl, h1, by simp, fun m hm hle => by rw [fold_max ns n m hm hle]; exact ans ss q (.int _)⟩
  | _ => exact q.elim
theorem g_minL (hc : X.calm = true) (hg : Gl X "min" := by rfl) (hm : X.mg "min" = none) (ha : GE X W a ra) (he : starEach (a :: []) X.env = (false, eval a X.env) :: starEach [] X.env := by rfl) (hpl : (backTo pos (starEach [] X.env)).any (·.1) = false := by rfl) :
    GE X W (.Call (.Name "min" p) [a] [] pos) (e1 fMinL ra) := by
  refine g_call1 (cr_min hc) hg hm (by decide +kernel) ha (fun d S ρ H2 v Q Wx ss hv q => ?_) (by decide) (by decide) he hpl
  cases d with
  | list xs =>
    obtain ⟨t, vs, rfl, h1, r1⟩ := hv.list
    unfold fMinL at q
    cases q1 : intsOf xs with
    | none => simp only [q1] at q; exact q.elim
    | some ns =>
      cases ns with
      | nil => simp only [q1] at q; exact q.elim
      | cons n ns =>
        simp only [q1] at q
        rw [ints_map q1 r1] at h1
        exact ⟨t, n :: ns, rfl, h1, by simp, fun m hm hle => by rw [fold_min ns n m hm hle]; exact ans ss q (.int _)⟩
  | _ => exact q.elim
/-! list(range(..)), tuple(range(..)) -/
theorem rg_ok {m n : Int} (h : rngOk m n = true) : RgOk m n ∧ -1000000 ≤ m ∧ m ≤ 1000000 ∧ -1000000 ≤ n ∧ n ≤ 1000000 := by
  unfold rngOk at h
  simp only [Bool.and_eq_true, decide_eq_true_eq] at h
  exact ⟨⟨by omega, by omega, by omega, by omega, by omega⟩, by omega, by omega, by omega, by omega⟩
theorem rgV_is (m n : Int) : rgV m n = (rngL m n).map V.int := by
  unfold rgV rngL
  rw [List.map_map]
  rfl
def PRgE (X : Cx) (W : WX) (e : Expr) (ra rb : E) : Prop := PRg X e (fun σ H Q => ∃ env S ρ, SimE X.K H ρ env σ ∧ SimS X.K H ρ S ∧
  Post X.K X.mg (fun c d H' => W c d σ H') S ρ H (rgP ra rb env S) fun mn _ _ H' => Q mn.1 mn.2 H')
theorem PRg.imp {X : Cx} {e : Expr} {t t' : L2.St → Hp → (Int → Int → Hp → Prop) → Prop} (h : PRg X e t) (f : ∀ σ H Q, t' σ H Q → t σ H Q) : PRg X e t' := fun pins s σ H Q I q => h pins s σ H Q I (f σ H Q q)
theorem g_rg1 (hg : Gl X "range" := by rfl) (hm : X.mg "range" = none) (ha : GE X W a ra) (na : starEach [a] X.env = (false, eval a X.env) :: starEach [] X.env := by rfl) : PRgE X W (.Call (.Name "range" p) [a] [] pos) (eC (.int 0)) ra := by
  refine PRg.imp (prg_1 hg hm ha na) fun σ H Q q => ?_
  obtain ⟨env, S, ρ, se, ss, q⟩ := q
  have q1 := (Post.bnd q) H ρ Ext.refl ss
  refine ⟨env, S, ρ, se, ss, (Post.bnd q1).imp fun d S1 ρ1 H1 _ x1 s1 h1 v rv => ?_⟩
  cases d with
  | p x =>
    cases x with
    | int n => cases rv with
      | p rv => cases rv; exact ⟨n, rfl, h1 H1 ρ1 Ext.refl s1⟩
    | _ => exact h1.elim
  | _ => exact h1.elim
theorem g_rg2 (hg : Gl X "range" := by rfl) (hm : X.mg "range" = none) (ha : GE X W a ra) (hb : GE X W b rb) (na : starEach [a, b] X.env = (false, eval a X.env) :: starEach [b] X.env := by rfl)
    (nb : starEach [b] X.env = (false, eval b X.env) :: starEach [] X.env := by rfl) (hp : (backTo pos (starEach [b] X.env)).any (·.1) = false := by rfl) : PRgE X W (.Call (.Name "range" p) [a, b] [] pos) ra rb := by
  refine PRg.imp (prg_2 hg hm ha hb na nb hp) fun σ H Q q => ?_
  obtain ⟨env, S, ρ, se, ss, q⟩ := q
  refine ⟨env, S, ρ, se, ss, (Post.bnd q).imp fun d S1 ρ1 H1 _ x1 s1 h1 v rv => ⟨env, S1, ρ1, se.mono x1.st x1.pre, s1, (Post.bnd h1).imp fun e S2 ρ2 H2 _ x2 s2 h2 u ru => ?_⟩⟩
  cases d with
  | p x =>
    cases x with
    | int m =>
      cases e with
      | p y =>
        cases y with
        | int n =>
          cases rv with
          | p rv => cases rv; cases ru with
            | p ru => cases ru; exact ⟨m, n, rfl, rfl, h2 H2 ρ2 Ext.refl s2⟩
        | _ => exact h2.elim
      | _ => exact h2.elim
    | _ => cases e <;> first | exact h2.elim | (rename_i y; cases y <;> exact h2.elim)
  | _ => cases e <;> first | exact h2.elim | (rename_i y; cases y <;> exact h2.elim)
theorem g_listRg (fz : Bool) (hc : X.calm = true) (hg : Gl X "list" := by rfl) (hm : X.mg "list" = none) (he : PRgE X W a ra rb) (na : starEach [a] X.env = (false, eval a X.env) :: starEach [] X.env := by rfl) : GE X W (.Call (.Name "list" p) [a] [] pos) (eListRg fz ra rb) := by
  refine PE.imp (pe_frz (pe_listRg hc hg hm he na)) fun σ H Q q => ?_
  obtain ⟨env, S, ρ, se, ss, q⟩ := q
  unfold eListRg at q
  refine ⟨env, S, ρ, se, ss, (Post.bnd q).imp fun mn S1 ρ1 H1 _ x1 s1 h1 => ?_⟩
  obtain ⟨hk, h1⟩ := postIf (c := rngOk mn.1 mn.2 = true) h1
  refine ⟨(rg_ok hk).1, fun l hl => ?_⟩
  rw [rgV_is]
  exact ansP s1 h1 (dvs_ints _) hl
theorem g_tupRg (hc : X.calm = true) (hg : Gl X "tuple" := by rfl) (hm : X.mg "tuple" = none) (he : PRgE X W a ra rb) (na : starEach [a] X.env = (false, eval a X.env) :: starEach [] X.env := by rfl) : GE X W (.Call (.Name "tuple" p) [a] [] pos) (eTupRg ra rb) := by
  refine PE.imp (pe_tupRgN hc hg hm he na) fun σ H Q q => ?_
  obtain ⟨env, S, ρ, se, ss, q⟩ := q
  unfold eTupRg at q
  refine ⟨env, S, ρ, se, ss, (Post.bnd q).imp fun mn S1 ρ1 H1 _ x1 s1 h1 => ?_⟩
  obtain ⟨hk, h1⟩ := postIf (c := rngOk mn.1 mn.2 = true) h1
  refine ⟨(rg_ok hk).1, ?_⟩
  rw [rgV_is]
  exact ansT s1 h1 (dvs_ints _)
end
end DL

/-! ## dict(pairs), d.get, is True, ranges with a step, l.index, l.count -/
namespace DL
open PySem PySem.Spec L2 PyProof.Rows
variable [Nfo]
theorem pairs_dv {K : PySem.W.Frag} {H : Hp} (ρ : List Addr) : ∀ {xs : List PyData} {vs : List V} {kvs : List (PyData × D)}, pairsOf xs = some kvs → DVs K H xs vs →
    ∃ (ps : List Addr) (qs : List (V × V)), vs = ps.map V.ref ∧ Paired (fun p (q : V × V) => SqT K H p [q.1, q.2]) ps qs ∧ Paired (fun (p : PyData × D) (q : V × V) => DV K H p.1 q.1 ∧ DR K H ρ p.2 q.2) kvs qs := by
  intro xs
  induction xs with
  | nil => intro vs kvs e r; cases e; cases r; exact ⟨[], [], rfl, .nil, .nil⟩
  | cons x xs ih =>
    intro vs kvs e r
    cases r with
    | cons h t =>
      cases x with
      | tuple ys =>
        cases ys with
        | nil => cases e
        | cons k ys =>
          cases ys with
          | nil => cases e
          | cons v ys =>
            cases ys with
            | cons _ _ => cases e
            | nil =>
              replace e : (pairsOf xs).map ((k, D.p v) :: ·) = some kvs := e
              cases q : pairsOf xs with
              | none => rw [q] at e; cases e
              | some kvs' =>
                rw [q] at e
                cases e
                obtain ⟨ps, qs, e1, e2, e3⟩ := ih q t
                cases h with
                | tup h1 h2 =>
                  cases h2 with
                  | cons hk h2 =>
                    cases h2 with
                    | cons hv h2 =>
                      cases h2
                      exact ⟨_ :: ps, (_, _) :: qs, by rw [e1]; rfl, .cons h1.sq e2, .cons ⟨hk, .p hv⟩ e3⟩
      | _ => cases e
section
variable {X : Cx} {W : WX} {a b c : Expr} {ra rb rc : E} {p pos : Pos} {x : Str} {tg : Expr}
theorem g_dictP (hc : X.calm = true) (hg : Gl X "dict" := by rfl) (hm : X.mg "dict" = none) (ha : GE X W a ra) (he : starEach (a :: []) X.env = (false, eval a X.env) :: starEach [] X.env := by rfl) (hpl : (backTo pos (starEach [] X.env)).any (·.1) = false := by rfl) :
    GE X W (.Call (.Name "dict" p) [a] [] pos) (e1 fDictP ra) := by
  refine g_callT1 (call_dictP hc) hg hm (by decide +kernel) ha (fun d S ρ H2 v Q Wx ss hv q => ?_) (by decide) (by decide) he hpl
  cases d with
  | list xs =>
    obtain ⟨t, vs, rfl, h1, r1⟩ := hv.list
    unfold fDictP at q
    cases q1 : pairsOf xs with
    | none => simp only [q1] at q; exact q.elim
    | some kvs =>
      simp only [q1] at q
      cases q2 : mergeD [] kvs with
      | none => rw [q2] at q; exact q.elim
      | some m =>
        rw [q2] at q
        obtain ⟨ps, qs, rfl, e2, e3⟩ := pairs_dv ρ q1 r1
        obtain ⟨ks, e4, r2⟩ := merge_ok e3 q2 .nil
        refine ⟨t, ps, ks, rfl, h1, ?_, fun l hl => ?_⟩
        · rw [e4] at e2
          clear e4 r2 e3 h1 r1
          induction ks generalizing ps with
          | nil => cases e2; exact .nil
          | cons k ks ih =>
            cases e2 with
            | cons h t => exact .cons h (ih _ t)
        · have stn := stb_new (o := .dK (mergeK [] ks)) hl
          obtain ⟨s2, x2⟩ := ss.push (o := .dK (mergeK [] ks)) (u := .dct m) hl ⟨_, upd_same, pimp (fun a b h => ⟨h.1, h.2.mono stn (List.prefix_append _ _)⟩) r2⟩
          exact q _ _ x2 s2 (.ref l) (.ref (by rw [List.getElem?_append_right (by rw [ss.len]; exact Nat.le_refl _), ss.len, Nat.sub_self]; rfl))
  | _ => exact q.elim
theorem isD_ok {S : Sto} {ρ : List Addr} {H : Hp} {d : D} {v : V} (ss : SimS X.K H ρ S) (rv : DR X.K H ρ d v) (h : isDct S d = true) : ∃ (n : Nat) (a : Addr), d = .ref n ∧ v = .ref a ∧ ρ[n]? = some a ∧ IsD H a := by
  cases d with
  | exn _ => first | exact q.elim | exact h.elim | exact h1.elim | exact h2.elim | exact h3.elim | exact h4.elim | exact h5.elim | exact p.elim | cases h | cases q | cases e
  | ref n =>
    cases rv with
    | ref e =>
      unfold isDct at h
      cases q : S[n]? with
      | none => simp only [q] at h; cases h
      | some o =>
        cases o with
        | dct kvs =>
          obtain ⟨ws, h1, r1⟩ := ss.ob n _ _ q e
          exact ⟨n, _, rfl, rfl, e, .inl ⟨ws, .of h1⟩⟩
        | _ => simp only [q] at h; cases h
  | p _ => cases h
  | tup _ => cases h
theorem get_ok {S : Sto} {ρ : List Addr} {H : Hp} {n : Nat} {a : Addr} {y z : D} {u w : V} {Q : VK} {Wx : XW} (ss : SimS X.K H ρ S) (e1 : ρ[n]? = some a) (ru : DR X.K H ρ y u) (rz : DR X.K H ρ z w)
    (h : Post X.K X.mg Wx S ρ H (fGet (.ref n) y z S) (fun d _ ρ' H' => ∀ v, DR X.K H' ρ' d v → Q v H')) : ∃ o, DGet H a u o ∧ Q (o.getD w) H := by
  cases y with
  | p k =>
    cases ru with
    | p ru =>
      replace h : Post X.K X.mg Wx S ρ H (match S[n]? with | some (.dct kvs) => (match keyOf k with | some q => R.ok ((dGet kvs q).getD z) S | none => .no) | _ => .no) _ := h
      cases q1 : S[n]? with
      | none => rw [q1] at h; exact h.elim
      | some o =>
        rw [q1] at h
        cases o with
        | dct kvs =>
          replace h : Post X.K X.mg Wx S ρ H (match keyOf k with | some q => R.ok ((dGet kvs q).getD z) S | none => .no) _ := h
          cases q2 : keyOf k with
          | none => rw [q2] at h; exact h.elim
          | some q =>
            rw [q2] at h
            replace h : Post X.K X.mg Wx S ρ H (R.ok ((dGet kvs q).getD z) S) _ := h
            obtain ⟨ws, hw, pr⟩ := ss.ob n _ _ q1 e1
            have f := paired_find (k := q) pr
            have eu := keyV q2 ru
            subst eu
            refine ⟨valV ws q, DGet.k hw, ?_⟩
            cases q3 : dGet kvs q with
            | none =>
              rw [q3] at f h
              rw [show valV ws q = none from f]
              exact h H ρ Ext.refl ss w rz
            | some d =>
              rw [q3] at f h
              obtain ⟨v, e6, rv6⟩ := f
              rw [e6]
              exact h H ρ Ext.refl ss v rv6
        | _ => exact h.elim
  | _ => exact h.elim
theorem g_get2 {apos : Pos} (hu : X.A.units + 1 < cLine) (ha : GE X W a ra) (hb : GE X W b rb) (hcc : GE X W c rc) (m : M2 X a "get" apos b c pos := by exact ⟨rfl, rfl, rfl, rfl⟩) :
    GE X W (.Call (.Attribute a "get" apos) [b, c] [] pos) (eGet ra rb rc) := by
  refine PE.imp (pe_dget2 hu ha hb hcc m) fun σ H Q q => ?_
  obtain ⟨env, S, ρ, se, ss, q⟩ := q
  refine ⟨env, S, ρ, se, ss, (Post.bnd q).imp fun d S1 ρ1 H1 _ x1 s1 h1 v rv => ?_⟩
  obtain ⟨hc, h1⟩ := postIfR h1
  obtain ⟨n, a', rfl, rfl, e1, hd⟩ := isD_ok s1 rv hc
  refine ⟨a', rfl, hd, env, S1, ρ1, se.mono x1.st x1.pre, s1, (Post.bnd h1).imp fun y S2 ρ2 H2 _ x2 s2 h2 u ru => ⟨env, S2, ρ2, (se.mono x1.st x1.pre).mono x2.st x2.pre, s2, (Post.bnd h2).imp fun z S3 ρ3 H3 _ x3 s3 h3 w rw' => ?_⟩⟩
  have e3 : ρ3[n]? = some a' := by
    have := (x2.trans x3).pre
    exact pre_get this e1
  exact get_ok s3 e3 (ru.mono x3.st x3.pre) rw' h3
/-! is True, is False -/
theorem op_isBl : OpR X (compareOp .Is) (fun x y H Q => ∃ k c, x = .bl k ∧ y = .bl c ∧ Q (.bl (k == c)) H) := by
  intro pins s σ H x y v u Q I rx ry h
  obtain ⟨k, c, rfl, rfl, q⟩ := h
  cases rx
  cases ry
  show wpAny _ _ ((isSame (.bool k) (.bool c)) >>= fun z => pure (Value.bool z)) _ _ s
  refine wpAny_bind (wpAny_isSame_plain rfl (wpAny_pure ?_))
  exact ⟨.bl (k == c), H, I, by show Value.bool _ = Value.bool _; cases k <;> cases c <;> rfl, q⟩
theorem isB_ok {S : Sto} {ρ : List Addr} {H : Hp} {d : D} {v : V} {Q : VK} {Wx : XW} (k : Bool) (ss : SimS X.K H ρ S) (rv : DR X.K H ρ d v) (h : Post X.K X.mg Wx S ρ H (fIsB false k d S) (fun d _ ρ' H' => ∀ v, DR X.K H' ρ' d v → Q v H')) : ∃ k', v = .bl k' ∧ Q (.bl (k' == k)) H := by
  cases d with
  | p y =>
    cases y with
    | bool c =>
      cases rv with
      | p rv =>
        cases rv
        refine ⟨c, rfl, ?_⟩
        have := h H ρ Ext.refl ss (.bl (false ^^ (c == k))) (.p (.bl _))
        rwa [Bool.false_xor] at this
    | _ => exact h.elim
  | _ => exact h.elim
theorem g_isB (k : Bool) {j : Nat} {q : Pos} (ha : GE X W a ra) (hm : behindInMarks .Is (.Constant (.bool k) j q) = false := by rfl) : GE X W (.Compare a [.Is] [.Constant (.bool k) j q] pos) (e1D (fIsB false k) ra) := by
  refine PE.imp (pe_cmpR op_isBl ha pe_bl hm) fun σ H Q h => ?_
  obtain ⟨env, S, ρ, se, ss, h⟩ := h
  refine ⟨env, S, ρ, se, ss, (Post.bnd h).imp fun d S1 ρ1 H1 _ x1 s1 h1 v rv => ?_⟩
  obtain ⟨k', rfl, q⟩ := isB_ok k s1 rv h1
  exact ⟨k', k, rfl, rfl, q⟩
end
end DL

/-! ## l.index(x), l.count(x), ranges with a step -/
namespace DL
open PySem PySem.Spec L2 PyProof.Rows
variable [Nfo]
section
variable {X : Cx} {W : WX} {a b c : Expr} {ra rb rc : E} {p pos : Pos} {x : Str} {tg : Expr}
theorem isLq_ty {S : Sto} {ρ : List Addr} {H : Hp} {d : D} {v : V} (ss : SimS X.K H ρ S) (rv : DR X.K H ρ d v) (h : isLq S d = true) : tyV X.K "list" v H := by
  cases d with
  | exn _ => first | exact q.elim | exact h.elim | exact h1.elim | exact h2.elim | exact h3.elim | exact h4.elim | exact h5.elim | exact p.elim | cases h | cases q | cases e
  | p y =>
    cases y with
    | list xs =>
      cases rv with
      | p rv =>
        cases rv with
        | lst h t => exact .inl ⟨rfl, _, h.sq⟩
    | _ => cases h
  | ref n =>
    obtain ⟨n, a, ds, vs, e, rfl, e1, e2, e3, r1⟩ := isL_ty ss rv h
    exact ty_list e3
  | tup _ => cases h
theorem g_mq {m : Str} {id : String} {r : V → List V → Hp → VK → Prop} {f : PyData → PyData → M D} {apos : Pos} (pa : PlainAttrs "list") (slot : Slot "list" m id) (hty : typeOf (.builtin id) = pure (.type "method_descriptor")) (hm : MtR X id r) (ha : GE X W a ra) (hb : GE X W b rb)
    (h : ∀ (d e : PyData) (S : Sto) (ρ : List Addr) (H2 : Hp) (v u : V) (Q : VK) (Wx : XW), SimS X.K H2 ρ S → Vw X.K H2 d v → Vw X.K H2 e u → Post X.K X.mg Wx S ρ H2 (f d e S) (fun d _ ρ' H' => ∀ v, DR X.K H' ρ' d v → Q v H') → r v [u] H2 Q)
    (hbase : attributeBase a m X.env (eval a X.env) = eval a X.env := by rfl)
    (hfew : ((backTo pos (starEach (b :: []) X.env)).all (fun x => !x.1) && (backToKw pos (keywordEach [] X.env)).all (fun x => x.1.isSome) && decide ((b :: []).length + ([] : List Keyword).length + (if ([] : List Keyword).isEmpty then 0 else 1) < 30)) = true := by rfl)
    (hline : (apos.endLine == pos.line) = true := by rfl) (hs : starEach (b :: []) X.env = (false, eval b X.env) :: starEach [] X.env := by rfl) (hpl : (backTo pos (starEach [] X.env)).any (·.1) = false := by rfl) :
    GE X W (.Call (.Attribute a m apos) [b] [] pos) (eMq f ra rb) := by
  refine PE.imp (pe_bm pa slot hty hm ha (pa_cons hb pa_nil hs) hbase hfew hline hs hpl) fun σ H Q q => ?_
  obtain ⟨env, S, ρ, se, ss, q⟩ := q
  refine ⟨env, S, ρ, se, ss, (Post.bnd q).imp fun d S1 ρ1 H1 _ x1 s1 h1 v rv => ?_⟩
  obtain ⟨hc, h1⟩ := postIfR h1
  refine ⟨isLq_ty s1 rv hc, env, S1, ρ1, se.mono x1.st x1.pre, s1, (Post.bnd h1).imp fun e S2 ρ2 H2 _ x2 s2 h2 u ru => ?_⟩
  replace rv := rv.mono x2.st x2.pre
  unfold bnd see at h2
  cases q1 : view S2 d with
  | none => rw [q1] at h2; exact h2.elim
  | some y =>
    simp only [q1] at h2
    cases q2 : view S2 e with
    | none => rw [q2] at h2; exact h2.elim
    | some z =>
      simp only [q2] at h2
      exact h y z S2 ρ2 H2 v u Q _ s2 (view_dp s2 rv q1) (view_dp s2 ru q2) h2
theorem g_index {apos : Pos} (hu : X.A.units + 65 < cLine) (ha : GE X W a ra) (hb : GE X W b rb) (hbase : attributeBase a "index" X.env (eval a X.env) = eval a X.env := by rfl)
    (hfew : ((backTo pos (starEach (b :: []) X.env)).all (fun x => !x.1) && (backToKw pos (keywordEach [] X.env)).all (fun x => x.1.isSome) && decide ((b :: []).length + ([] : List Keyword).length + (if ([] : List Keyword).isEmpty then 0 else 1) < 30)) = true := by rfl)
    (hline : (apos.endLine == pos.line) = true := by rfl) (hs : starEach (b :: []) X.env = (false, eval b X.env) :: starEach [] X.env := by rfl) (hpl : (backTo pos (starEach [] X.env)).any (·.1) = false := by rfl) :
    GE X W (.Call (.Attribute a "index" apos) [b] [] pos) (eMq fIndex ra rb) := by
  refine g_mq PySem.F.plainAttrs_list PySem.F.slot_list_index PySem.F.type_list_index (mt_indexD hu) ha hb (fun d e S ρ H2 v u Q Wx ss hv hu' q => ?_) hbase hfew hline hs hpl
  cases d with
  | list xs =>
    obtain ⟨t, vs, rfl, h1, r1⟩ := hv.list
    obtain ⟨hk, q⟩ := postIf (c := (SeqAt.shaped (.list xs) && SeqAt.shaped e) = true) q
    rw [Bool.and_eq_true] at hk
    cases q1 : xs.findIdx? fun z => PyData.eqv z e with
    | none => rw [q1] at q; exact q.elim
    | some j =>
      rw [q1] at q
      obtain ⟨hj, hz, hno⟩ := List.findIdx?_eq_some_iff_getElem.mp q1
      refine ⟨t, u, e, xs, j, xs[j], rfl, rfl, hv.dp (nod_shaped hk.1), hu'.dp (nod_shaped hk.2), hk.1, hk.2, List.getElem?_eq_getElem hj, hz, fun m z' hm e2 => ?_, ans ss q (.int _)⟩
      obtain ⟨hm2, e3⟩ := List.getElem?_eq_some_iff.mp e2
      have := hno m hm
      rw [e3] at this
      simpa using this
  | _ => exact q.elim
theorem g_count {apos : Pos} (ha : GE X W a ra) (hb : GE X W b rb) (hbase : attributeBase a "count" X.env (eval a X.env) = eval a X.env := by rfl)
    (hfew : ((backTo pos (starEach (b :: []) X.env)).all (fun x => !x.1) && (backToKw pos (keywordEach [] X.env)).all (fun x => x.1.isSome) && decide ((b :: []).length + ([] : List Keyword).length + (if ([] : List Keyword).isEmpty then 0 else 1) < 30)) = true := by rfl)
    (hline : (apos.endLine == pos.line) = true := by rfl) (hs : starEach (b :: []) X.env = (false, eval b X.env) :: starEach [] X.env := by rfl) (hpl : (backTo pos (starEach [] X.env)).any (·.1) = false := by rfl) :
    GE X W (.Call (.Attribute a "count" apos) [b] [] pos) (eMq fCount ra rb) := by
  refine g_mq PySem.F.plainAttrs_list PySem.F.slot_list_count PySem.F.type_list_count mt_lcount ha hb (fun d e S ρ H2 v u Q Wx ss hv hu' q => ?_) hbase hfew hline hs hpl
  cases d with
  | list xs =>
    cases e with
    | int k =>
      obtain ⟨t, vs, rfl, h1, r1⟩ := hv.list
      replace q : Post X.K X.mg Wx S ρ H2 ((match intsOf xs with | some ns => DL.ret (D.p (.int (ns.count k : Nat))) | none => no : M D) S) _ := q
      cases q1 : intsOf xs with
      | none => rw [q1] at q; exact q.elim
      | some ns =>
        rw [q1] at q
        rw [ints_map q1 r1] at h1
        have e1 := hu'.int
        subst e1
        exact ⟨t, ns, k, rfl, rfl, h1, ans ss q (.int _)⟩
    | _ => exact q.elim
  | _ => cases e <;> exact q.elim
end
end DL

/-! ## for x in range(a, b, c) -/
namespace DL
open PySem PySem.Spec L2 PyProof.Rows
variable [Nfo]
theorem rgc_ok {m n k : Int} (h1 : -1000000 ≤ m ∧ m ≤ 1000000) (h2 : -1000000 ≤ n ∧ n ≤ 1000000) (h3 : 0 < k) (h4 : k ≤ 1000000) : RgC m n k ((n - m + k - 1) / k).toNat ∧ ((n - m + k - 1) / k).toNat ≤ 4000000 := by
  have hs : Builtin.Range.rangeSize m n k = (((n - m + k - 1) / k).toNat : Int) := by
    unfold Builtin.Range.rangeSize
    rw [if_pos h3]
    by_cases h : m < n
    · rw [if_pos h]
      have e : n - m + k - 1 = (n - m - 1) + k * 1 := by omega
      rw [e, Int.add_mul_ediv_left _ _ (by omega)]
      have : 0 ≤ (n - m - 1) / k := Int.ediv_nonneg (by omega) (by omega)
      omega
    · rw [if_neg h]
      have : (n - m + k - 1) / k < 1 := Int.ediv_lt_of_lt_mul h3 (by omega)
      omega
  have hb : (n - m + k - 1) / k ≤ 4000000 := by
    refine Int.ediv_le_of_le_mul h3 ?_
    have : 4000000 * 1 ≤ 4000000 * k := Int.mul_le_mul_of_nonneg_left (by omega) (by decide)
    omega
  refine ⟨⟨by omega, by omega, ?_, hs⟩, by omega⟩
  unfold Builtin.Range.small
  rw [hs]
  simp only [Builtin.Range.rangeFitsLong, Bool.and_eq_true, Bool.or_eq_true, decide_eq_true_eq, beq_iff_eq, gt_iff_lt, h3, if_true]
  omega
section
variable {X : Cx} {W : WX} {a b c : Expr} {ra rb rc : E} {p pos : Pos} {x : Str} {tg : Expr}
theorem gi_range3 (hg : Gl X "range" := by rfl) (hm : X.mg "range" = none) (ha : GE X W a ra) (hb : GE X W b rb) (hcc : GE X W c rc) (hs : starEach [a, b, c] X.env = (false, eval a X.env) :: starEach [b, c] X.env := by rfl)
    (hs3 : starEach [b, c] X.env = (false, eval b X.env) :: starEach [c] X.env := by rfl) (hs4 : starEach (c :: []) X.env = (false, eval c X.env) :: starEach [] X.env := by rfl) (hpl : (backTo pos (starEach [b, c] X.env)).any (·.1) = false := by rfl) :
    GI X W tg (.Call (.Name "range" p) [a, b, c] [] pos) (iRange3 ra rb rc) := by
  refine PI.imp (pi_range3 hg hm (pa_cons ha (pa_cons hb (pa_cons hcc pa_nil hs4) hs3) hs) hs hpl) fun σ H R q => ?_
  obtain ⟨env, S, ρ, se, ss, h⟩ := q
  refine ⟨env, S, ρ, se, ss, (Post.bnd h).imp fun d S1 ρ1 H1 _ x1 s1 h1 v rv => ⟨env, S1, ρ1, se.mono x1.st x1.pre, s1, (Post.bnd h1).imp fun e S2 ρ2 H2 _ x2 s2 h2 u ru => ⟨env, S2, ρ2, (se.mono x1.st x1.pre).mono x2.st x2.pre, s2, (Post.bnd h2).imp fun f S3 ρ3 H3 _ x3 s3 h3 w rw' => ?_⟩⟩⟩
  cases d with
  | p y =>
    cases y with
    | int m =>
      cases e with
      | p z =>
        cases z with
        | int n =>
          cases f with
          | p t =>
            cases t with
            | int k =>
              obtain ⟨⟨k1, k2, k3⟩, h3⟩ := postIf (c := rngOk m n = true ∧ rngOk 0 k = true ∧ 0 < k) h3
              obtain ⟨_, g1⟩ := rg_ok k1
              obtain ⟨_, g2⟩ := rg_ok k2
              cases rv with
              | p rv =>
                cases rv
                cases ru with
                | p ru =>
                  cases ru
                  cases rw' with
                  | p rw' =>
                    cases rw'
                    obtain ⟨rg, hn⟩ := rgc_ok (m := m) (n := n) (k := k) ⟨g1.1, g1.2.1⟩ ⟨g1.2.2.1, g1.2.2.2⟩ k3 (by omega)
                    refine ⟨m, n, k, _, rfl, rg, h3 H3 ρ3 Ext.refl s3 _ ⟨⟨fun _ => True, _, by rw [List.length_map, List.length_range]; exact walk_rangeC, fun _ _ => trivial, fun i H1 x H2 d ρ1 s q e y => ?_⟩, by rw [List.length_map, List.length_range]; unfold big; omega⟩⟩
                    obtain ⟨rfl, rfl⟩ := y
                    rw [List.getElem?_map] at e
                    cases e2 : (List.range ((n - m + k - 1) / k).toNat)[i]? with
                    | none => rw [e2] at e; cases e
                    | some j =>
                      rw [e2] at e
                      cases e
                      have e3 : j = i := by
                        obtain ⟨hlt, e4⟩ := List.getElem?_eq_some_iff.mp e2
                        rw [List.getElem_range] at e4
                        exact e4.symm
                      subst e3
                      exact ⟨.inl rfl, .p (.int _)⟩
            | _ => exact h3.elim
          | _ => exact h3.elim
        | _ => cases f <;> first | exact h3.elim | (rename_i t; cases t <;> exact h3.elim)
      | _ => cases f <;> first | exact h3.elim | (rename_i t; cases t <;> exact h3.elim)
    | _ => cases e <;> first | (cases f <;> first | exact h3.elim | (rename_i t; cases t <;> exact h3.elim)) | (rename_i z; cases z <;> (cases f <;> first | exact h3.elim | (rename_i t; cases t <;> exact h3.elim)))
  | _ => cases e <;> first | (cases f <;> first | exact h3.elim | (rename_i t; cases t <;> exact h3.elim)) | (rename_i z; cases z <;> (cases f <;> first | exact h3.elim | (rename_i t; cases t <;> exact h3.elim)))
end
end DL

/-! ## len(set(x)), x a list -/
namespace DL
open PySem PySem.Spec L2 PyProof.Rows
variable [Nfo]
theorem met_nodup (val : Nat → Int) : ∀ i, (firstMet val i).Nodup
  | 0 => by rw [firstMet_zero]; exact List.nodup_nil
  | i + 1 => by
    rw [firstMet_succ]
    have ih := met_nodup val i
    unfold step_dedup
    split
    · exact ih
    · next h =>
      refine List.nodup_append.mpr ⟨ih, by simp, fun a ha b hb e => ?_⟩
      rw [List.mem_singleton] at hb
      subst hb
      subst e
      refine h ?_
      simp only [List.any_eq_true, List.contains_iff_mem, beq_iff_eq] at *
      first | exact ha | exact ⟨_, ha, rfl⟩
theorem met_len (ns : List Int) : (firstMet (fun i => ns.getD i 0) ns.length).length = (dist ns).length := by
  refine List.Perm.length_eq ((List.perm_ext_iff_of_nodup (met_nodup _ _) (nodup_dist ns)).mpr fun k => ?_)
  rw [mem_dist]
  have h := firstMet_any (fun i => ns.getD i 0) ns.length k
  have e : (List.range ns.length).map (fun i => ns.getD i 0) = ns := by
    apply List.ext_getElem (by simp)
    intro i a b
    have hi : i < ns.length := by simpa using a
    simp [List.getElem?_eq_getElem hi]
  rw [e] at h
  have a1 : ∀ l : List Int, l.any (· == k) = true ↔ k ∈ l := fun l => by simp
  rw [← a1, ← a1, h]
section
variable {X : Cx} {W : WX} {a b c : Expr} {ra rb rc : E} {p pos : Pos} {x : Str} {tg : Expr}
def tLenA (K : PySem.W.Frag) (ta : TE) : TE := fun σ H Q => ta σ H fun x H1 => ∃ (l : Addr) (ns : List Int), x = .ref l ∧ (SqT K H1 l (ns.map V.int) ∨ SqL K H1 l (ns.map V.int)) ∧ ns.length ≤ 4000 ∧ Q (.int (dist ns).length) H1
theorem pe_lenA {t : TE} {p2 q : Pos} (hg : Gl X "len") (hm : X.mg "len" = none) (hg2 : Gl X "set") (hm2 : X.mg "set" = none) (ha : PE X a t) (hc : X.calm = true) (na : starEach [a] X.env = (false, eval a X.env) :: starEach [] X.env) :
    PE X (.Call (.Name "len" p) [.Call (.Name "set" p2) [a] [] q] [] pos) (tLenA X.K t) := by
  refine ⟨fun pins s σ H Q I h => ?_⟩
  refine PyProof.Rows.Call_ (ld_blt I hg hm boot_len (PyProof.Rows.callWith_builtin1 (PyProof.Rows.args_cons ?_ rfl) rfl rfl))
  refine PyProof.Rows.Call_ (ld_blt I hg2 hm2 PyProof.Rows.boot_set (PyProof.Rows.callWith_type1 (PyProof.Rows.args_cons ?_ na) na rfl))
  refine thn (ha.run pins s σ H _ I h) fun v s1 z => PyProof.Rows.args_nil ?_
  obtain ⟨y, H1, I1, r1, l, ns, rfl, hq, hl, q1⟩ := z
  cases r1
  rcases hq with hq | hq
  · obtain ⟨its, r, pt, hz⟩ := I1.tuple hq
    refine call_set_tupI ns (I1.ok.hd hc) pt (by simpa using vals_ia r) (by unfold scanBound; omega) fun h' tk n hS hn hk => ?_
    refine PyProof.Rows.args_nil ?_
    obtain ⟨o, es, ep, t, ho, hex, hd, hgd, hnd, hmem, hsc, hf, hsz, _⟩ := hS
    have I2 : Inv X pins σ H1 { s1 with heap := h', toks := tk } := I1.kept hk
    have hcount : es.size = (dist ns).length := by
      have e1 : ((es.toList.map L2.keyOf) : List Int).length = (dist ns).length := by
        refine (List.Perm.length_eq ((List.perm_ext_iff_of_nodup hnd (nodup_dist ns)).mpr fun k => ?_))
        rw [mem_dist, ← hmem k]
        simp
      rw [← e1, List.length_map, Array.length_toList]
    exact call_len_set ho hex hd hf (by omega) ⟨.int _, H1, I2.tok _, ⟨_, by rw [hcount]⟩, q1⟩
  · obtain ⟨its, r, pt, hz⟩ := I1.list hq
    have hia := vals_ia r
    have hsz' : its.toArray.size = ns.length := by
      have := hia.length
      simpa using this
    refine call_set_list (ns := ns) (I1.ok.hd hc) pt.isList (by simpa using hia) (by unfold scanBound; omega) fun h' tk hS hk => ?_
    refine PyProof.Rows.args_nil ?_
    obtain ⟨o, es, ep, t, ho, hex, hd, hel, hmem, hsb, hf, hsz⟩ := hS
    have I2 : Inv X pins σ H1 { s1 with heap := h', toks := tk } := I1.kept fun b o e => hk b o (Heap.lt_size e) e
    have hcount : es.size = (dist ns).length := by rw [hsz, hsz']; exact met_len ns
    have hle := firstMet_length_le (fun i => ns.getD i 0) its.toArray.size
    exact call_len_set ho hex hd hf (by omega) ⟨.int _, H1, I2.tok _, ⟨_, by rw [hcount]⟩, q1⟩
theorem g_lenSetA {p2 q : Pos} (hc : X.calm = true) (hg : Gl X "len") (hm : X.mg "len" = none) (hg2 : Gl X "set") (hm2 : X.mg "set" = none) (ha : GE X W a ra) (na : starEach [a] X.env = (false, eval a X.env) :: starEach [] X.env := by rfl) :
    GE X W (.Call (.Name "len" p) [.Call (.Name "set" p2) [a] [] q] [] pos) (e1 fLenSetA ra) := by
  refine PE.imp (pe_lenA hg hm hg2 hm2 ha hc na) fun σ H Q h => ?_
  obtain ⟨env, S, ρ, se, ss, h⟩ := h
  refine ⟨env, S, ρ, se, ss, (Post.bnd h).imp fun d S1 ρ1 H1 _ x1 s1 h1 v rv => ?_⟩
  have h2 := Post.bnd h1
  cases q1 : view S1 d with
  | none => unfold see at h2; rw [q1] at h2; exact h2.elim
  | some y =>
    unfold see at h2
    rw [q1] at h2
    have h3 := h2 H1 ρ1 Ext.refl s1
    have vw := view_dp s1 rv q1
    have key : ∀ (xs : List PyData) (l : Addr) (vs : List V), (y = .tuple xs ∧ SqT X.K H1 l vs ∨ y = .list xs ∧ SqL X.K H1 l vs) → v = .ref l → DVs X.K H1 xs vs → ∃ (l : Addr) (ns : List Int), v = .ref l ∧ (SqT X.K H1 l (ns.map V.int) ∨ SqL X.K H1 l (ns.map V.int)) ∧ ns.length ≤ 4000 ∧ Q (.int (dist ns).length) H1 := by
      intro xs l vs hy hv hd
      replace h3 : Post X.K X.mg (fun c d H' => W c d σ H') S1 ρ1 H1 ((match intsOf xs with
        | some ns => if ns.length ≤ 4000 then ret (.p (.int (dist ns).length)) else no
        | none => no : M D) S1) (fun d _ ρ' H' => ∀ v, DR X.K H' ρ' d v → Q v H') := by
        rcases hy with ⟨rfl, _⟩ | ⟨rfl, _⟩ <;> exact h3
      cases q2 : intsOf xs with
      | none => rw [q2] at h3; exact h3.elim
      | some ns =>
        rw [q2] at h3
        obtain ⟨hl, h3⟩ := postIf (c := ns.length ≤ 4000) h3
        have ev := ints_of q2 hd
        subst ev
        refine ⟨l, ns, hv, ?_, hl, ans s1 h3 (.int _)⟩
        rcases hy with ⟨_, h⟩ | ⟨_, h⟩
        · exact .inl h
        · exact .inr h
    cases y with
    | tuple xs =>
      obtain ⟨l, vs, e, h4, r4⟩ := Vw.tuple vw
      exact key xs l vs (.inl ⟨rfl, h4⟩) e r4
    | list xs =>
      obtain ⟨l, vs, e, h4, r4⟩ := Vw.list vw
      exact key xs l vs (.inr ⟨rfl, h4⟩) e r4
    | _ => exact h3.elim
end
end DL

namespace DL
open PySem PySem.Spec PyProof.Rows L2
variable [Nfo]
/-! ## taking a list apart -/
def gListL (K : PySem.W.Frag) (n : Nat) (t : TGs) : TG := fun v σ H Q => ∃ a xs, v = .ref a ∧ SqL K H a xs ∧ xs.length = n ∧ t xs σ H Q
section
variable {X : Cx} {pos : Pos}
theorem pg_list {es : List Expr} {k : Nat} {t : TGs} {n : Nat} (hc : X.calm = true) (h : PGs X es t)
    (hn : (assignEach es X.env).length = n := by rfl) (hst : (assignEach es X.env).findIdx? (·.1) = none := by rfl) : PG X (.Tuple es k pos) (gListL X.K n t) := by
  refine ⟨fun pins s σ H v u Q I r hw => ?_⟩
  obtain ⟨a, xs, e1, hq, hl, hw⟩ := hw
  subst e1
  cases r
  obtain ⟨its, rv, hP, hz⟩ := I.list hq
  have ht : s.heap.IsList a its.toArray := hP.isList
  rw [assign_Tuple]
  refine wpAny_bind (wpAny_standAt ?_)
  unfold unpack
  rw [hst, show (assignEach es X.env).length = its.toArray.size by simp [hn, ← hl, rv.length]]
  refine wpAny_bind (wpAny_holding (PySem.W.kun_itemsOf (I.ok.hd hc) ht fun h' hx => ?_))
  have I1 : Inv X pins σ H { s with heap := h' } := I.kept (t' := s.toks) fun b o e => hx b o (Nat.ne_of_lt (Heap.lt_size e)) e
  exact h.run pins _ σ H xs _ Q I1 (by simpa using rv) hw
theorem PG.or {tg : Expr} {t u : TG} (h1 : PG X tg t) (h2 : PG X tg u) : PG X tg (fun v σ H Q => t v σ H Q ∨ u v σ H Q) :=
  ⟨fun pins s σ H v w Q I r hw => hw.elim (fun q => h1.run pins s σ H v w Q I r q) fun q => h2.run pins s σ H v w Q I r q⟩
theorem gg_tupQ {es : List Expr} {k n : Nat} {gs : List G} {o1 : List Nat} (hc : X.calm = true) (h : GGs X es o1 (gsFill gs)) (hl : gs.length = n) (hn : (assignEach es X.env).length = n := by rfl) (hst : (assignEach es X.env).findIdx? (·.1) = none := by rfl) : GG X (.Tuple es k pos) o1 (gTupQ gs) := by
  refine PG.imp (PG.or (pg_tup hc h hn hst) (pg_list hc h hn hst)) fun v σ H Q q => ?_
  obtain ⟨d, env, S, ρ, rv, se, ss, h⟩ := q
  unfold gTupQ at h
  cases q : itemsQ S d with
  | none => simp only [q] at h; exact h.elim
  | some ds =>
    simp only [q] at h
    by_cases hc : ds.length = gs.length
    · rw [if_pos hc] at h
      have key : (∃ a vs, v = .ref a ∧ SqT X.K H a vs ∧ DRs X.K H ρ ds vs) ∨ ∃ a vs, v = .ref a ∧ SqL X.K H a vs ∧ DRs X.K H ρ ds vs := by
        cases d with
        | exn _ => first | exact q.elim | exact h.elim | exact h1.elim | exact h2.elim | exact h3.elim | exact h4.elim | exact h5.elim | exact p.elim | cases h | cases q | cases e
        | p x =>
          cases x with
          | tuple xs =>
            cases q
            cases rv with
            | p r =>
              obtain ⟨a, vs, e, h1, r1⟩ := Vw.tuple (.inl r)
              exact .inl ⟨a, vs, e, h1, r1.drs⟩
          | list xs =>
            cases q
            cases rv with
            | p r =>
              obtain ⟨a, vs, e, h1, r1⟩ := Vw.list (.inl r)
              exact .inr ⟨a, vs, e, h1, r1.drs⟩
          | _ => cases q
        | tup xs =>
          cases q
          cases rv with
          | tup h1 h2 h3 => exact .inl ⟨_, _, rfl, h1.sq, DRs.of_get h2 h3⟩
        | ref n =>
          cases rv with
          | ref e =>
            rename_i a
            replace q : (match S[n]? with | some (.lst ds) => some ds | _ => none) = some ds := q
            cases q1 : S[n]? with
            | none => rw [q1] at q; cases q
            | some o =>
              rw [q1] at q
              cases o with
              | lst es =>
                cases q
                obtain ⟨vs, h1, h2⟩ := ss.ob n _ a q1 e
                exact .inr ⟨a, vs, rfl, SqL.of h1, h2⟩
              | dct kvs => cases q
              | gone => cases q
      rcases key with ⟨a, vs, rfl, h1, r1⟩ | ⟨a, vs, rfl, h1, r1⟩
      · exact .inl ⟨a, vs, rfl, h1, by rw [← r1.length, hc, hl], ds, env, S, ρ, r1, se, ss, h⟩
      · exact .inr ⟨a, vs, rfl, h1, by rw [← r1.length, hc, hl], ds, env, S, ρ, r1, se, ss, h⟩
    · rw [if_neg hc] at h; exact h.elim
end
/-! ## == of lists of lists that may change -/
section
variable {K : PySem.W.Frag} {H : Hp} {ρ : List Addr} {S : Sto}
theorem viewsF_dp {f : D → Option PyData} (hf : ∀ {d : D} {v : V} {x : PyData}, f d = some x → DR K H ρ d v → nod x = true → Dp K H v x) : ∀ {ds : List D} {vs : List V} {xs : List PyData}, viewsF f ds = some xs → DRs K H ρ ds vs → nods xs = true → DpAll K H vs xs
  | [], _, _, e, h, _ => by
    cases e
    cases h
    exact .nil
  | d :: ds, _, _, e, h, n => by
    cases h with
    | cons h1 h2 =>
      unfold viewsF at e
      cases q1 : f d with
      | none => rw [q1] at e; cases e
      | some x =>
        cases q2 : viewsF f ds with
        | none => rw [q1, q2] at e; cases e
        | some xs =>
          rw [q1, q2] at e
          cases e
          simp only [nods, Bool.and_eq_true] at n
          exact .cons (hf q1 h1 n.1) (viewsF_dp hf q2 h2 n.2)
theorem viewD_dp (ss : SimS K H ρ S) : ∀ (k : Nat) {d : D} {v : V} {x : PyData}, viewD S k d = some x → DR K H ρ d v → nod x = true → Dp K H v x := by
  intro k
  induction k with
  | zero =>
    intro d v x e r nn
    cases d with
    | exn _ => first | exact q.elim | exact h.elim | exact h1.elim | exact h2.elim | exact h3.elim | exact h4.elim | exact h5.elim | exact p.elim | cases h | cases q | cases e
    | p y =>
      cases e
      cases r with
      | p r => exact dv_dp nn r
    | tup ds => cases e
    | ref n => cases e
  | succ k ih =>
    intro d v x e r nn
    cases d with
    | exn _ => first | exact q.elim | exact h.elim | exact h1.elim | exact h2.elim | exact h3.elim | exact h4.elim | exact h5.elim | exact p.elim | cases h | cases q | cases e
    | p y =>
      cases e
      cases r with
      | p r => exact dv_dp nn r
    | tup ds =>
      cases r with
      | tup h1 h2 h3 =>
        replace e : (viewsF (viewD S k) ds).map PyData.tuple = some x := e
        cases q : viewsF (viewD S k) ds with
        | none => rw [q] at e; cases e
        | some xs =>
          rw [q] at e
          cases e
          exact .tup h1.sq (viewsF_dp (fun a b c => ih a b c) q (DRs.of_get h2 h3) (by simpa only [nod] using nn))
    | ref n =>
      cases r with
      | ref e2 =>
        rename_i a
        replace e : (match S[n]? with | some (.lst ds) => (viewsF (viewD S k) ds).map PyData.list | _ => none) = some x := e
        cases q1 : S[n]? with
        | none => rw [q1] at e; cases e
        | some o =>
          rw [q1] at e
          cases o with
          | lst es =>
            have e' : (viewsF (viewD S k) es).map PyData.list = some x := e
            cases q : viewsF (viewD S k) es with
            | none => rw [q] at e'; cases e'
            | some xs =>
              rw [q] at e'
              cases e'
              obtain ⟨vs, h1, h2⟩ := ss.ob n _ a q1 e2
              exact .lst (SqL.of h1) (viewsF_dp (fun a b c => ih a b c) q h2 (by simpa only [nod] using nn))
          | dct kvs => cases e
          | gone => cases e
end
section
variable {X : Cx} {W : WX} {a b c : Expr} {ra rb rc : E} {pos : Pos}
theorem two_view {f : PyData → PyData → M D} {r : R2} {σ : L2.St} {H : Hp} {Q : VK} (h : rE X.K X.mg W (e2V f ra rb) σ H Q)
    (hr : ∀ (x y : PyData) (S : Sto) (ρ : List Addr) (H2 : Hp) (v u : V), SimS X.K H2 ρ S → (nod x = true → Dp X.K H2 v x) → (nod y = true → Dp X.K H2 u y) →
      Post X.K X.mg (fun c d H' => W c d σ H') S ρ H2 (f x y S) (fun d _ ρ' H' => ∀ v, DR X.K H' ρ' d v → Q v H') → r v u H2 Q) :
    tOp r (rE X.K X.mg W ra) (rE X.K X.mg W rb) σ H Q := by
  refine two (f := fun x y S => match viewD S 8 x, viewD S 8 y with | some u, some w => f u w S | _, _ => .no) h fun d e S ρ H2 v u ss rv ru h2 => ?_
  cases q1 : viewD S 8 d with
  | none => simp only [q1] at h2; exact h2.elim
  | some x =>
    cases q2 : viewD S 8 e with
    | none => simp only [q1, q2] at h2; exact h2.elim
    | some y =>
      simp only [q1, q2] at h2
      exact hr x y S ρ H2 v u ss (viewD_dp ss 8 q1 rv) (viewD_dp ss 8 q2 ru) h2
theorem eqS_ok {x y : PyData} {S : Sto} {ρ : List Addr} {H2 : Hp} {Q : VK} {Wx : XW} (ss : SimS X.K H2 ρ S) (p : Post X.K X.mg Wx S ρ H2 (fEqS x y S) (fun d _ ρ' H' => ∀ v, DR X.K H' ρ' d v → Q v H')) : SeqAt.shaped x = true ∧ SeqAt.shaped y = true ∧ Q (.bl (PyData.eqv x y)) H2 := by
  unfold fEqS at p
  by_cases hc : (SeqAt.shaped x && SeqAt.shaped y) = true
  · rw [if_pos hc] at p
    rw [Bool.and_eq_true] at hc
    exact ⟨hc.1, hc.2, ans ss p (.bl _)⟩
  · rw [if_neg hc] at p; exact p.elim
theorem neS_ok {x y : PyData} {S : Sto} {ρ : List Addr} {H2 : Hp} {Q : VK} {Wx : XW} (ss : SimS X.K H2 ρ S) (p : Post X.K X.mg Wx S ρ H2 (fNeS x y S) (fun d _ ρ' H' => ∀ v, DR X.K H' ρ' d v → Q v H')) : SeqAt.shaped x = true ∧ SeqAt.shaped y = true ∧ Q (.bl (!PyData.eqv x y)) H2 := by
  unfold fNeS at p
  by_cases hc : (SeqAt.shaped x && SeqAt.shaped y) = true
  · rw [if_pos hc] at p
    rw [Bool.and_eq_true] at hc
    exact ⟨hc.1, hc.2, ans ss p (.bl _)⟩
  · rw [if_neg hc] at p; exact p.elim
theorem g_eqV (hu : X.A.units + 64 < cLine) (ha : GE X W a ra) (hb : GE X W b rb) (hm : behindInMarks .Eq b = false) : GE X W (.Compare a [.Eq] [b] pos) (e2V fEqS ra rb) :=
  PE.imp (pe_cmpR (op_eqD hu) ha hb hm) fun σ H Q q => two_view q fun x y S ρ H2 v u ss hv hw p => let ⟨h1, h2, q⟩ := eqS_ok ss p; ⟨x, y, hv (nod_shaped h1), hw (nod_shaped h2), h1, h2, q⟩
theorem g_neV (hu : X.A.units + 64 < cLine) (ha : GE X W a ra) (hb : GE X W b rb) (hm : behindInMarks .NotEq b = false) : GE X W (.Compare a [.NotEq] [b] pos) (e2V fNeS ra rb) :=
  PE.imp (pe_cmpR (op_neD hu) ha hb hm) fun σ H Q q => two_view q fun x y S ρ H2 v u ss hv hw p => let ⟨h1, h2, q⟩ := neS_ok ss p; ⟨x, y, hv (nod_shaped h1), hw (nod_shaped h2), h1, h2, q⟩
theorem gt_eqV (hu : X.A.units + 64 < cLine) (ha : GE X W a ra) (hb : GE X W b rb) (hm : behindInMarks .Eq b = false) : GT X W (.Compare a [.Eq] [b] pos) (tVal (e2V fEqS ra rb)) :=
  PT.imp (pt_cmpR (op_eqD hu) ha hb hm) fun σ H Q q => two_view (rT_val q) fun x y S ρ H2 v u ss hv hw p => let ⟨h1, h2, q⟩ := eqS_ok ss p; ⟨x, y, hv (nod_shaped h1), hw (nod_shaped h2), h1, h2, q⟩
theorem gt_neV (hu : X.A.units + 64 < cLine) (ha : GE X W a ra) (hb : GE X W b rb) (hm : behindInMarks .NotEq b = false) : GT X W (.Compare a [.NotEq] [b] pos) (tVal (e2V fNeS ra rb)) :=
  PT.imp (pt_cmpR (op_neD hu) ha hb hm) fun σ H Q q => two_view (rT_val q) fun x y S ρ H2 v u ss hv hw p => let ⟨h1, h2, q⟩ := neS_ok ss p; ⟨x, y, hv (nod_shaped h1), hw (nod_shaped h2), h1, h2, q⟩
end
end DL

namespace DL
open PySem PySem.Spec L2 PyProof.Rows
variable [Nfo]
/-! ## a caught error is a value -/
section
variable {X : Cx} {pins : List (Addr × Obj)} {σ : L2.St} {H : Hp} {s : Shared}
theorem inv_track {a : Addr} {ob : Obj} {fs : Array Value} {cls : Value} {d : Option Addr} (J : Inv X pins σ H s) (there : s.heap.get? a = some ob) (zc : Zc cls d ob) (df : ob.data = .fields fs) (un : H a = none) (old : X.s_0.heap.get? a = none) (nl : a ≠ X.env.locals) (np : ∀ p ∈ X.pn ++ pins, p.1 ≠ a) :
    Inv X pins σ (upd H a (ExcT a cls d)) s where
  ok := J.ok
  os := J.os
  bare := J.bare
  base := by
    have other : ∀ {b : Addr} {o : Obj}, X.s_0.heap.get? b = some o → b ≠ a := fun e z => by rw [z, old] at e; cases e
    have kept : ∀ {b : Addr} {u : HO}, H b = some u → upd H a (ExcT a cls d) b = some u := fun e => by rw [upd_ne (ne_of_none e un)]; exact e
    refine ⟨J.base.keep, J.base.slot, fun b o e n x => ?_, J.base.there, fun b xs e => kept (J.base.tups b xs e), fun b o u e => kept (J.base.frzs b o u e), fun b ps e => ?_⟩
    · rw [upd_ne (other e)]
      exact J.base.free b o e n x
    · obtain ⟨m, q⟩ := J.base.tbls b ps e
      exact ⟨m, kept q⟩
  loc := J.loc
  cell := J.cell
  free := by rw [upd_ne nl.symm]; exact J.free
  freeC := fun y c e => by
    have hc : c ≠ a := fun z => by
      obtain ⟨v, o, e1, e2⟩ := J.cell y c e
      rw [z, there] at e1
      cases e1
      rw [df] at e2
      cases e2
    rw [upd_ne hc]
    exact J.freeC y c e
  pin := fun p hp => by
    obtain ⟨e1, e2, e3⟩ := J.pin p hp
    exact ⟨e1, by rw [upd_ne (np p hp)]; exact e2, e3⟩
  hok := fun b u e => by
    by_cases hb : b = a
    · subst hb
      rw [upd_same] at e
      cases e
      exact ⟨⟨ob, fs, there, zc, df⟩, ⟨ob, there⟩, fun g1 g2 ⟨o, v, q, r⟩ k => ⟨o, v, k o q, r⟩⟩
    · rw [upd_ne hb] at e
      exact (J.hok b u e).stay (fun c v _ q => q) (fun c q => by rw [upd_ne (ne_of_none q un)]; exact q) fun c xs q => by rw [upd_ne (ne_of_none q un)]; exact q
  len := J.len
end
/-- what is wished of an error in a try whose clause keeps it -/
def wKeep (K : PySem.W.Frag) (c : Value) (i : Nat) (ts : Addr → Value → Option Addr → TS) (Wout : WX) (D : Ends) : WX := fun cls d σ H =>
  ∃ b, PySem.W.exmOne K cls c = some b ∧
    (b = true → ∀ a, H a = none → ts a cls d { nx := fun σ2 H2 => D.nx (σ2.set i none) (upd H2 a (ExcT a cls d)), rt := fun v H2 => D.rt v (upd H2 a (ExcT a cls d)), bk := fun σ2 H2 => D.bk (σ2.set i none) (upd H2 a (ExcT a cls d)), ct := fun σ2 H2 => D.ct (σ2.set i none) (upd H2 a (ExcT a cls d)) } (σ.set i (some (.ref a))) H) ∧
    (b = false → Wout cls d σ H)
section
variable {X : Cx} {x n : Str} {c : Value} {i : Nat} {body suite : List Stmt} {first : Stmt} {np pos pos' : Pos} {tb : WX → TS} {ts : Addr → Value → Option Addr → TS} {Wout : WX}
theorem ps_try_keep (st : X.stack = X.env :: X.outer) (fr : X.env.frame = some X.env.locals) (nd : X.N.Nodup) (at_ : X.N[i]? = some n) (loc : X.env.kindOf n = some .local) (nx : X.ex = []) (nm : Names X x c) (tk : Takes X Wout)
    (hb : ∀ (W : WX) (pn : List (Addr × Obj)) (xe : Value → Shared → Prop), Takes (X.tr pn xe) W → PassesOwn (model X.prog X.w) X.A X.env xe → PSs (X.tr pn xe) body (tb W))
    (hs : ∀ (a : Addr) (oe : Obj) (cls : Value) (d : Option Addr) (pn : List (Addr × Obj)), Zc cls d oe → (∃ vs, oe.data = .fields vs) → PSs (X.suite a ((a, oe) :: pn)) (first :: suite) (ts a cls d)) :
    PS X (.Try body [.ExceptHandler (some (.Name x np)) (some n) (first :: suite) pos'] [] [] pos) (fun D σ H => tb (wKeep X.K c i ts Wout D) D σ H) := by
  refine ⟨fun pins s σ H D I want => wpAny_Try_except ?_⟩
  have ok := I.ok
  have frames : X.A.frames = some (X.env :: X.outer) := by rw [ok.frames, st]
  have isl : Loc X.env.scope n := .inl loc
  have run := hb (wKeep X.K c i ts Wout D) (X.pn ++ pins) (fun e s1 => wpAny (model X.prog X.w) X.A (noteFrame e X.env) (fun _ s2 => wpAny (model X.prog X.w) X.A (setFlight e none)
    (fun _ s3 => wpAny (model X.prog X.w) X.A (handleBy e X.env [.ExceptHandler (some (.Name x np)) (some n) (first :: suite) pos']) (SP X pins D) X.xe s3) X.xe s2) X.xe s1) (fun u t xx => ?_) PassesOwn.looking
  · refine wpAny_mono (run.run [] s σ H D (I.toTry _) want) (fun f s1 q => ?_) fun e s1 q => q
    cases f with
    | next => obtain ⟨σ1, H1, J1, q⟩ := q; exact wpAny_execs_nil ⟨σ1, H1, J1.ofTry ok, q⟩
    | ret v => obtain ⟨w, σ1, H1, J1, r, q⟩ := q; exact ⟨w, σ1, H1, J1.ofTry ok, r, q⟩
    | brk => obtain ⟨σ1, H1, J1, q⟩ := q; exact ⟨σ1, H1, J1.ofTry ok, q⟩
    | cont => obtain ⟨σ1, H1, J1, q⟩ := q; exact ⟨σ1, H1, J1.ofTry ok, q⟩
  obtain ⟨a, G, sA, pA, σA, HA, cls, d, eu, JA, inG, upA, skyA, nA, osA, bareA, b, hm, yes, nay⟩ := xx
  subst eu
  have J : Inv X pins σA HA sA := JA.ofTry ok
  have sky : Sky G (X.env :: X.outer) a (Zc cls d) X.env.locals t.heap := by rw [← st]; exact skyA
  show wpAny (model X.prog X.w) X.A (noteFrame (.ref a) X.env) _ _ _
  refine Sky.land Zc.steady frames fr sky fun g3 fly up3 => ?_
  have J3 : Inv X pins σA HA { t with heap := g3 } := J.landed inG fly.1 (upA.trans up3) osA bareA
  obtain ⟨o3, v3, e3, z3, d3⟩ := fly.there
  have out : a ∉ frs (X.env :: X.outer) := fun z => by
    obtain ⟨_, o', e', hn⟩ := fly.2.2.1.mem z
    rw [e3] at e'
    cases e'
    exact hn _ d3
  have notA : sA.heap.get? a = none := by
    cases q : sA.heap.get? a with
    | none => rfl
    | some o =>
      have := inG a o q (by rw [st]; exact out)
      rw [fly.2.1] at this
      cases this
  have old : X.s_0.heap.get? a = none := by
    cases q : X.s_0.heap.get? a with
    | none => rfl
    | some o =>
      obtain ⟨o', q'⟩ := J.base.there a o q (by rw [nx]; exact fun z => nomatch z)
      rw [notA] at q'
      cases q'
  have unpinned : ∀ p ∈ X.pn ++ pins, p.1 ≠ a := fun p hp z => by
    have e := (J.pin p hp).1
    rw [z, notA] at e
    cases e
  have nl : a ≠ X.env.locals := fun z => out (List.mem_filterMap.mpr ⟨X.env, List.mem_cons_self, by rw [fr, z]⟩)
  have nf : a ∉ X.fs := fun z => by
    obtain ⟨e, he, q⟩ := List.mem_filterMap.mp z
    exact out (List.mem_filterMap.mpr ⟨e, List.mem_cons_of_mem _ he, q⟩)
  have K3 := J3.suite e3 d3 nA nl nf
  refine wpAny_handleBy_cons (codeAny_handlers_test ?_) (by intro z; cases z)
  have ty : PySem.W.Looks (model X.prog X.w) g3 (typeOf (.ref a)) cls := fun A Q E s k q => wpAny_typeOf_ref (k _ _ e3) (by rw [z3.1]; exact q)
  have look := PySem.W.exm_one (M := model X.prog X.w) J3.kIn ty hm
  have name : ∀ {Q E : Value → Shared → Prop}, Q c { t with heap := g3 } → wpAny (model X.prog X.w) (X.A.mark (some (.ref a))) (eval (.Name x np) X.env) Q E { t with heap := g3 } := fun {Q E} q => by
    obtain ⟨g, db, h | ⟨h, hv, hn⟩⟩ := nm
    · exact ld_glob (X := X.suite a ((a, o3) :: (X.pn ++ pins))) K3 g h q db
    · exact ld_blt (X := X.suite a ((a, o3) :: (X.pn ++ pins))) K3 g h hv q hn db
  refine name (look.here ?_)
  cases b with
  | false =>
    show wpAny _ X.A (handleBy (.ref a) X.env []) _ _ _
    refine wpAny_handleBy_nil ?_
    obtain ⟨_, _, _, oe, vs, T, oT, ts', he, hz, hd, h1, hr⟩ := id fly
    unfold PySem.passOn
    refine wpAny_bind (wpAny_field he hd h1 ?_)
    rw [if_neg (show ¬ ((Value.ref T == Value.none) = true) by simp)]
    have last : wpAny (model X.prog X.w) X.A (setFlight (.ref a) X.env.frame) (fun _ s4 => wpAny (model X.prog X.w) X.A (throw (.ref a) : Sem Flow) (SP X pins D) X.xe s4) X.xe { t with heap := g3 } := by
      rw [fr]
      refine HandSPX.setFlight_upZ fly fun g4 held up4 => wpAny_throw (tk _ _ ?_)
      exact ⟨a, G, sA, pins, σA, HA, cls, d, rfl, J, inG, (upA.trans up3).trans up4, .inr (.inr (by rw [st]; exact held)), nA, osA, bareA, nay rfl⟩
    first
      | exact wpAny_bind (wpAny_pure (wpAny_bind last))
      | exact wpAny_bind last
  | true =>
    refine codeAny_handlers_suite_as ?_
    refine HandSPX.lands_againZ fly fun g4 fly4 up4 => ?_
    have J4 : Inv X pins σA HA { t with heap := g4 } := J.landed inG fly4.1 ((upA.trans up3).trans up4) osA bareA
    obtain ⟨o4, v4, e4, z4, d4⟩ := fly4.there
    have K4 := J4.suite e4 d4 nA nl nf
    refine store_ok (X := X.suite a ((a, o4) :: (X.pn ++ pins))) (v := .ref a) K4 nd at_ isl rfl (fun s5 K5 => ?_) (.inr loc)
    refine wpAny_mono ((hs a o4 cls d (X.pn ++ pins) z4 ⟨_, d4⟩).run [] s5 _ HA _ K5 (yes rfl a nA)) (fun f s6 q6 => ?_) fun _ _ z => z.elim
    have fin : ∀ {σ6 : L2.St} {H6 : Hp} {Q : Shared → Prop}, Inv (X.suite a ((a, o4) :: (X.pn ++ pins))) [] σ6 H6 s6 → (∀ s7, Inv X pins (σ6.set i none) (upd H6 a (ExcT a cls d)) s7 → Q s7) →
        wpAny (model X.prog X.w) X.A (do bindName X.env n .none; unbindBehindTheSuite X.env n pos') (fun _ s7 => Q s7) X.xe s6 := fun {σ6 H6 Q} K6 hq => by
      have pa := K6.pin (a, o4) (List.mem_append.mpr (.inl List.mem_cons_self))
      exact gone_ok (inv_track (K6.unsuite ok) pa.1 z4 d4 pa.2.1 old nl unpinned) nd at_ loc hq
    cases f with
    | next => obtain ⟨σ6, H6, K6, q⟩ := q6; exact fin K6 fun s7 J7 => ⟨_, _, J7, q⟩
    | ret u => obtain ⟨v6, σ6, H6, K6, r6, q⟩ := q6; exact fin K6 fun s7 J7 => ⟨_, _, _, J7, r6, q⟩
    | brk => obtain ⟨σ6, H6, K6, q⟩ := q6; exact fin K6 fun s7 J7 => ⟨_, _, J7, q⟩
    | cont => obtain ⟨σ6, H6, K6, q⟩ := q6; exact fin K6 fun s7 J7 => ⟨_, _, J7, q⟩
end
end DL

namespace DL
open PySem PySem.Spec L2 PyProof.Rows
variable [Nfo]
/-! ## isinstance of an error that was kept -/
def TyE (K : PySem.W.Frag) (H : Hp) (v : V) (t : Value) : Prop := TyX K H v t ∨ ∃ a D, v = .ref a ∧ H a = some (ExcT a (.ref D) none) ∧ ExcC K D ∧ t = .ref D
section
variable {X : Cx} {pins : List (Addr × Obj)} {σ : L2.St} {H : Hp} {s : Shared}
theorem kit_ofE {x : V} {u t : Value} (I : Inv X pins σ H s) (rx : RelV x u) (ty : TyE X.K H x t) : ∃ G : Heap → Prop, PySem.W.KitX X.K u t G ∧ G s.heap ∧ u ≠ .builtin "__main__.__loader__#opaque" := by
  rcases ty with ty | ⟨a, D, rfl, e, c, rfl⟩
  · exact kit_of I rx ty
  · obtain rfl : u = Value.ref a := rx
    obtain ⟨⟨ob, fs, e1, e2, e3⟩, _, _⟩ := I.hok a _ e
    obtain ⟨oc, od, dt, sl⟩ := ob
    obtain ⟨z1, z2⟩ := e2
    dsimp only at z1 z2 e3
    subst z1 z2 e3
    exact ⟨_, PySem.W.handS_kitx_exc c.hg c.hk c.hs c.hd c.ha c.hn c.ht c.hm, ⟨e1, rfl, rfl, trivial⟩, fun z => nomatch z⟩
end
section
variable {X : Cx}
def rIsE1 (K : PySem.W.Frag) : List V → Hp → VK → Prop := fun xs H Q => ∃ (x c : V) (t u : Value) (b : Bool), xs = [x, c] ∧ ClsV c u ∧ TyE K H x t ∧ PySem.W.kitOne K t u = some b ∧ Q (.bl b) H
def rIsET (K : PySem.W.Frag) : List V → Hp → VK → Prop := fun xs H Q => ∃ (x : V) (tp : Addr) (cs : List V) (t : Value) (us : List Value) (b : Bool), xs = [x, .ref tp] ∧ H tp = some (.tup cs) ∧ Paired ClsV cs us ∧ TyE K H x t ∧ PySem.W.kitAny K t us = some b ∧ Q (.bl b) H
theorem call_isE1 : CallR X (.builtin "isinstance") (rIsE1 X.K) := by
  intro pins s σ H xs us Q I r ⟨x, c, t, u, b, e0, k, ty, e, q⟩
  subst e0
  obtain ⟨v1, v2, rfl, r1, r2⟩ := vals2 r
  obtain rfl := k.eq r2
  obtain ⟨G, Z, p, hx⟩ := kit_ofE I r1 ty
  exact PySem.W.kia_one Z I.kIn p e hx fun n => ⟨.bl b, H, I.tok n, rfl, q⟩
theorem call_isET : CallR X (.builtin "isinstance") (rIsET X.K) := by
  intro pins s σ H xs us Q I r ⟨x, tp, cs, t, ws, b, e0, hT, k, ty, e, q⟩
  subst e0
  obtain ⟨v1, v2, rfl, r1, r2⟩ := vals2 r
  obtain rfl : v2 = Value.ref tp := r2
  obtain ⟨G, Z, p, hx⟩ := kit_ofE I r1 ty
  obtain ⟨_, its, rv, ob, e1, e2, n, e3⟩ := I.hok tp _ hT
  obtain rfl := ClsV.all k rv
  obtain ⟨oc, od, dt, sl⟩ := ob
  dsimp only at e2 e3
  subst e2 e3
  exact PySem.W.kia_tup Z I.kIn p e1 e hx fun m => ⟨.bl b, H, I.tok m, rfl, q⟩
end
/-- what the table says, the classes say -/
def IsOk (K : PySem.W.Frag) (mg : Str → Option Value) (f : Value → Option Bool) (tab : List (Str × Bool)) : Prop := ∀ p ∈ tab, ∀ D, mg p.1 = some (.ref D) → ExcC K D ∧ f (.ref D) = some p.2
theorem isOk_nil {K : PySem.W.Frag} {mg : Str → Option Value} {f : Value → Option Bool} : IsOk K mg f [] := fun p hp => nomatch hp
theorem isOk_cons {K : PySem.W.Frag} {mg : Str → Option Value} {f : Value → Option Bool} {tab : List (Str × Bool)} {c : Str} {b : Bool} {C : Addr} (g : mg c = some (.ref C)) (e : ExcC K C) (h : f (.ref C) = some b) (t : IsOk K mg f tab) : IsOk K mg f ((c, b) :: tab) := fun p hp D hD => by
  rcases List.mem_cons.mp hp with rfl | hp
  · rw [show mg c = some (.ref D) from hD] at g
    cases g
    exact ⟨e, h⟩
  · exact t p hp D hD
/-- a row of classes -/
structure ClsA (X : Cx) (es : List Expr) (vs : List V) (us : List Value) : Prop where
  run : PA X es (fun σ H Q => Q vs H)
  cls : Paired ClsV vs us
section
variable {X : Cx} {W : WX} {a ce : Expr} {es : List Expr} {vs : List V} {us : List Value} {cv : V} {u : Value} {ra : E} {p pos tpos : Pos} {k : Nat} {tab : List (Str × Bool)}
theorem clsA_nil : ClsA X [] [] [] := ⟨PA.imp pa_nil fun σ H Q q => q, .nil⟩
theorem clsA_cons (h : PE X ce (tC cv)) (c : ClsV cv u) (t : ClsA X es vs us) (he : starEach (ce :: es) X.env = (false, eval ce X.env) :: starEach es X.env := by rfl) : ClsA X (ce :: es) (cv :: vs) (u :: us) :=
  ⟨PA.imp (pa_cons h t.run he) fun σ H Q q => q, .cons c t.cls⟩
theorem isX_ok {K : PySem.W.Frag} {H : Hp} {ρ : List Addr} {S : Sto} {f : Value → Option Bool} {d : D} {v : V} {Wx : XW} {kk : D → Sto → List Addr → Hp → Prop} (rv : DR K H ρ d v) (ok : IsOk K Nfo.mg f tab) (hn : f (.type "NoneType") = some false) (h : Post K Nfo.mg Wx S ρ H (fIsX tab d S) kk) :
    ∃ (t : Value) (b : Bool), TyE K H v t ∧ f t = some b ∧ Post K Nfo.mg Wx S ρ H (R.ok (D.p (.bool b)) S) kk ∧ ∀ H', (∀ b o, H b = some o → H' b = some o) → TyE K H' v t := by
  cases d with
  | exn e =>
    cases rv with
    | @exn _ a cls dd h1 h2 =>
      replace h : Post K Nfo.mg Wx S ρ H ((match tabGet tab e.c with | some b => (match e.pay with | none => ret (.p (.bool b)) | some _ => no) | none => no : M D) S) kk := h
      cases q : tabGet tab e.c with
      | none => rw [q] at h; exact h.elim
      | some b =>
        rw [q] at h
        obtain ⟨C, g, rfl, hp⟩ := h2
        cases q2 : e.pay with
        | some y => rw [q2] at h; exact h.elim
        | none =>
          rw [q2] at h hp
          obtain rfl : dd = none := hp
          unfold tabGet at q
          cases q3 : tab.find? fun p => decide (p.1 = e.c) with
          | none => rw [q3] at q; cases q
          | some z =>
            rw [q3] at q
            cases q
            have m := List.mem_of_find?_eq_some q3
            have ez : z.1 = e.c := by
              have := List.find?_some q3
              simpa using this
            obtain ⟨ec, ef⟩ := ok z m C (by rw [ez]; exact g)
            exact ⟨_, _, .inr ⟨a, C, rfl, h1, ec, rfl⟩, ef, h, fun H' st => .inr ⟨a, C, rfl, st _ _ h1, ec, rfl⟩⟩
  | p x =>
    cases x with
    | none =>
      cases rv with
      | p rv =>
        cases rv
        exact ⟨_, _, .inl (.base .non), hn, h, fun H' _ => .inl (.base .non)⟩
    | _ => exact h.elim
  | _ => exact h.elim
theorem g_isX (hmg : X.mg = Nfo.mg) (hg : Gl X "isinstance" := by rfl) (hm : X.mg "isinstance" = none) (hc : PE X ce (tC cv)) (cl : ClsV cv u) (hn : PySem.W.kitOne X.K (.type "NoneType") u = some false) (ok : IsOk X.K Nfo.mg (fun t => PySem.W.kitOne X.K t u) tab) (ha : GE X W a ra)
    (he : starEach (a :: [ce]) X.env = (false, eval a X.env) :: starEach [ce] X.env := by rfl) (he2 : starEach [ce] X.env = (false, eval ce X.env) :: starEach [] X.env := by rfl) (hpl : (backTo pos (starEach [ce] X.env)).any (·.1) = false := by rfl) :
    GE X W (.Call (.Name "isinstance" p) [a, ce] [] pos) (eIsX tab ra) := by
  refine PE.imp (pe_callB call_isE1 hg hm (by decide +kernel) (pa_cons ha (pa_cons hc pa_nil he2) he) (by decide) (by decide) he hpl) fun σ H Q q => ?_
  refine one (f := fIsX tab) (r := fun v H Q => rIsE1 X.K [v, cv] H Q) q fun d S ρ H2 v ss rv h => ?_
  rw [hmg] at h
  obtain ⟨t, b, ty, ef, h, _⟩ := isX_ok rv ok hn h
  exact ⟨v, cv, t, u, b, rfl, cl, ty, ef, h H2 ρ Ext.refl ss _ (.p (.bl _))⟩
theorem g_isXT (hmg : X.mg = Nfo.mg) (hg : Gl X "isinstance" := by rfl) (hm : X.mg "isinstance" = none) (hc : ClsA X es vs us) (hl : vs.length ≤ 1000) (hn : PySem.W.kitAny X.K (.type "NoneType") us = some false) (ok : IsOk X.K Nfo.mg (fun t => PySem.W.kitAny X.K t us) tab) (ha : GE X W a ra)
    (he : starEach (a :: [.Tuple es k tpos]) X.env = (false, eval a X.env) :: starEach [.Tuple es k tpos] X.env := by rfl) (he2 : starEach [.Tuple es k tpos] X.env = (false, eval (.Tuple es k tpos) X.env) :: starEach [] X.env := by rfl) (hpl : (backTo pos (starEach [.Tuple es k tpos] X.env)).any (·.1) = false := by rfl) :
    GE X W (.Call (.Name "isinstance" p) [a, .Tuple es k tpos] [] pos) (eIsX tab ra) := by
  refine PE.imp (pe_callB call_isET hg hm (by decide +kernel) (pa_cons ha (pa_cons (pe_tup hc.run) pa_nil he2) he) (by decide) (by decide) he hpl) fun σ H Q q => ?_
  refine one (f := fIsX tab) (r := fun v H Q => vs.length ≤ sizeLine ∧ ∀ T, H T = none → rIsET X.K [v, .ref T] (upd H T (.tup vs)) Q) q fun d S ρ H2 v ss rv h => ?_
  rw [hmg] at h
  obtain ⟨t, b, ty, ef, h, mono⟩ := isX_ok rv ok hn h
  refine ⟨Nat.le_trans hl (by rw [sizeLine_eq]; decide), fun T hT => ?_⟩
  obtain ⟨s2, x2⟩ := ss.lay (o := .tup vs) hT
  exact ⟨v, T, vs, t, us, b, rfl, upd_same, hc.cls, mono _ fun c o e => by rw [upd_ne (ne_of_none e hT)]; exact e, ef, h _ ρ x2 s2 _ (.p (.bl _))⟩
end
end DL

namespace DL
open PySem PySem.Spec L2 PyProof.Rows
variable [Nfo]
/-! ## a try whose clause keeps the error -/
/-- the clause's class takes each of these -/
def Hits (K : PySem.W.Frag) (mg : Str → Option Value) (cv : Value) (cs : List Str) : Prop := ∀ c ∈ cs, ∀ C, mg c = some (.ref C) → PySem.W.exmOne K (.ref C) cv = some true
theorem hits_nil {K : PySem.W.Frag} {mg : Str → Option Value} {cv : Value} : Hits K mg cv [] := fun c hc => nomatch hc
theorem hits_cons {K : PySem.W.Frag} {mg : Str → Option Value} {cv : Value} {cs : List Str} {c : Str} {C : Addr} (g : mg c = some (.ref C)) (h : PySem.W.exmOne K (.ref C) cv = some true) (t : Hits K mg cv cs) : Hits K mg cv (c :: cs) := fun e he D hD => by
  rcases List.mem_cons.mp he with rfl | he
  · rw [hD] at g
    cases g
    exact h
  · exact t e he D hD
theorem SimE.unset {K : PySem.W.Frag} {H : Hp} {ρ : List Addr} {env : Env} {σ : L2.St} (s : SimE K H ρ env σ) (i : Nat) : SimE K H ρ (env.set i none) (σ.set i none) := by
  refine ⟨by simpa using s.len, fun j d h => ?_⟩
  by_cases hj : i = j
  · subst hj
    have hl : i < env.length := by
      have := (List.getElem?_eq_some_iff.mp h).1
      simpa using this
    rw [List.getElem?_set_self hl] at h
    cases h
  · rw [List.getElem?_set_ne hj] at h ⊢
    exact s.at_ j d h
section
variable {X : Cx} {W : WX} {e : Expr} {re : E} {f n m x : Str} {cv : Value} {cs : List Str} {k i j : Nat} {pf pa pm pn pq np pos pos' : Pos}
theorem gb_tryA (k i j : Nat) (hmg : X.mg = Nfo.mg) (st : X.stack = X.env :: X.outer) (fr : X.env.frame = some X.env.locals) (nd : X.N.Nodup) (nx : X.ex = []) (tk : Takes X W)
    (hk : X.N[k]? = some f) (lk : Loc X.env.scope f) (fk : X.fn f = true ∨ X.env.scope.names.lookup f = some .local) (hi : X.N[i]? = some n) (li : X.env.kindOf n = some .local) (hj : X.N[j]? = some m) (lj : Loc X.env.scope m) (fj : X.fn m = true ∨ X.env.scope.names.lookup m = some .local)
    (nm : Names X x cv) (hits : Hits X.K X.mg cv cs) (hs1 : swapsWith e (some (.Name f pf)) pa.line X.env = pure false) (hs2 : swapsWith (.Name n pn) (some (.Name m pm)) pq.line X.env = pure false)
    (hv : Vis X.env.scope n) (hd : (n == ("__debug__" : Str)) = false) (hcd : (n == ("__classdict__" : Str)) = false)
    (ha : ∀ (W' : WX) (pn : List (Addr × Obj)) (xe : Value → Shared → Prop), Takes (X.tr pn xe) W' → GE (X.tr pn xe) W' e re) :
    GB X W (.Try [.Assign [.Name f pf] e pa] [.ExceptHandler (some (.Name x np)) (some n) [.Assign [.Name m pm] (.Name n pn) pq] pos'] [] [] pos) (sTryA cs (some k) i j re) := by
  refine PS.imp (ps_try_keep (i := i) (tb := fun W' => tAsg (rE X.K X.mg W' re) (L2.gName k)) (ts := fun _ _ _ => tAsg (tVar i) (L2.gName j)) st fr nd hi li nx nm tk
    (fun W' pn xe tk' _ => pss_one (ps_set (X := X.tr pn xe) nd hk lk (ha W' pn xe tk') hs1 fk)) fun a oe cls d pn _ _ => pss_one (ps_set (X := X.suite a ((a, oe) :: pn)) nd hj lj (pe_var hi hv hd hcd) hs2 fj)) fun D σ H q => ?_
  obtain ⟨env, S, ρ, se, ss, h⟩ := q
  refine ⟨env, S, ρ, se, ss, ?_⟩
  unfold sTryA at h
  cases q : re env S with
  | no => rw [q] at h; exact h.elim
  | ok d S' =>
    rw [q] at h
    exact fun H' ρ' x1 s1 v rv => h H' ρ' x1 s1 _ ((se.mono x1.st x1.pre).set k rv)
  | ex er S' =>
    rw [q] at h
    by_cases hc : er.c ∈ cs ∧ i < env.length
    · replace h : Post X.K X.mg _ S ρ H (if er.c ∈ cs ∧ i < env.length then R.ok (Fl.nx (((env.set i (some (.exn er))).set j (some (.exn er))).set i none)) S' else R.no) _ := h
      rw [if_pos hc] at h
      intro H' ρ' cls d x1 s1 er2
      obtain ⟨C, g, rfl, hp⟩ := id er2
      refine ⟨true, hits _ hc.1 C g, fun _ a na => ?_, fun z => nomatch z⟩
      obtain ⟨s2, x2⟩ := s1.lay (o := ExcT a (.ref C) d) na
      have il : i < σ.length := by rw [← se.len]; exact hc.2
      refine ⟨.ref a, List.getElem?_set_self il, ?_⟩
      have dr : DR X.K (upd H' a (ExcT a (.ref C) d)) ρ' (.exn er) (.ref a) := .exn upd_same (by rw [← hmg]; exact er2.mono x2.st)
      have e1 := (se.mono (x1.st.trans x2.st) x1.pre).set i dr
      exact h _ ρ' (x1.trans x2) s2 _ ((e1.set j dr).unset i)
    · replace h : Post X.K X.mg _ S ρ H (if er.c ∈ cs ∧ i < env.length then R.ok (Fl.nx (((env.set i (some (.exn er))).set j (some (.exn er))).set i none)) S' else R.no) _ := h
      rw [if_neg hc] at h
      exact h.elim
end
end DL

namespace DL
open PySem PySem.Spec L2 PyProof.Rows LamX
variable [Nfo]
/-! ## a lambda handed to a def -/
section
variable {X : Cx} {pins : List (Addr × Obj)} {σ : L2.St} {H : Hp} {s : Shared}
/-- the def's context -/
abbrev gCx (X : Cx) (s : Shared) (H : Hp) (N : List Str) (q : Str) (sc : Scope) (g : Addr) (cd : Value) : Cx := cxOf C8.CX0 X.prog X.w X.K X.mg X.base N q sc g cd X.A X.stack s H C8.E0
theorem act_g {N : List Str} {q : Str} {sc scope : Scope} {g f c' : Addr} {cd pm ctv : Value} {params : Arguments} {body : Expr} {k : Nat} {a : Str} {pn : List (Addr × Obj)} {xe : Value → Shared → Prop} {W : WX} {tb : XK → TE} {p1 p2 : Pos}
    (I : Inv X pins σ H s) (L : LamS X.env.scope scope) (ob : s.heap.get? f = some (PySem.W.kla_obj "<lambda>" (X.env.qual ++ "<lambda>") params body scope (cloFrom X.env.cells scope.names []) pm c' ctv)) (nt : H f = none) (nf : f ∉ frs X.stack)
    (bd : bindArgs (PySem.W.kla_fn "<lambda>" (X.env.qual ++ "<lambda>") params body scope (cloFrom X.env.cells scope.names []) pm (.ref c') ctv) ⟨[], []⟩ = pure [])
    (tk : Takes ((gCx X s H N q sc g cd).tr pn xe) W) (room : Room (k + 1) (gCx X s H N q sc g cd).A)
    (run : ∀ (E : XK) (outer : List PySem.Env) (s' : Shared) (H' : Hp), Room k ((gCx X s H N q sc g cd).A.deeper (lamEnv X scope s'.heap.objs.size f c')) → PE (lamCx X (gCx X s H N q sc g cd).A outer s' H' E scope f c') body (tb E))
    (at0 : N[0]? = some a) (vis : Vis sc a) (db : (a == ("__debug__" : Str)) = false) (cc : (a == ("__classdict__" : Str)) = false) :
    PE ((gCx X s H N q sc g cd).tr pn xe) (.Call (.Name a p1) [] [] p2) (fun σZ HZ Q => σZ[0]? = some (some (.ref f)) ∧ HZ c' = some (CodeO c' (X.env.qual ++ "<lambda>")) ∧ tb (fun c d H' => W c d σZ H') σ HZ Q) := by
  refine ⟨fun pz sz σz Hz Q Iz ⟨h0, hc, ht⟩ => ?_⟩
  have name := (pe_var (X := (gCx X s H N q sc g cd).tr pn xe) (pos := p1) (i := 0) at0 vis db cc).run pz sz σz Hz (fun v H1 => v = .ref f ∧ H1 = Hz) Iz ⟨.ref f, h0, rfl, rfl⟩
  refine wpAny_Call_Name_kw (thn name fun u s1 ⟨v, H1, I1, r1, ev, eH⟩ => ?_)
  subst ev eH
  obtain rfl : u = Value.ref f := r1
  have ob1 := I1.base.keep f _ ob nt nf (fun z => nomatch (show f ∈ ([] : List Addr) from z))
  refine PySem.W.callWith_F0 ⟨_, _, _, _, ob1⟩ ?_
  have un : Un (frs X.stack) [] H H1 s.heap s1.heap := I1.base
  obtain ⟨⟨oc, vs, t, e1, e2, e3⟩, _, _⟩ := I1.hok c' _ hc
  have res : codeAny (model X.prog X.w) (gCx X s H N q sc g cd).A (.call (.ref f) ⟨[], []⟩) (CR (L2.CX X.prog X.w) (gCx X s H N q sc g cd).stack X.prog X.w H1 s1 Q (fun c d H' => W c d σz H')) s1 := by
    refine PySem.W.kla_callFunE room.depth ob1 rfl L.co L.gen rfl ⟨c', oc, vs, t, rfl, e1, e2, e3⟩ ?_
    rw [bd]
    refine wpAny_pure (wpAny_newFunctionEnv (fun y hy => (L.own y hy).2) (fun y hy => absurd hy (by simp)) (fun h1 ns sb => ⟨I1.nolimit.fresh _ sb, ?_⟩) L.kind)
    show codeAny _ _ (.expr body (lamEnv X scope s1.heap.objs.size f c')) _ _
    have kept : ∀ b o, s1.heap.get? b = some o → h1.get? b = some o := fun b o e => sb.extBut b o (Nat.ne_of_lt (Heap.lt_size e)) (Heap.get?_push_of_some _ e)
    have J : Inv (lamCx X (gCx X s H N q sc g cd).A (gCx X s H N q sc g cd).stack s1 H1 (fun c d H' => W c d σz H') scope f c') [] σ H1 { s1 with heap := h1, toks := s1.toks + ([] : List (Str × Value)).length } := lam_start2 I L I1.env0 room.hd un ns kept
    refine PySem.W.kla_codeExpr (wpAny_mono ((run _ _ s1 H1 (room.deeper _)).run [] _ _ H1 Q J ht) (fun v s2 hq => ?_) fun e s2 hq => hq)
    obtain ⟨w, H2, J2, rv, q2⟩ := hq
    exact ⟨w, H2, J2.os, J2.bare, J2.base, J2.hok, rv, q2⟩
  refine wpAny_call (codeAny_mono res fun r s2 hq => ?_)
  match r, hq with
  | .error e, hq => exact passAt (X := (gCx X s H N q sc g cd).tr pn xe) tk σz pz H1 s1 e s2 I1 hq
  | .ok (.ret u), hq => exact I1.after hq
  | .ok .next, hq => exact hq.elim
  | .ok .brk, hq => exact hq.elim
  | .ok .cont, hq => exact hq.elim
/-- x(lambda: body) -/
theorem pe_lamG {T : List (Addr × Str)} {G : (XK → Hp → VK → Prop) → Hp → VK → Prop} {x a : Str} {g c P : Addr} {k : Nat} {pg : Arguments} {bg : List Stmt} {sc scope : Scope} {dV kV doc pm cd ct oc : Value} {an od : Option Addr} {osl : Array (Option Value)} {N : List Str}
    {params : Arguments} {body : Expr} {t : XK → TE} {p lpos pos : Pos} (hg : Gl X x) (hm : X.mg x = some (.ref g)) (hk : PySem.W.keepIn X.K (.ref g) = true)
    (lk : X.K.lookup g = some ⟨oc, od, .func (PySem.W.fnOf x x pg bg sc dV kV doc pm an cd ct), osl⟩) (hc : PySem.W.codeIn X.K cd x = true) (bs : L2.Binds X.K (PySem.W.fnOf x x pg bg sc dV kV doc pm an cd ct) [a] []) (fs : FnScope N [a] sc) (at0 : N[0]? = some a) (vis : Vis sc a)
    (gives : ∀ (f c' : Addr) (s : Shared) (H : Hp) (Q : VK) (tl : XK → Hp → VK → Prop), Room (k + 1) (gCx X s H N x sc g cd).A →
      (∀ (W : WX) (pn : List (Addr × Obj)) (xe : Value → Shared → Prop) (p1 p2 : Pos), Takes ((gCx X s H N x sc g cd).tr pn xe) W →
        PE ((gCx X s H N x sc g cd).tr pn xe) (.Call (.Name a p1) [] [] p2) (fun σZ HZ Q => σZ[0]? = some (some (.ref f)) ∧ HZ c' = some (CodeO c' (X.env.qual ++ "<lambda>")) ∧ tl (fun c d H' => W c d σZ H') HZ Q)) →
      H c' = some (CodeO c' (X.env.qual ++ "<lambda>")) → G tl H Q →
      ∃ t, PSs (gCx X s H N x sc g cd).nox bg t ∧ t { nx := fun _ H' => Q .non H', rt := Q } (L2.start N [.ref f]) H)
    (TB : TabB X.base X.mg c P) (hcode : X.env.code = .ref c) (hT : (P, X.env.qual ++ "<lambda>") ∈ T) (hu : ∀ p ∈ T, p.1 = P → p.2 = X.env.qual ++ "<lambda>") (hr : Room (k + 2) X.A) (L : LamS X.env.scope scope) (hdef : defaultsOf params X.env = ([], []))
    (bind0 : ∀ (q : Str) (cl : List (Str × Addr)) (pm cv ctv : Value), bindArgs (PySem.W.kla_fn "<lambda>" q params body scope cl pm cv ctv) ⟨[], []⟩ = pure [])
    (run : ∀ (A : Around) (outer : List PySem.Env) (s : Shared) (H : Hp) (E : XK) (f c' : Addr), A.guards = X.A.guards → Room k (A.deeper (lamEnv X scope s.heap.objs.size f c')) → PE (lamCx X A outer s H E scope f c') body (t E))
    (hdb : (x == ("__debug__" : Str)) = false) (hd : (a == ("__debug__" : Str)) = false) (hcd : (a == ("__classdict__" : Str)) = false) :
    PE X (.Call (.Name x p) [.Lambda params body scope lpos] [] pos) (tLam T G t) := by
  refine ⟨fun pins s σ H Q I ⟨hTab, h⟩ => wpAny_Call_Name_kw (ld_glob I hg hm ?_ hdb)⟩
  refine PySem.W.callWith_K (h₀ := X.base) I.ok.mod.kin hk ?_ (by rfl) (by rfl)
  show wpAny _ _ (spliced ((false, eval (.Lambda params body scope lpos) X.env) :: backTo pos (starEach [] X.env))) _ _ s
  have made := fun (R : Value → Shared → Prop) => lam_make2 (Q := R) (E := X.xe) (pos := lpos) (params := params) (body := body) I TB hcode hT hu hTab hdef (L.has I.ok)
  refine Calls.spliced_cons (made _ fun f c' pm2 ctv H1 s1 I1 ext tab1 ob nt nf code => Calls.spliced_nil ⟨I1.kIn, ?_⟩)
  have res : codeAny (model X.prog X.w) X.A (.call (.ref g) ⟨[.ref f], []⟩) (CR C8.CX0 X.stack X.prog X.w H1 s1 Q C8.E0) s1 := by
    refine run_ofS (N := N) (ps := [a]) (us := [.ref f]) (vs := [.ref f]) lk hc fs hr I1.env0 (bs s1 [.ref f] I1.kIn rfl) (.cons rfl .nil) rfl fun room => ?_
    obtain ⟨t1, ht1, hq1⟩ := gives f c' s1 H1 Q (fun E H2 Q2 => t E σ H2 Q2) room (fun W pn xe p1 p2 tk => act_g (tb := t) I1 L ob nt nf (bind0 _ _ _ _ _) tk room (fun E outer s2 H2 room2 => run _ outer s2 H2 E f c' rfl room2) at0 vis hd hcd) code (h H1 ext tab1)
    exact ⟨t1, ht1.nox, hq1⟩
  refine wpAny_call (codeAny_mono res fun r s2 hq => ?_)
  match r, hq with
  | .error e, hq => exact (show False from hq).elim
  | .ok (.ret u), hq => exact I1.after hq
  | .ok .next, hq => exact hq.elim
  | .ok .brk, hq => exact hq.elim
  | .ok .cont, hq => exact hq.elim
end
end DL

namespace DL
open PySem PySem.Spec L2 PyProof.Rows LamX
variable [Nfo]
/-! ## told: a def that makes something of a deed's outcome -/
section
variable {K : PySem.W.Frag} {mg : Str → Option Value} {H : Hp} {ρ : List Addr} {S : Sto}
/-- behind the making of a lambda -/
theorem after_lam {H1 : Hp} (ss : SimS K H ρ S) (x : ExtN H H1) (t : LamX.Tabs Nfo.T H1) : SimS K H1 ρ S ∧ Ext S ρ S ρ H H1 := by
  have st : Stb H H1 := fun b o e s => x b o e fun ps z => by rw [z] at s; cases s
  refine ⟨ss.at_ st (fun a l => ?_) t, List.prefix_refl _, fun b o e _ n => x b o e n, st, fun b l => .inl l⟩
  obtain ⟨o, e, _, n⟩ := ss.live_some3 l
  rw [e, x a o e n]
theorem sim_none {N : List Str} {f : Addr} (h : 0 < N.length) : SimE K H ρ (List.replicate N.length none) (L2.start N [.ref f]) := by
  refine ⟨?_, fun i d e => ?_⟩
  · unfold L2.start
    simp
    omega
  · rw [List.getElem?_replicate] at e
    split at e <;> cases e
/-- a def's end -/
def endB : Fl → M D := fun f => match f with
  | .nx _ => ret (.p .none)
  | .rt d => ret d
  | _ => no
theorem rest_ok {Wx : XW} {rr : B} {env : Env} {σ : L2.St} {Q : VK} (se : SimE K H ρ env σ) (ss : SimS K H ρ S) (h : Post K mg Wx S ρ H (bnd (hush (rr env)) endB S) (fun d _ ρ' H' => ∀ v, DR K H' ρ' d v → Q v H')) :
    rB K mg WN rr { nx := fun _ H' => Q .non H', rt := Q } σ H := by
  refine ⟨env, S, ρ, se, ss, ?_⟩
  unfold bnd hush at h
  cases q : rr env S with
  | no => simp only [q] at h; exact h.elim
  | ex e S' => simp only [q] at h; exact h.elim
  | ok fl S' =>
    simp only [q] at h
    intro H' ρ' x1 s1
    have p := Post.shift x1 h
    cases fl with
    | nx env' => exact fun σ' _ => p H' ρ' Ext.refl s1 _ (.p .non)
    | rt d => exact fun v rv => p H' ρ' Ext.refl s1 v rv
    | bk env' => exact p.elim
    | ct env' => exact p.elim
end
/-- the slots ahead of the try -/
def preS (N : List Str) (f : Addr) (t1 t2 : Nat) : L2.St := ((L2.start N [.ref f]).set t1 (some .non)).set t2 (some .non)
/-- what the def makes of the deed's reading -/
def Gtold (K : PySem.W.Frag) (mg : Str → Option Value) (N : List Str) (cv : Value) (t1 t2 k i j : Nat) (rr : B) : (XK → Hp → VK → Prop) → Hp → VK → Prop := fun tl H Q => ∀ (f p : Addr), H p = none →
  tl (fun c d H' => wKeep K cv i (fun _ _ _ => tAsg (tVar i) (L2.gName j)) (fun _ _ _ _ => False) { nx := rB K mg WN rr { nx := fun _ H' => Q .non H', rt := Q }, rt := Q } c d (preS N f t1 t2) H') (upd H p (.tup [.non, .non]))
    fun v H' => rB K mg WN rr { nx := fun _ H' => Q .non H', rt := Q } ((preS N f t1 t2).set k (some v)) H'
section
variable {X : Cx} {W : WX}
theorem g_told {x a fnm n m cx n1 n2 : Str} {g c P : Addr} {kk : Nat} {pg : Arguments} {bg rest : List Stmt} {sc scope : Scope} {dV kV doc pm cd ct oc cv : Value} {an od : Option Addr} {osl : Array (Option Value)} {N : List Str} {params : Arguments} {body : Expr} {p lpos pos : Pos} {re : E} {rr : B} {cs : List Str} {t1 t2 k i j : Nat}
    {p1 p2 p3 p4 p5 p6 p7 p8 p9 p10 p11 p12 p13 p14 p15 p16 p17 : Pos} {k1 k2 k3 k4 : Nat}
    (hbg : bg = .Assign [.Tuple [.Name n1 p1, .Name n2 p2] k1 p3] (.Tuple [.Constant .none k2 p4, .Constant .none k3 p5] k4 p6) p7 ::
      .Try [.Assign [.Name fnm p8] (.Call (.Name a p9) [] [] p10) p11] [.ExceptHandler (some (.Name cx p12)) (some n) [.Assign [.Name m p13] (.Name n p14) p15] p16] [] [] p17 :: rest)
    (hg : Gl X x) (hm : X.mg x = some (.ref g)) (hk : PySem.W.keepIn X.K (.ref g) = true)
    (lk : X.K.lookup g = some ⟨oc, od, .func (PySem.W.fnOf x x pg bg sc dV kV doc pm an cd ct), osl⟩) (hc : PySem.W.codeIn X.K cd x = true) (bs : L2.Binds X.K (PySem.W.fnOf x x pg bg sc dV kV doc pm an cd ct) [a] []) (fs : FnScope N [a] sc) (at0 : N[0]? = some a) (vis : Vis sc a)
    (e1 : N[t1]? = some n1) (e2 : N[t2]? = some n2) (ek : N[k]? = some fnm) (ei : N[i]? = some n) (ej : N[j]? = some m)
    (l1 : sc.names.lookup n1 = some .local ∨ sc.names.lookup n1 = some .cell) (l2 : sc.names.lookup n2 = some .local ∨ sc.names.lookup n2 = some .cell) (lf : sc.names.lookup fnm = some .local ∨ sc.names.lookup fnm = some .cell) (li : sc.names.lookup n = some .local) (lm : sc.names.lookup m = some .local ∨ sc.names.lookup m = some .cell)
    (gx : sc.names.lookup cx = some .globalImplicit) (mx : X.mg cx = some cv) (hits : Hits X.K X.mg cv cs)
    (hs1 : ∀ (s : Shared) (H : Hp), swapsWithSole [.Tuple [.Name n1 p1, .Name n2 p2] k1 p3] (.Tuple [.Constant .none k2 p4, .Constant .none k3 p5] k4 p6) p7.line (gCx X s H N x sc g cd).nox.env = pure false)
    (hw1 : ∀ (s : Shared) (H : Hp), swappedStores [.Tuple [.Name n1 p1, .Name n2 p2] k1 p3] (.Tuple [.Constant .none k2 p4, .Constant .none k3 p5] k4 p6) (gCx X s H N x sc g cd).nox.env = pure none) (h01 : t1 ≠ 0) (h02 : t2 ≠ 0)
    (rst : ∀ (s : Shared) (H : Hp), Room (kk + 1) (gCx X s H N x sc g cd).A → GBs (gCx X s H N x sc g cd).nox WN rest rr)
    (hmg : X.mg = Nfo.mg) (TB : TabB X.base X.mg c P) (hcode : X.env.code = .ref c) (hT : (P, X.env.qual ++ "<lambda>") ∈ Nfo.T) (hu : ∀ p ∈ Nfo.T, p.1 = P → p.2 = X.env.qual ++ "<lambda>") (hr : Room (kk + 2) X.A) (L : LamS X.env.scope scope) (hdef : defaultsOf params X.env = ([], []))
    (bind0 : ∀ (q : Str) (cl : List (Str × Addr)) (pm cv ctv : Value), bindArgs (PySem.W.kla_fn "<lambda>" q params body scope cl pm cv ctv) ⟨[], []⟩ = pure [])
    (run : ∀ (A : Around) (outer : List PySem.Env) (s : Shared) (H : Hp) (E : XK) (f c' : Addr), A.guards = X.A.guards → Room kk (A.deeper (lamEnv X scope s.heap.objs.size f c')) → GE (lamCx X A outer s H E scope f c') (fun c d _ H => E c d H) body re)
    (hdb : (x == ("__debug__" : Str)) = false := by decide) (hd : (a == ("__debug__" : Str)) = false := by decide) (hcd : (a == ("__classdict__" : Str)) = false := by decide) (hdx : (cx == ("__debug__" : Str)) = false := by decide) (hdn : (n == ("__debug__" : Str)) = false := by decide) (hcn : (n == ("__classdict__" : Str)) = false := by decide) :
    GE X W (.Call (.Name x p) [.Lambda params body scope lpos] [] pos) (eLam (told (envT N.length t1 t2) cs k i j rr) re) := by
  have N0 : 0 < N.length := (List.getElem?_eq_some_iff.mp at0).1
  have key := pe_lamG (X := X) (T := Nfo.T) (G := Gtold X.K X.mg N cv t1 t2 k i j rr) (t := fun E => rE X.K X.mg (fun c d _ H => E c d H) re) (p := p) (lpos := lpos) (pos := pos) (params := params) (body := body) (scope := scope) hg hm hk lk hc bs fs at0 vis (fun f c' s H Q tl room act code hG => ?_) TB hcode hT hu hr L hdef bind0 run hdb hd hcd
  · refine PE.imp key fun σ H Q h => ?_
    obtain ⟨env, S, ρ, se, ss, h⟩ := h
    refine ⟨ss.tab, fun H1 ext tab1 f q hq => ?_⟩
    obtain ⟨s1, x1⟩ := after_lam ss ext tab1
    obtain ⟨s2, x2⟩ := s1.lay (o := .tup [.non, .non]) hq
    have x3 := x1.trans x2
    refine ⟨env, S, ρ, se.mono x3.st x3.pre, s2, ?_⟩
    have sp : ∀ {H' : Hp} {ρ' : List Addr}, SimE X.K H' ρ' (envT N.length t1 t2) (preS N f t1 t2) := fun {H' ρ'} => ((sim_none N0).set t1 (.p .non)).set t2 (.p .non)
    have h' := Post.shift x3 h
    replace h' : Post X.K X.mg _ S ρ _ (told (envT N.length t1 t2) cs k i j rr (re env) S) _ := h'
    unfold told at h'
    cases q0 : re env S with
    | no => rw [q0] at h'; exact h'.elim
    | ok d S' =>
      rw [q0] at h'
      intro H' ρ' x4 s4 v rv
      exact rest_ok (sp.set k rv) s4 (Post.shift x4 h')
    | ex er S' =>
      rw [q0] at h'
      replace h' : Post X.K X.mg _ S ρ _ (if er.c ∈ cs ∧ i < (envT N.length t1 t2).length then bnd (hush (rr ((((envT N.length t1 t2).set i (some (.exn er))).set j (some (.exn er))).set i none))) endB S' else R.no) _ := h'
      by_cases hc2 : er.c ∈ cs ∧ i < (envT N.length t1 t2).length
      · rw [if_pos hc2] at h'
        intro H' ρ' cls d x4 s4 er2
        obtain ⟨C, gC, rfl, hp⟩ := id er2
        refine ⟨true, hits _ hc2.1 C gC, fun _ b nb => ?_, fun z => nomatch z⟩
        obtain ⟨s5, x5⟩ := s4.lay (o := ExcT b (.ref C) d) nb
        have il : i < (preS N f t1 t2).length := by rw [← (sp (H' := H') (ρ' := ρ')).len]; exact hc2.2
        refine ⟨.ref b, List.getElem?_set_self il, ?_⟩
        have dr : DR X.K (upd H' b (ExcT b (.ref C) d)) ρ' (.exn er) (.ref b) := .exn upd_same (by rw [← hmg]; exact er2.mono x5.st)
        have y := (((sp (H' := upd H' b (ExcT b (.ref C) d)) (ρ' := ρ')).set i dr).set j dr).unset i
        exact rest_ok y s5 (Post.shift (x4.trans x5) h')
      · rw [if_neg hc2] at h'
        exact h'.elim
  · -- the def
    subst hbg
    have Z := (gCx X s H N x sc g cd).nox
    have isl : ∀ {y : Str}, sc.names.lookup y = some .local ∨ sc.names.lookup y = some .cell → Loc sc y := fun h => h
    have r := rst s H room
    have h1 : PS (gCx X s H N x sc g cd).nox (.Assign [.Tuple [.Name n1 p1, .Name n2 p2] k1 p3] (.Tuple [.Constant .none k2 p4, .Constant .none k3 p5] k4 p6) p7) _ :=
      ps_asg (pe_tup (pa_cons pe_non (pa_cons pe_non pa_nil))) (pg_tup (n := 2) rfl (pgs_cons (pg_name fs.nd e1 (isl l1) (.inl rfl)) (pgs_cons (pg_name fs.nd e2 (isl l2) (.inl rfl)) pgs_nil))) (hs1 s H) (hw1 s H)
    have h2 := ps_try_keep (X := (gCx X s H N x sc g cd).nox) (i := i) (np := p12) (pos := p17) (pos' := p16) (c := cv) (Wout := fun _ _ _ _ => False) (tb := fun W' => tAsg (fun σZ HZ Q => σZ[0]? = some (some (.ref f)) ∧ HZ c' = some (CodeO c' (X.env.qual ++ "<lambda>")) ∧ tl (fun c d H' => W' c d σZ H') HZ Q) (L2.gName k)) (ts := fun _ _ _ => tAsg (tVar i) (L2.gName j)) rfl rfl fs.nd ei li rfl ⟨gx, hdx, .inl mx⟩ takesN
      (fun W' pn xe tk' _ => pss_one (ps_set (X := (gCx X s H N x sc g cd).tr pn xe) (pos := p11) (pos' := p8) fs.nd ek (isl lf) (act W' pn xe p9 p10 tk') rfl (.inl rfl))) fun b oe cls d pn _ _ => pss_one (ps_set (X := ((gCx X s H N x sc g cd).nox).suite b ((b, oe) :: pn)) (pos := p15) (pos' := p13) fs.nd ej (isl lm) (pe_var (pos := p14) ei (.inl li) hdn hcn) rfl (.inl rfl))
    refine ⟨_, pss_cons h1 (pss_cons h2 r), ?_⟩
    refine ⟨by decide, fun q hq => ⟨q, [.non, .non], rfl, SqT.of upd_same, rfl, .non, [.non], rfl, .non, [], rfl, rfl, ?_⟩⟩
    have g0 := hG f q hq
    refine ⟨?_, ?_, g0⟩
    · rw [List.getElem?_set_ne h02, List.getElem?_set_ne h01]
      rfl
    · rw [upd_ne (ne_of_none code hq)]; exact code
end
end DL

namespace DL
open PySem PySem.Spec L2 PyProof.Rows LamX
/-! ## the end where defs hold lambdas -/
/-- a def whose code object lies at c -/
structure FunC (K : PySem.W.Frag) (x : Str) (st : Stmt) (f : Addr) (fd : FuncData) (c : Addr) : Prop where
  ex : ∃ oc od kV doc pm an ct osl, fd = PySem.W.fnOf x x (defArgs st) (defBody st) (defScope st) .none kV doc pm an (.ref c) ct ∧
    K.lookup f = some ⟨oc, od, .func (PySem.W.fnOf x x (defArgs st) (defBody st) (defScope st) .none kV doc pm an (.ref c) ct), osl⟩ ∧ PySem.W.codeIn K (.ref c) x = true
  kp : PySem.W.keepIn K (.ref f) = true
/-- what the top has laid for a def: its code object, its table, empty -/
structure TabF (h : Heap) (K : PySem.W.Frag) (c P : Addr) : Prop where
  tab : h.get? P = some { cls := .none, data := .fields #[] }
  out : K.lookup P = none
  code : PySem.W.CodeHd h c P
variable [Nfo]
theorem law_endT {P : Program} {w : World} {K : PySem.W.Frag} {mg mb : Str → Option Value} {k : Nat} {fa a : Addr} {cs : List (Addr × Addr)} {fd : FuncData} {x : Str} {F : List D → M D} {s1 : Shared} {us : List Value} {ns : List Int} (kin : K.In s1.heap) (gns : s1.heap.Ns mainGlobals mg) (bns : s1.heap.Ns builtinsNs mb)
    (bbs : ∀ z : Str, z ≠ "__name__" → mb z = bootBuiltins z) (nolim : s1.heap.NoLimit) (gens : s1.gens = #[]) (tabs : ∀ p ∈ cs, TabF s1.heap K p.1 p.2)
    (bm : ∃ (m : Addr) (ob : Obj), mg "__builtins__" = some (.ref m) ∧ m ≠ builtinsNs ∧ s1.heap.get? m = some ob ∧ ob.cls = .type "module" ∧ ob.dict = some builtinsNs ∧ ob.data = .plain)
    (at_ : s1.heap.get? a = some { cls := .type "list", data := .seq us.toArray }) (ui : IntsAre us ns) (un : ns.length ≤ 63) (room : Room k callerA)
    (fn : ∀ bs : Heap, K.In bs → bs.Ns mainGlobals mg → (∀ p ∈ cs, TabB bs mg p.1 p.2) → FnD P w K mg bs k fa fd [x] F) (bnd1 : ∀ (s : Shared) (u : Value), BindsTo s fd ⟨[u], []⟩ [(x, u)]) (hF : lawP F) (hT : ∀ p ∈ Nfo.T, p.1 ∈ cs.map (·.2)) :
    codeAny (model P w) callerA (.call (.ref fa) ⟨[.ref a], []⟩) (fun r s2 => r = .ok (.ret (.bool true)) ∧ OldK s1.heap s2.heap ∧ s2.os = s1.os ∧ AllBare s2.gens) s1 := by
  have rel := ints_rel ui
  have ul := ui.length
  have line : ns.length ≤ sizeLine := Nat.le_trans un (by rw [sizeLine_eq]; decide)
  have here : ∀ b, b ∈ cs.map (·.2) → s1.heap.get? b = some { cls := .none, data := .fields #[] } := fun b hb => by
    obtain ⟨p, hp, rfl⟩ := List.mem_map.mp hb
    exact (tabs p hp).tab
  have mem : ∀ p ∈ cs, p.2 ∈ cs.map (·.2) := fun p hp => List.mem_map.mpr ⟨p, hp, rfl⟩
  have an : a ∉ cs.map (·.2) := fun z => by
    have q := here a z
    rw [at_] at q
    cases q
  suffices main : ∀ G : Hp, (∀ b, G b ≠ none → b = a ∨ b ∈ cs.map (·.2)) → (∀ b, G b = none ∨ b ∈ cs.map (·.2) ∨ ∃ o xs, G b = some (.frz o (.lst xs))) → (∀ b ∈ cs.map (·.2), G b = some (.tbl #[])) → Fz K G a (ns.map V.int) → HOk P w G s1.heap → (G a ≠ none → K.lookup a = none) →
      codeAny (model P w) callerA (.call (.ref fa) ⟨[.ref a], []⟩) (fun r s2 => r = .ok (.ret (.bool true)) ∧ OldK s1.heap s2.heap ∧ s2.os = s1.os ∧ AllBare s2.gens) s1 by
    cases hk : K.lookup a with
    | some o =>
      have e := kin a o hk
      rw [at_] at e
      injection e with e
      subst e
      refine main (fun b => if b ∈ cs.map (·.2) then some (.tbl #[]) else none) (fun b z => ?_) (fun b => ?_) (fun b hb => if_pos hb) (.inr ⟨_, us.toArray, _, hk, rfl, rfl, rfl, by rw [List.size_toArray, ul]; exact line, by simpa using rel⟩) (fun b u z => ?_) fun z => absurd (if_neg an) z
      · by_cases hb : b ∈ cs.map (·.2)
        · exact .inr hb
        · exact absurd (if_neg hb) z
      · by_cases hb : b ∈ cs.map (·.2)
        · exact .inr (.inl hb)
        · exact .inl (if_neg hb)
      · by_cases hb : b ∈ cs.map (·.2)
        · rw [show u = .tbl #[] from (Option.some.inj ((if_pos hb).symm.trans z)).symm]
          exact here b hb
        · exact absurd ((if_neg hb).symm.trans z) (fun e => nomatch e)
    | none =>
      refine main (fun b => if b ∈ cs.map (·.2) then some (.tbl #[]) else if b = a then some (.frz { cls := .type "list", data := .seq us.toArray } (.lst (ns.map V.int))) else none) (fun b z => ?_) (fun b => ?_) (fun b hb => if_pos hb) (.inl ⟨_, (if_neg an).trans (if_pos rfl)⟩) (fun b u z => ?_) fun _ => hk
      · by_cases hb : b ∈ cs.map (·.2)
        · exact .inr hb
        · by_cases hc : b = a
          · exact .inl hc
          · exact absurd ((if_neg hb).trans (if_neg hc)) z
      · by_cases hb : b ∈ cs.map (·.2)
        · exact .inr (.inl hb)
        · by_cases hc : b = a
          · exact .inr (.inr ⟨_, _, (if_neg hb).trans (if_pos hc)⟩)
          · exact .inl ((if_neg hb).trans (if_neg hc))
      · by_cases hb : b ∈ cs.map (·.2)
        · rw [show u = .tbl #[] from (Option.some.inj ((if_pos hb).symm.trans z)).symm]
          exact here b hb
        · by_cases hc : b = a
          · rw [show u = .frz { cls := .type "list", data := .seq us.toArray } (.lst (ns.map V.int)) from (Option.some.inj (((if_neg hb).trans (if_pos hc)).symm.trans z)).symm, hc]
            exact ⟨at_, by rw [List.length_map]; exact line, us, _, rel, at_⟩
          · exact absurd (((if_neg hb).trans (if_neg hc)).symm.trans z) (fun e => nomatch e)
  intro G one shape tabG fz hok away
  have low : ∀ {b : Addr} {o : Obj}, s1.heap.get? b = some o → G b = none → (hidT s1.heap G).get? b = some o := fun e n => hidT_get e n
  -- what is neither the script nor a table is not tracked
  have plain : ∀ {b : Addr} {o : Obj}, s1.heap.get? b = some o → (∀ vs n, o.data ≠ .seq vs n) → o.data ≠ .fields #[] → G b = none := fun {b o} e h1 h2 => by
    apply Classical.byContradiction
    intro z
    rcases one b z with rfl | q
    · rw [at_] at e
      cases e
      exact h1 _ _ rfl
    · rw [here b q] at e
      cases e
      exact h2 rfl
  have dicts : ∀ {b : Addr} {o : Obj} {es : Array DictEntry} {ep : Nat}, s1.heap.get? b = some o → o.data = .dict es ep → G b = none := fun {b o es ep} e d => plain e (fun _ _ z => by rw [d] at z; cases z) (fun z => by rw [d] at z; cases z)
  have names : ∀ {b : Addr} {m : Str → Option Value}, s1.heap.Ns b m → (hidT s1.heap G).Ns b m := fun {b m} z => by
    obtain ⟨o, es, ep, e, d, r⟩ := z
    exact ⟨o, es, ep, low e (dicts e d), d, r⟩
  have inb : K.In (hidT s1.heap G) := fun b o e => low (kin b o e) (by
    apply Classical.byContradiction
    intro z
    rcases one b z with rfl | q
    · rw [away z] at e
      cases e
    · obtain ⟨p, hp, rfl⟩ := List.mem_map.mp q
      rw [(tabs p hp).out] at e
      cases e)
  have mod : Mod K mg (hidT s1.heap G) := by
    obtain ⟨mc, c1, c2⟩ := nolim
    exact ⟨inb, names gns, ⟨mb, names bns, bbs⟩, mc, names c1, c2⟩
  have tb : ∀ p ∈ cs, TabB (hidT s1.heap G) mg p.1 p.2 := fun p hp => by
    have e0 := (tabs p hp).tab
    refine ⟨?_, ?_, fun z => ?_⟩
    · obtain ⟨o, vs, file, tf, flags, tg, inF, text, tt, q1, r1, r2, r3, rr⟩ := (tabs p hp).code
      refine ⟨o, vs, file, tf, flags, tg, inF, text, tt, low q1 (plain q1 (fun _ _ z => ?_) fun z => ?_), r1, r2, r3, rr⟩
      · rw [r2] at z; cases z
      · rw [r2] at z
        cases z
        simp at r3
    · obtain ⟨m, ob, b1, b2, b3, b4, b5, b6⟩ := bm
      refine ⟨m, ob, b1, b2, fun q => ?_, fun q => ?_, low b3 (plain b3 (fun _ _ z => ?_) fun z => ?_), b4, b5, b6⟩
      · obtain ⟨o, es, ep, e, hd, _⟩ := gns
        rw [q, e] at b3
        cases b3
        rw [hd] at b6
        cases b6
      · rw [q, e0] at b3
        cases b3
        cases b6
      · rw [b6] at z; cases z
      · rw [b6] at z; cases z
    · obtain ⟨o, es, ep, e, hd, _⟩ := gns
      rw [z, e0] at e
      cases e
      cases hd
  have env0 : Env0 P w K mg (hidT s1.heap G) callerA [] s1 G := ⟨rfl, mod, fun b o e => of_hidT e, Nat.le_of_eq (hidT_size _ _), trivial, fun b hb => absurd (show b ∈ ([] : List Addr) from hb) (by simp), hok, .of_eq gens⟩
  obtain ⟨S, hS⟩ := hF ns un
  have go := (fn _ inb (names gns) tb).run callerA [] s1 G ⟨[.ref a], []⟩ [.ref a] [.ref a] [.p (.list (ns.map .int))] [] [] (fun v _ => v = .bl true) (fun _ _ _ => False) room rfl env0 (bnd1 s1 (.ref a)) (.cons rfl .nil)
    (.cons (.p (.lst fz (ints_dv ns))) .nil) (simS_nil fun p hp => TabS.nil (tabG _ (hT p hp))) (by
      rw [hS]
      intro H2 ρ2 x2 s2 v rv
      cases rv with
      | p rv => cases rv; rfl)
  refine codeAny_mono go fun r s2 h => ?_
  match r, h with
  | .error e, h => obtain ⟨_, _, _, _, _, _, _, _, _, _, _, _, z⟩ := h; exact z.elim
  | .ok .next, h => exact h.elim
  | .ok .brk, h => exact h.elim
  | .ok .cont, h => exact h.elim
  | .ok (.ret u), h =>
    obtain ⟨v, H2, os, bare, un2, hok2, ru, q⟩ := h
    have q2 : v = .bl true := q
    subst q2
    obtain rfl : u = Value.bool true := ru
    have keep : ∀ b o, b ∉ cs.map (·.2) → s1.heap.get? b = some o → s2.heap.get? b = some o := fun b o nb e => by
      rcases shape b with z | z | ⟨ob, xs, z⟩
      · exact un2.keep b o e z (by intro z; exact absurd (show b ∈ ([] : List Addr) from z) (by simp)) (by simp)
      · exact absurd z nb
      · have f1 := (hok b _ z).1
        rw [e] at f1
        cases f1
        exact (hok2 b _ (un2.frzs b o _ z)).1
    have grown : ∀ p ∈ cs, ∃ more : Array Value, s2.heap.get? p.2 = some { cls := .none, data := .fields more } := fun p hp => by
      obtain ⟨more, z⟩ := un2.tbls p.2 #[] (tabG _ (mem p hp))
      exact ⟨_, hok2 p.2 _ z⟩
    refine ⟨rfl, ⟨fun b o e => ?_, fun b o e => ?_⟩, os, bare⟩
    · by_cases hb : b ∈ cs.map (·.2)
      · obtain ⟨p, hp, rfl⟩ := List.mem_map.mp hb
        obtain ⟨more, hm⟩ := grown p hp
        have e0 := (tabs p hp).tab
        rw [e0] at e
        cases e
        exact .inr (.inl ⟨((tabs p hp).code.tab e0).isCodeTable, rfl, #[], more, rfl, by rw [Array.empty_append]; exact hm⟩)
      · exact .inl (keep b o hb e)
    · by_cases hb : b ∈ cs.map (·.2)
      · obtain ⟨p, hp, rfl⟩ := List.mem_map.mp hb
        obtain ⟨more, hm⟩ := grown p hp
        exact ⟨_, hm⟩
      · exact ⟨o, keep b o hb e⟩
section
variable {P : Program} {w : World} {K : PySem.W.Frag} {mg : Str → Option Value} {base : Heap}
/-- a def whose code object is known, by the reading of its body -/
theorem fnD_ofC {k : Nat} {f c : Addr} {qual : Str} {st : Stmt} {fd : FuncData} {N ps : List Str} {b : B} {m n : Nat} (F : FunC K qual st f fd c) (sc : FnScope N ps (defScope st)) (hm : ps.length = m) (hn : N.length = n)
    (hb : ∀ (A : Around) (oes : List PySem.Env) (s0 : Shared) (H : Hp) (Wx : XW), A.guards = some [] → Room k (A.deeper (envOfC qual (defScope st) s0.heap.objs.size f (.ref c))) →
      GBs (cxOf (L2.CX P w) P w K mg base N qual (defScope st) f (.ref c) A oes s0 H Wx) (WB Wx) (defBody st) b) : FnD P w K mg base (k + 1) f fd ps (DL.body m n b) := by
  subst hm hn
  obtain ⟨oc, od, kV, doc, pm, an, ct, osl, rfl, lk, hcd⟩ := F.ex
  refine ⟨fun ds S z => by show (if ds.length = ps.length then _ else no) S = _; rw [if_neg z]; rfl, fun A oes s0 H as us vs ds ρ S Q Wx room gd e0 bnds rv rd ss post => ?_⟩
  obtain ⟨hl, post⟩ : ds.length = ps.length ∧ Post K mg Wx S ρ H (bnd (b (DL.start N.length ds)) (fun f => match f with | .nx _ => ret (.p .none) | .rt d => ret d | _ => no) S) (fun d _ ρ' H' => ∀ v, DR K H' ρ' d v → Q v H') := by
    by_cases z : ds.length = ps.length
    · refine ⟨z, ?_⟩
      have e : DL.body ps.length N.length b ds = bnd (b (DL.start N.length ds)) (fun f => match f with | .nx _ => ret (.p .none) | .rt d => ret d | _ => no) := if_pos z
      rw [← e]; exact post
    · have e : DL.body ps.length N.length b ds = no := if_neg z
      rw [e] at post; exact post.elim
  have vl : vs.length = ps.length := rd.length.symm.trans hl
  have Kin : K.In s0.heap := e0.mod.kin.keeps fun b o e => (e0.bs b o e).1
  have nolim : s0.heap.NoLimit := e0.mod.nolimit.keeps fun b o e => (e0.bs b o e).1
  have kinds : ∀ y ∈ ps.zip us, (defScope st).names.lookup y.1 = some .local ∨ ((defScope st).names.lookup y.1 = some .cell ∧ ((cellsFrom (s0.heap.objs.size + 1) (defScope st).names []).lookup y.1).isSome = true) := fun ⟨a, v⟩ hy =>
    (sc.par a (List.of_mem_zip hy).1).imp id fun q => ⟨q, PySem.W.cellsFrom_some _ _ _ (.inl q)⟩
  refine codeAny_call_function room.depth (Kin _ _ lk) rfl sc.co sc.gen rfl (PySem.W.codeRec_of Kin hcd) (bnds _ _ _ _ ?_)
  refine wpAny_newFunctionEnv_cells sc.kind kinds fun env he s1 ic => ?_
  subst he
  refine ⟨nolim.keeps ic.toInCall.keep, codeAny_func ?_⟩
  have inv : Inv (cxOf (L2.CX P w) P w K mg base N qual (defScope st) f (.ref c) A oes s0 H Wx) [] (L2.start N vs) H s1 := inv_start sc room.hd e0 vl rv ic
  have read : rB K mg (WB Wx) b { nx := fun _ H' => Q .non H', rt := Q } (L2.start N vs) H := by
    refine ⟨_, S, ρ, startE rd, ss, ?_⟩
    have p2 := Post.bnd post
    cases q : b (DL.start N.length ds) S with
    | no => rw [q] at p2; exact p2.elim
    | ex e' S' =>
      rw [q] at p2
      exact fun H' ρ' cls d x1 s1 er _ => p2 H' ρ' cls d x1 s1 er
    | ok fl S' =>
      rw [q] at p2
      intro H' ρ' x1 s1
      have p3 := p2 H' ρ' x1 s1
      cases fl with
      | nx env' => exact fun σ' _ => p3 H' ρ' Ext.refl s1 _ (.p .non)
      | rt d => exact fun v rv => p3 H' ρ' Ext.refl s1 v rv
      | bk env' => exact p3.elim
      | ct env' => exact p3.elim
  have go := (hb A oes s0 H Wx gd (room.deeper _)).run [] s1 (L2.start N vs) H { nx := fun _ H' => Q .non H', rt := Q } inv read
  have done : ∀ {s2 : Shared} {σ2 : L2.St} {H2 : Hp} {v : V} {u : Value}, Inv (cxOf (L2.CX P w) P w K mg base N qual (defScope st) f (.ref c) A oes s0 H Wx) [] σ2 H2 s2 → RelV v u → Q v H2 → CE oes P w H s0 Q u s2 :=
    fun {s2 σ2 H2 v u} J r q => ⟨v, H2, J.os, J.bare, J.base, J.hok, r, q⟩
  refine wpAny_mono go (fun fl s2 h2 => ?_) fun er s2 h2 => h2
  cases fl with
  | next =>
    obtain ⟨σ2, H2, J, q⟩ := h2
    exact done (v := .non) J rfl q
  | ret u =>
    obtain ⟨v, σ2, H2, J, r, q⟩ := h2
    exact done J r q
  | brk => exact h2.elim fun _ z => z.elim fun _ z => z.2.elim
  | cont => exact h2.elim fun _ z => z.elim fun _ z => z.2.elim
end
omit [Nfo] in
theorem takesL {X : Cx} {A : Around} {outer : List PySem.Env} {s : Shared} {H : Hp} {E : XK} {scope : Scope} {f c' : Addr} : Takes (lamCx X A outer s H E scope f c') (fun c d _ H => E c d H) := takes_of rfl rfl rfl rfl
omit [Nfo] in
theorem funC_mk {x : Str} {st : Stmt} {f c : Addr} {oc : Value} {od an : Option Addr} {osl : Array (Option Value)} {K : PySem.W.Frag} {kV doc pm ct : Value} (l : K.lookup f = some ⟨oc, od, .func (PySem.W.fnOf x x (defArgs st) (defBody st) (defScope st) .none kV doc pm an (.ref c) ct), osl⟩)
    (h : PySem.W.codeIn K (.ref c) x = true) (k : PySem.W.keepIn K (.ref f) = true) : FunC K x st f (PySem.W.fnOf x x (defArgs st) (defBody st) (defScope st) .none kV doc pm an (.ref c) ct) c := ⟨⟨oc, od, kV, doc, pm, an, ct, osl, rfl, l, h⟩, k⟩
omit [Nfo] in
/-- the goal that k_head leaves, defs with lambdas -/
theorem law_walkT {l : PySem.W.OpenLaw} {k : Nat} {q : Program} {loose : List Str} {XP : (Str → Option Value) → Heap → Prop} {YP : World → Heap → Prop} {d : DefRec} {K : Params → PySem.W.Frag} {F : List D → M D} {x : Str} (hn : l.most = some 63) (hdf : d.params.defaults = []) (room : Room k callerA)
    (hY : ∀ (w : World) (h : Heap), YP w h → (K w.params).In h)
    (fns : ∀ (w : World) (mg : Str → Option Value) (fa : Addr) (h : Heap), (K w.params).In h → h.Ns mainGlobals mg → mg d.name = some (.ref fa) →
      (∀ (y : Str) (c P : Addr), ((recsOf q).find? fun e => e.name == y).isSome = true → PySem.W.tabIn (K w.params) y = some (c, P) → (K w.params).lookup P = none → TabF h (K w.params) c P) →
      ∃ (N : Nfo) (cs : List (Addr × Addr)) (fd : FuncData), (∀ p ∈ N.T, p.1 ∈ cs.map (·.2)) ∧ (∀ p ∈ cs, TabF h (K w.params) p.1 p.2) ∧ (∀ (s : Shared) (u : Value), BindsTo s fd ⟨[u], []⟩ [(x, u)]) ∧
        ∀ bs : Heap, (K w.params).In bs → bs.Ns mainGlobals mg → (∀ p ∈ cs, TabB bs mg p.1 p.2) → @FnD N l.prog w (K w.params) mg bs k fa fd [x] F) (hF : lawP F) :
    PySem.W.WalkO q loose XP YP l.row.toRowW d [] (fun f vs => PySem.call f vs) :=
  Att.attach_call hn hdf fun w s0 s1 mg mb fa o pm cd doc a vs ns G Y ho hd hcd hmg hobj hi hlen hg => by
    have kin := hY w _ Y
    obtain ⟨N, cs, fd, nT, tF, b1, f1⟩ := fns w mg fa _ kin G.T.g hmg fun y c P hr ht out => by
      obtain ⟨dr, hdr⟩ := Option.isSome_iff_exists.mp hr
      obtain ⟨e1, e2⟩ := PySem.W.tab_of G.T kin hdr ht
      exact ⟨e2, out, e1⟩
    exact law_endT kin G.T.g G.T.b G.T.builtins G.T.nolimit hg tF G.T.bmain hobj hi hlen room f1 b1 hF nT
end DL

namespace DL
open PySem PySem.Spec L2 PyProof.Rows
/-! ## what the classes say, from what the top has written -/
section
variable {K : PySem.W.Frag} {A C : Addr} {t : Value} {b : Bool}
theorem kc_of (h1 : PySem.W.isClsIn K C = true) (h2 : PySem.W.typeIn K (.ref C) = some (.type "type")) (t : Value) : PySem.W.kitCls K t (.ref C) = PySem.W.subIn K t (.ref C) := by
  have h1' : (PySem.W.clsIn K C).isSome = true := h1
  have e2 : ((PySem.W.clsIn K C).isSome && PySem.W.typeIn K (.ref C) == some (.type "type")) = true := by rw [h1', h2] <;> rfl
  show (if ((PySem.W.clsIn K C).isSome && PySem.W.typeIn K (.ref C) == some (.type "type")) = true then PySem.W.subIn K t (.ref C) else none) = _
  rw [if_pos e2]
theorem k1_true (h1 : PySem.W.isClsIn K C = true) (h2 : PySem.W.typeIn K (.ref C) = some (.type "type")) (h : PySem.W.subIn K t (.ref C) = some true) : PySem.W.kitOne K t (.ref C) = some true := by
  unfold PySem.W.kitOne
  split
  · rfl
  · rw [kc_of h1 h2, h]
theorem k1_self : PySem.W.kitOne K (.ref C) (.ref C) = some true := by
  unfold PySem.W.kitOne
  rw [if_pos (beq_self_eq_true _)]
theorem k1_false (h1 : PySem.W.isClsIn K C = true) (h2 : PySem.W.typeIn K (.ref C) = some (.type "type")) (h : PySem.W.subIn K (.ref A) (.ref C) = some false) (n : Nat.beq A C = false) : PySem.W.kitOne K (.ref A) (.ref C) = some false := by
  unfold PySem.W.kitOne
  rw [if_neg, kc_of h1 h2, h]
  intro z
  have e := eq_of_beq z
  injection e with e
  rw [e, Nat.beq_refl] at n
  cases n
theorem k1_none (h1 : PySem.W.isClsIn K C = true) (h2 : PySem.W.typeIn K (.ref C) = some (.type "type")) {n : String} (h : PySem.W.subIn K (.type n) (.ref C) = some false) : PySem.W.kitOne K (.type n) (.ref C) = some false := by
  unfold PySem.W.kitOne
  rw [if_neg, kc_of h1 h2, h]
  intro z
  have e := eq_of_beq z
  cases e
theorem k1_ty {n : String} (m : PySem.W.kitMeta n = true) (h : PySem.W.subIn K (.ref A) (.type n) = some b) : PySem.W.kitOne K (.ref A) (.type n) = some b := by
  unfold PySem.W.kitOne
  rw [if_neg]
  · show (if PySem.W.kitMeta n = true then PySem.W.subIn K (.ref A) (.type n) else none) = _
    rw [if_pos m, h]
  · intro z
    have e := eq_of_beq z
    cases e
theorem ka_true {c : Value} {cs : List Value} (h : PySem.W.kitOne K t c = some true) : PySem.W.kitAny K t (c :: cs) = some true := by
  unfold PySem.W.kitAny
  rw [h]
theorem ka_false {c : Value} {cs : List Value} {r : Bool} (h : PySem.W.kitOne K t c = some false) (hr : PySem.W.kitAny K t cs = some r) : PySem.W.kitAny K t (c :: cs) = some r := by
  unfold PySem.W.kitAny
  rw [h]
  exact hr
theorem ka_nil : PySem.W.kitAny K t [] = some false := rfl
theorem exm_of (h0 : PySem.W.subIn K (.ref C) (.type "BaseException") = some true) (h1 : PySem.W.isClsIn K C = true) (h2 : PySem.W.typeIn K (.ref C) = some (.type "type")) (h : PySem.W.subIn K (.ref A) (.ref C) = some b) : PySem.W.exmOne K (.ref A) (.ref C) = some b := by
  have e1 : (PySem.W.subIn K (.ref C) (.type "BaseException") == some true) = true := by rw [h0] <;> rfl
  show (if (PySem.W.subIn K (.ref C) (.type "BaseException") == some true) = true then PySem.W.kitCls K (.ref A) (.ref C) else none) = _
  rw [if_pos e1, kc_of h1 h2, h]
theorem pne {a b : Nat} (h : Nat.beq a b = false) : a ≠ b := fun e => by rw [e, Nat.beq_refl] at h; cases h
/-- a def's code object and its table -/
theorem tab_mk {f c P : Addr} {x : Str} {oc1 oc2 : Value} {od1 od2 : Option Addr} {sl1 sl2 : Array (Option Value)} {fd : FuncData} {vs : Array Value} (a : PySem.W.nsIn K mainGlobals x = some (some (.ref f))) (l : K.lookup f = some ⟨oc1, od1, .func fd, sl1⟩) (e : fd.code = .ref c)
    (lc : K.lookup c = some ⟨oc2, od2, .fields vs, sl2⟩) (ep : (vs[11]? : Option Value) = some (.ref P)) : PySem.W.tabIn K x = some (c, P) := by
  unfold PySem.W.tabIn
  rw [a]
  simp only [l, e, lc, ep]
end
end DL

/-! ## l.count(x) of what has a shape -/
namespace DL
open PySem PySem.Spec L2 PyProof.Rows
section
variable {X : Cx}
def rCntD (K : PySem.W.Frag) : V → List V → Hp → VK → Prop := fun x xs H Q => ∃ (a : Addr) (y : V) (d : PyData) (ds : List PyData), x = V.ref a ∧ xs = [y] ∧ Dp K H (V.ref a) (.list ds) ∧ Dp K H y d ∧
  SeqAt.shaped (.list ds) = true ∧ SeqAt.shaped d = true ∧ Q (.int ((ds.countP fun z => PyData.eqv z d : Nat) : Int)) H
theorem mt_cntD (hu : X.A.units + 65 < cLine) : MtR X "list.count" (rCntD X.K) := by
  intro pins s σ H x xs v us Q I rx rxs h
  obtain ⟨a, y, d, ds, rfl, rfl, hl, hy, sl, sd, q⟩ := h
  cases rx
  cases rxs with
  | cons ry rt =>
    rename_i uy ut
    cases rt
    obtain ⟨bs, r1⟩ := Dp.reads I d y uy hy ry
    have lays := SeqAt.canLay_of_shaped sl
    cases hl with
    | lst hs ha =>
      obtain ⟨its, rv, ⟨⟨oc, od, dt, osl⟩, n, ho, e1, e2, e3⟩, _⟩ := I.list hs
      simp only at e1 e3
      subst e1 e3
      obtain ⟨as, h4⟩ := Dp.readsAll I ds _ its ha rv
      have read := SeqAt.readsAll_map ds its as (show PyData.canLayAll0 ds = true from lays) h4
      refine call_meets PySem.F.slot_list_count ⟨_, ho, rfl⟩ PySem.F.entry_list_count (PySem.F.args_list_count_2 _ _)
        (SeqAt.list_countAt a its.toArray n od osl uy fun u => PyData.eqv (SeqAt.readOf s.heap u) d)
        ⟨ho, SeqAt.items_eqAt (vs := its.toArray) (show ReadsAll s.heap its.toArray.toList ds as from h4) r1 lays (SeqAt.canLay_of_shaped sd) (room_in_shaped sd hu), ?_⟩
      have ec : its.toArray.toList.countP (fun u => PyData.eqv (SeqAt.readOf s.heap u) d) = ds.countP fun z => PyData.eqv z d := by
        rw [← read, List.countP_map]
        rfl
      refine ⟨.int ((ds.countP fun z => PyData.eqv z d : Nat) : Int), H, I.tok _, ⟨s.toks, ?_⟩, q⟩
      rw [ec]
end
variable [Nfo]
section
variable {X : Cx} {W : WX} {a b : Expr} {ra rb : E} {pos : Pos}
theorem g_countD {apos : Pos} (hu : X.A.units + 65 < cLine) (ha : GE X W a ra) (hb : GE X W b rb) (hbase : attributeBase a "count" X.env (eval a X.env) = eval a X.env := by rfl)
    (hfew : ((backTo pos (starEach (b :: []) X.env)).all (fun x => !x.1) && (backToKw pos (keywordEach [] X.env)).all (fun x => x.1.isSome) && decide ((b :: []).length + ([] : List Keyword).length + (if ([] : List Keyword).isEmpty then 0 else 1) < 30)) = true := by rfl)
    (hline : (apos.endLine == pos.line) = true := by rfl) (hs : starEach (b :: []) X.env = (false, eval b X.env) :: starEach [] X.env := by rfl) (hpl : (backTo pos (starEach [] X.env)).any (·.1) = false := by rfl) :
    GE X W (.Call (.Attribute a "count" apos) [b] [] pos) (eMq fCountD ra rb) := by
  refine g_mq PySem.F.plainAttrs_list PySem.F.slot_list_count PySem.F.type_list_count (mt_cntD hu) ha hb (fun d e S ρ H2 v u Q Wx ss hv hu' q => ?_) hbase hfew hline hs hpl
  cases d with
  | list xs =>
    obtain ⟨t, vs, rfl, h1, r1⟩ := hv.list
    obtain ⟨hk, q⟩ := postIf (c := (SeqAt.shaped (.list xs) && SeqAt.shaped e) = true) q
    rw [Bool.and_eq_true] at hk
    exact ⟨t, u, e, xs, rfl, rfl, hv.dp (nod_shaped hk.1), hu'.dp (nod_shaped hk.2), hk.1, hk.2, ans ss q (.int _)⟩
  | _ => exact q.elim
end
end DL

/-! ## {}, d.update(e) -/
namespace DL
open PySem PySem.Spec L2 PyProof.Rows
section
variable {X : Cx}
def rUpdD : V → List V → Hp → VK → Prop := fun x vs H Q => ∃ (a b : Addr) (kvs more : List (Key × V)), x = .ref a ∧ vs = [.ref b] ∧ a ≠ b ∧ H a = some (.dK kvs) ∧ H b = some (.dK more) ∧ kvs.length + more.length ≤ sizeLine ∧ Q .non (upd H a (.dK (mergeK kvs more)))
theorem mergeK_len (kvs : List (Key × V)) : ∀ more : List (Key × V), (mergeK kvs more).length ≤ kvs.length + more.length := by
  intro more
  unfold mergeK
  induction more generalizing kvs with
  | nil => exact Nat.le_refl _
  | cons p more ih =>
    rw [List.foldl_cons, List.length_cons]
    have h1 := ih (putK kvs p.1 p.2)
    have h2 := length_putK kvs p.1 p.2
    omega
theorem mt_updD : MtR X "dict.update" rUpdD := by
  intro pins s σ H x vs v us Q I rx rv h
  obtain ⟨a, b, kvs, more, rfl, rfl, ne, ea, eb, hl, q⟩ := h
  obtain rfl : v = Value.ref a := rx
  obtain ⟨u, rfl, ru⟩ := rv.one
  obtain rfl : u = Value.ref b := ru
  obtain ⟨z1, d1, vs1, rel1, dd1⟩ := dk_of I.hok ea
  obtain ⟨z2, d2, vs2, rel2, dd2⟩ := dk_of I.hok eb
  refine call_meetsIn PySem.F.slot_dict_update dd1.typeIs PySem.F.entry_dict_update (PySem.F.args_dict_update_2 _ _) (meets_dict_update (mixKind X.prog X.w) a b ne d2)
    ⟨vs1, vs2, dd1, dd2, by rw [← rel1.length, ← rel2.length]; exact hl, fun h' dd' _ hs => ?_⟩
  have there : ∃ o, h'.get? a = some o := let ⟨o, _, _, ho, _⟩ := dd'; ⟨o, ho⟩
  exact ⟨.non, _, d_write (t' := s.toks) I (by rw [ea]; exact True.intro) hs there (dk_new (Nat.le_trans (mergeK_len kvs more) hl) d1 (KV.merge rel2 rel1) dd'), rfl, q⟩
end
variable [Nfo]
theorem merge_ob {K : PySem.W.Frag} {H : Hp} {ρ : List Addr} : ∀ {more acc m : List (PyData × D)} {ms ws : List (Key × V)}, Paired (fun (p : PyData × D) (q : Key × V) => keyOf p.1 = some q.1 ∧ DR K H ρ p.2 q.2) more ms → DL.mergeD acc more = some m →
    Paired (fun (p : PyData × D) (q : Key × V) => keyOf p.1 = some q.1 ∧ DR K H ρ p.2 q.2) acc ws → Paired (fun (p : PyData × D) (q : Key × V) => keyOf p.1 = some q.1 ∧ DR K H ρ p.2 q.2) m (mergeK ws ms) := by
  intro more
  induction more with
  | nil =>
    intro acc m ms ws h e r
    cases h
    cases e
    exact r
  | cons p more ih =>
    intro acc m ms ws h e r
    cases h with
    | @cons _ q _ ms h t =>
      obtain ⟨x, d⟩ := p
      obtain ⟨k, v⟩ := q
      obtain ⟨hk, hv⟩ := h
      replace hk : keyOf x = some k := hk
      replace e : (match keyOf x with | some k => DL.mergeD (dPut acc k x d) more | none => none) = some m := e
      rw [hk] at e
      show Paired _ m (mergeK (putK ws k v) ms)
      exact ih t e (put_pairs hk hv r)
section
variable {X : Cx} {W : WX} {a b : Expr} {ra rb : E} {pos : Pos}
theorem g_dict0 : GE X W (.Dict [] [] pos) eDict0 := by
  refine PE.imp pe_dnewK fun σ H Q q p np => ?_
  obtain ⟨env, S, ρ, se, ss, q⟩ := q
  obtain ⟨s2, x2⟩ := ss.push (o := .dK []) (u := .dct []) np ⟨[], upd_same, .nil⟩
  exact q _ _ x2 s2 (.ref p) (.ref (by rw [List.getElem?_append_right (by rw [ss.len]; exact Nat.le_refl _), ss.len, Nat.sub_self]; rfl))
theorem isDct_ok {S : Sto} {ρ : List Addr} {H : Hp} {d : D} {v : V} (ss : SimS X.K H ρ S) (rv : DR X.K H ρ d v) (h : isDct S d = true) : ∃ (n : Nat) (a : Addr), d = .ref n ∧ v = .ref a ∧ ρ[n]? = some a ∧ ∃ kvs, H a = some (.dK kvs) := by
  cases d with
  | ref n =>
    cases rv with
    | ref e =>
      unfold isDct at h
      cases q : S[n]? with
      | none => simp only [q] at h; cases h
      | some o =>
        cases o with
        | dct kvs =>
          obtain ⟨ws, h1, r1⟩ := ss.ob n _ _ q e
          exact ⟨n, _, rfl, rfl, e, ws, h1⟩
        | _ => simp only [q] at h; cases h
  | p _ => cases h
  | tup _ => cases h
  | exn _ => cases h
theorem g_update {apos : Pos} (ha : GE X W a ra) (hb : GE X W b rb) (hbase : attributeBase a "update" X.env (eval a X.env) = eval a X.env := by rfl)
    (hfew : ((backTo pos (starEach (b :: []) X.env)).all (fun x => !x.1) && (backToKw pos (keywordEach [] X.env)).all (fun x => x.1.isSome) && decide ((b :: []).length + ([] : List Keyword).length + (if ([] : List Keyword).isEmpty then 0 else 1) < 30)) = true := by rfl)
    (hline : (apos.endLine == pos.line) = true := by rfl) (hs : starEach (b :: []) X.env = (false, eval b X.env) :: starEach [] X.env := by rfl) (hpl : (backTo pos (starEach [] X.env)).any (·.1) = false := by rfl) :
    GE X W (.Call (.Attribute a "update" apos) [b] [] pos) (eMd1 fUpd ra rb) := by
  refine PE.imp (pe_bm PySem.F.plainAttrs_dict PySem.F.slot_dict_update PySem.F.type_dict_update mt_updD ha (pa_cons hb pa_nil hs) hbase hfew hline hs hpl) fun σ H Q q => ?_
  obtain ⟨env, S, ρ, se, ss, q⟩ := q
  refine ⟨env, S, ρ, se, ss, (Post.bnd q).imp fun d S1 ρ1 H1 _ x1 s1 h1 v rv => ?_⟩
  obtain ⟨hc, h1⟩ := postIfR h1
  obtain ⟨n, a', rfl, rfl, e1, kvs0, hk0⟩ := isDct_ok s1 rv hc
  refine ⟨.inr (.inr (.inl ⟨rfl, .inl ⟨kvs0, hk0⟩⟩)), env, S1, ρ1, se.mono x1.st x1.pre, s1, (Post.bnd h1).imp fun e S2 ρ2 H2 _ x2 s2 h2 u ru => ?_⟩
  have e2 := pre_get x2.pre e1
  cases e with
  | ref m =>
    cases ru with
    | ref e3 =>
      rename_i b'
      replace h2 : Post X.K X.mg _ S2 ρ2 H2 (match S2[n]?, S2[m]? with
        | some (.dct kvs), some (.dct more) => if n ≠ m ∧ kvs.length + more.length ≤ big then (match mergeD kvs more with
          | some r => R.ok (D.p .none) (S2.set n (.dct r))
          | none => .no) else .no
        | _, _ => .no) _ := h2
      cases q1 : S2[n]? with
      | none => simp only [q1] at h2; exact h2.elim
      | some o1 =>
        cases q2 : S2[m]? with
        | none => cases o1 <;> (simp only [q1, q2] at h2; exact h2.elim)
        | some o2 =>
          cases o1 with
          | lst _ => simp only [q1, q2] at h2; exact h2.elim
          | gone => simp only [q1, q2] at h2; exact h2.elim
          | dct kvs =>
            cases o2 with
            | lst _ => simp only [q1, q2] at h2; exact h2.elim
            | gone => simp only [q1, q2] at h2; exact h2.elim
            | dct more =>
              simp only [q1, q2] at h2
              obtain ⟨⟨hne, hlen⟩, h2⟩ := postIfR h2
              cases q3 : mergeD kvs more with
              | none => rw [q3] at h2; exact h2.elim
              | some r =>
                rw [q3] at h2
                obtain ⟨ws, hw, pr⟩ := s2.ob n _ a' q1 e2
                obtain ⟨ms, hm, pm⟩ := s2.ob m _ b' q2 e3
                have nab : a' ≠ b' := fun z => hne (s2.inj n m _ _ a' q1 q2 (by simp) (by simp) e2 (by rw [z]; exact e3))
                have pr2 := merge_ob pm q3 pr
                obtain ⟨x, ex, sx, nx⟩ := s2.live_some3 ⟨n, _, q1, by simp, e2⟩
                have st : Stb H2 (upd H2 a' (.dK (mergeK ws ms))) := fun c y e s => by
                  rw [upd_ne]
                  · exact e
                  · rintro rfl
                    rw [ex] at e; cases e
                    rw [sx] at s; cases s
                obtain ⟨s3, x3⟩ := s2.put (o := .dK (mergeK ws ms)) (u := .dct r) q1 (by simp) e2 ⟨_, upd_same, pimp (fun a b h => ⟨h.1, h.2.mono st (List.prefix_refl _)⟩) pr2⟩
                refine ⟨a', b', ws, ms, rfl, rfl, nab, hw, hm, ?_, h2 _ _ x3 s3 _ (.p .non)⟩
                have l1 := Paired.length pr
                have l2 := Paired.length pm
                have := sizeLine_eq
                unfold big at hlen
                omega
  | p _ => exact h2.elim
  | tup _ => exact h2.elim
  | exn _ => exact h2.elim
end
end DL

/-! ## x[lo:hi] = ys -/
namespace DL
open PySem PySem.Spec L2 PyProof.Rows
section
variable {prog : Program} {w : World} {A : Around} {E : Value → Shared → Prop} {t : Shared}
theorem bnds_ok (lo hi : Option Int) (n : Nat) : 0 ≤ (sliceBounds lo hi none n).1 ∧ (sliceBounds lo hi none n).1 ≤ n ∧ 0 ≤ (sliceBounds lo hi none n).2.1 ∧ (sliceBounds lo hi none n).2.1 ≤ n ∧ (sliceBounds lo hi none n).2.2 = 1 := by
  unfold sliceBounds
  cases lo <;> cases hi <;> simp <;> omega
set_option maxRecDepth 100000 in
theorem setItem_sl {p q k : Addr} {as bs : Array Value} {m m2 : Nat} {vl vu : Value} {lo hi : Option Int} {Q : Unit → Shared → Prop}
    (ep : t.heap.get? p = some { cls := .type "list", data := .seq as m }) (eq : ∃ ob, t.heap.get? q = some ob ∧ ob.cls = .type "list" ∧ ob.data = .seq bs m2) (npq : p ≠ q)
    (hk : t.heap.IsSliceOf k vl vu .none) (pl : IsPart vl lo) (pu : IsPart vu hi) (room : as.size + bs.size ≤ sizeLine)
    (h : Q () { t with heap := t.heap.update p (Obj.mapSeq fun xs => xs.extract 0 (sliceBounds lo hi none as.size).1.toNat ++ bs ++ xs.extract (max (sliceBounds lo hi none as.size).1 (sliceBounds lo hi none as.size).2.1).toNat xs.size) }) :
    wpAny (model prog w) A (setItem (.ref p) (.ref k) (.ref q)) Q E t := by
  obtain ⟨⟨oc, od, dt, osl⟩, eq1, eq2, eq3⟩ := eq
  dsimp only at eq2 eq3
  subst eq2 eq3
  have lp : t.heap.IsList p as := PySem.IsL.isList ep
  have lq : t.heap.IsList q bs := ⟨_, eq1, rfl, _, rfl⟩
  obtain ⟨ok, ek, ck, dk⟩ := id hk
  have tk : t.TypeIs (.ref k) "slice" := ⟨ok, ek, ck⟩
  have st0 : ¬ ((rawPart none == rawInt 0) = true) := Bool.false_ne_true
  have same : Builtin.List.listSameRef (.ref p) (.ref q) = false := by
    unfold Builtin.List.listSameRef
    exact beq_eq_false_iff_ne.mpr npq
  obtain ⟨b1, b2, b3, b4, b5⟩ := bnds_ok lo hi as.size
  have fits : ((fun xs : Array Value => xs.extract 0 (sliceBounds lo hi none as.size).1.toNat ++ bs ++ xs.extract (max (sliceBounds lo hi none as.size).1 (sliceBounds lo hi none as.size).2.1).toNat xs.size) as).size ≤ sizeLine + 1 := by
    simp only [Array.size_append, Array.size_extract]
    omega
  unfold setItem
  try with_reducible refine wpAny_holding ?_
  first | refine wpAny_bind (wpAny_pure ?_) | skip
  refine wpAny_bind (wpAny_sequenceKey lp.typeIs (by decide) ?_)
  refine wpAny_bind (wpAny_callSpecial?_slot (name := Str.ofString "__setitem__") lp.typeIs slot_list_setitem
    (wpAny_call_entry slot_list_setitem lp.typeIs entry_list_setitem ?_ (args_list_setitem _ _ _)))
  show wpAny _ _ (Builtin.List.listSubscript? (.ref k) >>= _) _ _ t
  refine wpAny_bind ?_
  unfold Builtin.List.listSubscript?
  refine wpAny_bind (wpAny_specialOf tk slice_no_index ?_)
  simp only [Option.isNone_none, if_true]
  refine wpAny_pure ?_
  show wpAny _ _ (typeOf (.ref k) >>= _) _ _ t
  refine wpAny_bind (wpAny_typeOf tk ?_)
  first | rw [if_neg (by decide)] | refine PySem.W.KFB.if_not (by decide) ?_
  rw [listSliceParts_eq]
  refine wpAny_bind (wpAny_bind (wpAny_field ek dk (x := .none) rfl (wpAny_bind (wpAny_listPart .none ?_))))
  rw [if_neg st0]
  refine wpAny_bind (wpAny_field ek dk (x := vl) rfl (wpAny_bind (wpAny_listPart pl ?_)))
  refine wpAny_bind (wpAny_field ek dk (x := vu) rfl (wpAny_bind (wpAny_listPart pu (wpAny_pure ?_))))
  first
    | simp only [same, Bool.false_eq_true, if_false]
    | refine PySem.W.KFB.if_not same ?_
    | (dsimp only
       rw [if_neg (by rw [same]; exact Bool.false_ne_true)])
  refine wpAny_bind (m := Builtin.List.listAllItems (.ref q) "must assign iterable to extended slice") ?_
  unfold Builtin.List.listAllItems
  refine wpAny_bind (wpAny_typeOf lq.typeIs ?_)
  first
    | refine PySem.W.KFB.if_so (by decide) ?_
    | simp only [beq_self_eq_true, Bool.true_or, if_true]
  unfold Builtin.List.listItems
  refine wpAny_bind (wpAny_seqItems eq1 rfl (wpAny_pure ?_))
  refine wpAny_bind (wpAny_bind (wpAny_seqItems ep rfl (wpAny_pure ?_)))
  refine wpAny_bind (wpAny_of_eq (sliceIndices_raw lo hi none as.size (by simp)) ?_)
  show wpAny _ _ (if ((sliceBounds lo hi none as.size).2.2 == 1) = true then _ else _) _ _ t
  rw [if_pos (by rw [b5]; decide)]
  refine wpAny_bind (wpAny_rule ?_)
  first | simp only [notLongL room, Bool.false_eq_true, if_false] | refine PySem.W.KFB.if_not (notLongL room) ?_
  first | refine wpAny_bind (wpAny_pure ?_) | skip
  show wpAny _ _ (updateSeq p (fun xs => xs.extract 0 (sliceBounds lo hi none as.size).1.toNat ++ bs ++ xs.extract (max (sliceBounds lo hi none as.size).1 (sliceBounds lo hi none as.size).2.1).toNat xs.size) >>= _) _ _ t
  refine wpAny_bind (wpAny_updateSeq (hz := Nat.le_trans (Nat.le_add_right _ _) room) (_hz' := fits) ep rfl ?_)
  refine wpAny_bind (wpAny_letGo ?_)
  first
    | exact wpAny_bind (wpAny_pure (wpAny_pure ⟨.none, rfl, wpAny_pure h⟩))
    | exact wpAny_pure ⟨.none, rfl, wpAny_pure h⟩
end
section
variable {X : Cx}
abbrev TSl := V → Option Int → Option Int → V → Hp → (Hp → Prop) → Prop
def rSetSl (K : PySem.W.Frag) : TSl := fun x lo hi y H Q => ∃ (l b : Addr) (xs ys : List V), x = .ref l ∧ y = .ref b ∧ (l = b → ∃ o, K.lookup b = some o) ∧ H l = some (.lst xs) ∧ SqL K H b ys ∧ xs.length + ys.length ≤ sizeLine ∧ Q (upd H l (.lst (spliceL xs ys lo hi)))
theorem set_sl {pins : List (Addr × Obj)} {s : Shared} {σ : L2.St} {H : Hp} {x y : V} {v u vl vu : Value} {lo hi : Option Int} {sl : Addr} {Q : Hp → Prop} (I : Inv X pins σ H s) (rx : RelV x v) (ry : RelV y u) (hs : s.heap.IsSliceOf sl vl vu .none) (pl : IsPart vl lo) (pu : IsPart vu hi)
    (h : rSetSl X.K x lo hi y H Q) : wpAny (model X.prog X.w) X.A (setItem v (.ref sl) u) (fun _ s' => ∃ H', Inv X pins σ H' s' ∧ Q H') X.xe s := by
  obtain ⟨l, b, xs, ys, rfl, rfl, ne, hl, hb, hz, q⟩ := h
  cases rx
  cases ry
  obtain ⟨_, its, n, r, l1, e⟩ := I.lstM hl
  obtain ⟨its2, r2, ⟨ob, n2, e2, c2, d2, k2⟩, _⟩ := I.list hb
  have ne' : l ≠ b := fun z => by
    obtain ⟨o, eo⟩ := ne z
    have := (I.bs b o (I.ok.mod.kin b o eo)).2
    rw [← z, hl] at this
    cases this
  have l2 := r2.length
  refine setItem_sl (as := its.toArray) (bs := its2.toArray) (m := n) (m2 := n2) e ⟨ob, e2, c2, k2⟩ ne' hs pl pu (by rw [List.size_toArray, List.size_toArray]; omega) ⟨_, ?_, q⟩
  have ez : its.toArray.size = xs.length := by rw [List.size_toArray]; omega
  rw [ez]
  obtain ⟨b1, b2, b3, b4, b5⟩ := bnds_ok lo hi xs.length
  refine I.lset (its' := its.take (sliceBounds lo hi none xs.length).1.toNat ++ its2 ++ its.drop (max (sliceBounds lo hi none xs.length).1 (sliceBounds lo hi none xs.length).2.1).toNat) (t' := s.toks) hl e ?_ (Vals.append (Vals.append (r.take _) r2) (r.drop _)) ?_
  · exact splice_eq its its2 _ _
  · unfold spliceL
    rw [List.length_append, List.length_append, List.length_take, List.length_drop]
    omega
def gSubSl (K : PySem.W.Frag) (to : TE) (tl th : TO) : TG := fun v σ H Q => to σ H fun o H1 => tl σ H1 fun l H2 => th σ H2 fun u H3 => rSetSl K o l u v H3 fun H4 => Q σ H4
theorem pg_subSl {o : Expr} {lo hi : Option Expr} {to : TE} {tl th : TO} {p2 pos : Pos} (ho : PE X o to) (hl : PO X lo tl) (hh : PO X hi th)
    (ha : ∀ v, assign (.Subscript o (.Slice lo hi none p2) pos) X.env v = (do
      let ov ← holding [v] (eval o X.env)
      let iv ← holding [v, ov] (eval (.Slice lo hi none p2) X.env)
      standAt pos
      holding [v, ov, iv] (setItem ov iv v)
      release [iv, v, ov] []) := by intro _; rfl) : PG X (.Subscript o (.Slice lo hi none p2) pos) (gSubSl X.K to tl th) := by
  refine ⟨fun pins s σ H v u Q I r h => ?_⟩
  rw [ha]
  refine wpAny_bind (wpAny_holding (thn (ho.run pins s σ H _ I h) fun ov t1 ⟨x, H1, I1, r1, q1⟩ => ?_))
  refine wpAny_bind (wpAny_holding ?_)
  refine wpAny_Slice (thn (hl.run pins t1 σ H1 _ I1 q1) fun vl t2 ⟨l, H2, I2, pl, q2⟩ => thn (hh.run pins t2 σ H2 _ I2 q2) fun vu t3 ⟨k, H3, I3, pu, q3⟩ => ?_)
  rw [evalPart_none]
  refine wpAny_pure ?_
  have J : Inv X pins σ H3 { t3 with heap := t3.heap.push { cls := .type "slice", data := .fields #[vl, vu, .none] } } := I3.kept (t' := t3.toks) fun b ob q => Heap.get?_push_of_some _ q
  refine wpAny_bind (wpAny_standAt (wpAny_bind (wpAny_holding (thn (set_sl J r1 r (Heap.IsSliceOf.new ..) pl pu q3) fun _ t4 ⟨H4, I4, q4⟩ => ?_))))
  exact wpAny_release ⟨σ, H4, I4, q4⟩
end
theorem splice_map {α β : Type} (f : α → β) (xs ys : List α) (lo hi : Option Int) : spliceL (xs.map f) (ys.map f) lo hi = (spliceL xs ys lo hi).map f := by
  unfold spliceL
  rw [List.length_map, List.map_append, List.map_append, List.map_take, List.map_drop]
variable [Nfo]
theorem DRs.take' {K : PySem.W.Frag} {H : Hp} {ρ : List Addr} {ds : List D} {vs : List V} (n : Nat) (h : DRs K H ρ ds vs) : DRs K H ρ (ds.take n) (vs.take n) := by
  refine DRs.of_get (by rw [List.length_take, List.length_take, h.length]) fun i d v e1 e2 => ?_
  rw [List.getElem?_take] at e1 e2
  split at e1
  · rename_i hi
    rw [if_pos hi] at e2
    obtain ⟨u, e3, r⟩ := h.get e1
    rw [e2] at e3
    cases e3
    exact r
  · cases e1
theorem DRs.drop' {K : PySem.W.Frag} {H : Hp} {ρ : List Addr} {ds : List D} {vs : List V} (n : Nat) (h : DRs K H ρ ds vs) : DRs K H ρ (ds.drop n) (vs.drop n) := by
  refine DRs.of_get (by rw [List.length_drop, List.length_drop, h.length]) fun i d v e1 e2 => ?_
  rw [List.getElem?_drop] at e1 e2
  obtain ⟨u, e3, r⟩ := h.get e1
  rw [e2] at e3
  cases e3
  exact r
section
variable {X : Cx} {a : Expr} {lo hi : Option Expr} {ra : E} {rl rh : O} {p2 pos : Pos}
theorem gg_subSl (ha : GE X WN a ra) (hl : GO X WN lo rl) (hh : GO X WN hi rh)
    (hs : ∀ v, assign (.Subscript a (.Slice lo hi none p2) pos) X.env v = (do
      let ov ← holding [v] (eval a X.env)
      let iv ← holding [v, ov] (eval (.Slice lo hi none p2) X.env)
      standAt pos
      holding [v, ov, iv] (setItem ov iv v)
      release [iv, v, ov] []) := by intro _; rfl) : GG X (.Subscript a (.Slice lo hi none p2) pos) [] (gSl ra rl rh) := by
  refine PG.imp (pg_subSl ha hl hh hs) fun v σ H Q q => ?_
  obtain ⟨d, env, S, ρ, rv, se, ss, h⟩ := q
  refine ⟨env, S, ρ, se, ss, (Post.bnd h).hush.imp fun d1 S1 ρ1 H1 _ x1 s1 h1 v1 r1 => ?_⟩
  refine ⟨env, S1, ρ1, se.mono x1.st x1.pre, s1, (Post.bnd h1).hush.imp fun o2 S2 ρ2 H2 _ x2 s2 h2 => ?_⟩
  refine ⟨env, S2, ρ2, (se.mono x1.st x1.pre).mono x2.st x2.pre, s2, (Post.bnd h2).hush.imp fun o3 S3 ρ3 H3 _ x3 s3 h3 => ?_⟩
  have x13 := (x1.trans x2).trans x3
  have x23 := x2.trans x3
  have se3 := se.mono x13.st x13.pre
  have rv3 := rv.mono x13.st x13.pre
  have r13 := r1.mono x23.st x23.pre
  replace h3 := Post.bnd h3
  cases d1 with
  | exn _ => cases d <;> first | exact h3.elim | (rename_i z; cases z <;> exact h3.elim)
  | p _ => cases d <;> first | exact h3.elim | (rename_i z; cases z <;> exact h3.elim)
  | tup _ => cases d <;> first | exact h3.elim | (rename_i z; cases z <;> exact h3.elim)
  | ref n =>
    cases d with
    | exn _ => exact h3.elim
    | tup _ => exact h3.elim
    | ref _ => exact h3.elim
    | p y =>
      cases y with
      | list ys =>
        cases r13 with
        | ref e1 =>
          rename_i l
          cases rv3 with
          | p ry =>
            cases ry with
            | lst hf hy =>
              rename_i b us
              replace h3 : Post X.K X.mg _ S3 ρ3 H3 (match S3[n]? with
                | some (.lst ds) => if ds.length + ys.length ≤ big then R.ok () (S3.set n (.lst (spliceL ds (ys.map .p) o2 o3))) else .no
                | _ => .no) _ := h3
              cases q1 : S3[n]? with
              | none => rw [q1] at h3; exact h3.elim
              | some ob =>
                rw [q1] at h3
                cases ob with
                | dct _ => exact h3.elim
                | gone => exact h3.elim
                | lst ds =>
                  obtain ⟨hz, h3⟩ := postIfR h3
                  obtain ⟨vs, hv, pr⟩ := s3.ob n _ l q1 e1
                  have nlb : l = b → ∃ o, X.K.lookup b = some o := fun e => by
                    rcases hf with ⟨o, z⟩ | ⟨o, its, m, z, zc, zd, _⟩
                    · rw [← e, hv] at z; cases z
                    · exact ⟨o, z⟩
                  have ly := hy.length
                  have lx := pr.length
                  have pr2 : DRs X.K H3 ρ3 (spliceL ds (ys.map .p) o2 o3) (spliceL vs us o2 o3) := by
                    unfold spliceL
                    rw [← lx]
                    exact ((pr.take' _).append hy.drs).append (pr.drop' _)
                  obtain ⟨s4, x4⟩ := putL s3 e1 q1 hv pr2
                  refine ⟨l, b, vs, us, rfl, rfl, nlb, hv, hf.sq, ?_, ?_⟩
                  · have := sizeLine_eq
                    unfold big at hz
                    omega
                  · have h4 := h3 _ ρ3 x4 s4
                    exact h4 _ ρ3 Ext.refl s4 σ (se3.mono x4.st x4.pre) (Off.refl _ _)
      | _ => exact h3.elim
end
end DL

/-! ## len(d) -/
namespace DL
open PySem PySem.Spec L2 PyProof.Rows
variable [Nfo]
section
variable {X : Cx} {W : WX} {a : Expr} {ra : E} {p pos : Pos}
theorem g_lenD (hg : Gl X "len" := by rfl) (hm : X.mg "len" = none) (ha : GE X W a ra) (he : starEach (a :: []) X.env = (false, eval a X.env) :: starEach [] X.env := by rfl) (hpl : (backTo pos (starEach [] X.env)).any (·.1) = false := by rfl) :
    GE X W (.Call (.Name "len" p) [a] [] pos) (e1D fLenD ra) := by
  refine PE.imp (pe_callB call_lenD hg hm PySem.boot_len (pa_cons ha pa_nil he) (by decide) (by decide) he hpl) fun σ H Q q => ?_
  refine one (f := fLenD) (r := fun v H Q => ∃ a kvs, [v] = [V.ref a] ∧ H a = some (.dK kvs) ∧ Q (.int kvs.length) H) q fun d S ρ H2 v ss rv h => ?_
  cases d with
  | ref n =>
    cases rv with
    | ref e =>
      rename_i a'
      replace h : Post X.K X.mg _ S ρ H2 (match S[n]? with | some (.dct kvs) => R.ok (D.p (.int (kvs.length : Nat))) S | _ => .no) _ := h
      cases q1 : S[n]? with
      | none => rw [q1] at h; exact h.elim
      | some o =>
        rw [q1] at h
        cases o with
        | dct kvs =>
          obtain ⟨ws, hw, pr⟩ := ss.ob n _ a' q1 e
          have l := Paired.length pr
          refine ⟨a', ws, rfl, hw, ?_⟩
          rw [← l]
          exact h H2 ρ Ext.refl ss _ (.p (.int _))
        | lst _ => exact h.elim
        | gone => exact h.elim
  | p _ => exact h.elim
  | tup _ => exact h.elim
  | exn _ => exact h.elim
end
end DL

namespace DL
open PySem PySem.Spec PySem.W PySem.Calls PyProof.Rows
section
variable {prog : Program} {w : World} {A : Around} {E : Value → Shared → Prop} {s : Shared} {K : Frag} {x D : Addr} {ox : Obj} {od : Option Obj}
theorem found_class {C : Addr} {name : Str} {a g : Value} (hc : (clsIn K C).isSome = true) (ha : findIn K (.ref C) name = some (some a)) (hg : specialIn K a "__get__" = some (some g)) (ht : takesIn K a = some true) : findObj K C od name = some (.bind g a) := by
  obtain ⟨cd, hc⟩ := Option.isSome_iff_exists.mp hc
  unfold findObj
  rw [hc, Option.bind_some, ha, Option.bind_some]
  simp [hg, ht]
/-- an error's class, whether it has a dict or not -/
theorem kin_classF {Q : Option Value → Shared → Prop} (c : L2.ExcC K D) (X : K.In s.heap) (I : InstAt s.heap x ox D od) (h : Q (some (.ref D)) { s with toks := s.toks + 1 }) : wpAny (model prog w) A (getAttr? (.ref x) "__class__") Q E s := by
  have hf : findObj K D od "__class__" = some (.bind (.builtin "getset_descriptor.__get__") (.builtin "object.__class__")) := found_class (by obtain ⟨cd, hc, _⟩ := any_some c.hd; rw [hc]; rfl) c.ha c.hn c.ht
  obtain ⟨hp, g, d, t, os⟩ := s
  have L0 := I.type (M := model prog w)
  have L1 := looks_findIn (M := model prog w) X c.hg
  have L2 := looks_findIn (M := model prog w) X c.hk
  have L3 := looks_find (M := model prog w) X I hf
  have sub : Looks (model prog w) hp (isInstance (.ref x) (.type "BaseException")) true := L0.andThen (looks_subIn X c.hs)
  have hx0 : (false && onTheHeap (Value.builtin "BaseException.__getattribute__")) = false := rfl
  have hx2 : (Value.builtin "BaseException.__getattribute__" == Value.builtin "object.__getattribute__") = false := by decide +kernel
  have hx1 : (onTheHeap (Value.ref D) && Value.builtin "BaseException.__getattribute__" == Value.builtin "object.__getattribute__") = false := by rw [hx2]; rfl
  unfold getAttr? getAttrBy? getAttrBy
  refine wpAny_bind (wpAny_mkText (wpAny_bind (wpAny_attempt (wpAny_holding (wpAny_bind (L0.at (wpAny_bind (L1.at ?_))))))))
  show wpAny _ _ (if (onTheHeap (Value.ref D) && Value.builtin "BaseException.__getattribute__" == Value.builtin "object.__getattribute__") = true then _ else _) _ _ _
  rw [hx1, if_neg Bool.false_ne_true]
  unfold getAttrByItsOwn hookBefore
  refine wpAny_bind ?_
  rw [if_pos (show onTheHeap (Value.ref D) = true from rfl)]
  refine L2.at ?_
  refine wpAny_bind (wpAny_attempt (wpAny_holding ?_))
  unfold callGetattribute
  rw [hx0, if_neg Bool.false_ne_true]
  unfold boundAndCalled
  rw [PySem.F.excAttr_ValueError.ga.bind (.ref x)]
  refine wpAny_bind (wpAny_pure ?_)
  show wpAny _ _ (call (.builtin "BaseException.__getattribute__") [.ref x, .str "__class__" t]) _ _ _
  refine wpAny_call (codeAny_call_builtin PySem.F.excAttr_ValueError.ga.plain PySem.F.entry_bexc_ga ?_)
  refine @check_slot (model prog w) _ _ ⟨hp, g, d, t + 1, os⟩ "BaseException.__getattribute__" "BaseException" "__getattribute__" (.ref x) [.str "__class__" t] [] _ (by decide +kernel) (by decide +kernel) sub (PySem.F.args_bexc_ga (.ref x) (.str "__class__" t)) ?_
  unfold Builtin.«object.__getattribute__»
  refine wpAny_bind (wpAny_of_eq (a := ((Value.ref x : Value), [Value.str "__class__" t])) (by first | rfl | (simp only [slotArgs]; rfl)) ?_)
  refine wpAny_bind (wpAny_pure (wpAny_bind (L0.at (wpAny_bind (L3.at ?_)))))
  show wpAny _ _ (holding [Value.builtin "object.__class__"] (call (.builtin "getset_descriptor.__get__") [.builtin "object.__class__", .ref x, .ref D]) >>= PySem.ret) _ _ _
  refine wpAny_bind (wpAny_holding (wpAny_call (class_get (s := ⟨hp, g, d, t + 1, os⟩) (ox := ox) (od := od) X I c.hm ?_)))
  refine wpAny_pure ?_
  show wpAny _ _ (handedOut (.ref D)) _ _ _
  rw [handedOut_of (v := .ref D) rfl]
  first
    | exact wpAny_pure (wpAny_pure h)
    | exact wpAny_pure h
    | exact wpAny_pure (wpAny_bind (wpAny_pure (wpAny_pure h)))
theorem kitx_excF (c : L2.ExcC K D) : KitX K (.ref x) (.ref D) (fun h => InstAt h x ox D od) where
  ty := fun _ _ _ I => I.type
  it := fun _ _ X _ => by
    obtain ⟨cd, hc, _⟩ := any_some c.hd
    unfold clsIn at hc
    split at hc
    · rename_i _ _ _ _ ho
      intro A' Q' E' s' k q
      unfold isType loadHead
      exact wpAny_bind (wpAny_loadPart (k _ _ (X _ _ ho)) (wpAny_pure q))
    · cases hc
  ne := fun h tp dd its n sl X htp => by
    obtain ⟨cd, hc, _⟩ := any_some c.hd
    refine Bool.eq_false_iff.mpr fun q => ?_
    obtain rfl : D = tp := Value.ref.inj (beq_iff_eq.mp q)
    unfold clsIn at hc
    split at hc
    · rename_i _ _ _ _ ho
      have z := (X _ _ ho).symm.trans htp
      cases z
    · cases hc
  ca := fun X I k => kin_classF c X I k
end
end DL
namespace DL
open PySem PySem.Spec L2 PyProof.Rows
variable [Nfo]
def TyF (K : PySem.W.Frag) (H : Hp) (v : V) (t : Value) : Prop := TyE K H v t ∨ ∃ a D d fs, v = .ref a ∧ H a = some (ExcT a (.ref D) (some d)) ∧ H d = some (.xd fs) ∧ ExcC K D ∧ t = .ref D
section
variable {X : Cx} {pins : List (Addr × Obj)} {σ : L2.St} {H : Hp} {s : Shared}
theorem kit_ofF {x : V} {u t : Value} (I : Inv X pins σ H s) (rx : RelV x u) (ty : TyF X.K H x t) : ∃ G : Heap → Prop, PySem.W.KitX X.K u t G ∧ G s.heap ∧ u ≠ .builtin "__main__.__loader__#opaque" := by
  rcases ty with ty | ⟨a, D, d, fs, rfl, e, e4, c, rfl⟩
  · exact kit_ofE I rx ty
  · obtain rfl : u = Value.ref a := rx
    obtain ⟨⟨ob, vs, e1, e2, e3⟩, _, _⟩ := I.hok a _ e
    obtain ⟨mA, hns, _⟩ : ObjOk X.prog X.w H s.heap d (.xd fs) := I.hok d _ e4
    obtain ⟨od, ho, _⟩ := lookIn_ns hns
    obtain ⟨oc, odd, dt, sl⟩ := ob
    obtain ⟨z1, z2⟩ := e2
    dsimp only at z1 z2 e3
    subst z1 z2 e3
    exact ⟨_, kitx_excF (od := some od) c, ⟨e1, rfl, rfl, ho⟩, fun z => nomatch z⟩
end
section
variable {X : Cx}
def rIsF1 (K : PySem.W.Frag) : List V → Hp → VK → Prop := fun xs H Q => ∃ (x c : V) (t u : Value) (b : Bool), xs = [x, c] ∧ ClsV c u ∧ TyF K H x t ∧ PySem.W.kitOne K t u = some b ∧ Q (.bl b) H
def rIsFT (K : PySem.W.Frag) : List V → Hp → VK → Prop := fun xs H Q => ∃ (x : V) (tp : Addr) (cs : List V) (t : Value) (us : List Value) (b : Bool), xs = [x, .ref tp] ∧ H tp = some (.tup cs) ∧ Paired ClsV cs us ∧ TyF K H x t ∧ PySem.W.kitAny K t us = some b ∧ Q (.bl b) H
theorem call_isF1 : CallR X (.builtin "isinstance") (rIsF1 X.K) := by
  intro pins s σ H xs us Q I r ⟨x, c, t, u, b, e0, k, ty, e, q⟩
  subst e0
  obtain ⟨v1, v2, rfl, r1, r2⟩ := vals2 r
  obtain rfl := k.eq r2
  obtain ⟨G, Z, p, hx⟩ := kit_ofF I r1 ty
  exact PySem.W.kia_one Z I.kIn p e hx fun n => ⟨.bl b, H, I.tok n, rfl, q⟩
theorem call_isFT : CallR X (.builtin "isinstance") (rIsFT X.K) := by
  intro pins s σ H xs us Q I r ⟨x, tp, cs, t, ws, b, e0, hT, k, ty, e, q⟩
  subst e0
  obtain ⟨v1, v2, rfl, r1, r2⟩ := vals2 r
  obtain rfl : v2 = Value.ref tp := r2
  obtain ⟨G, Z, p, hx⟩ := kit_ofF I r1 ty
  obtain ⟨_, its, rv, ob, e1, e2, n, e3⟩ := I.hok tp _ hT
  obtain rfl := ClsV.all k rv
  obtain ⟨oc, od, dt, sl⟩ := ob
  dsimp only at e2 e3
  subst e2 e3
  exact PySem.W.kia_tup Z I.kIn p e1 e hx fun m => ⟨.bl b, H, I.tok m, rfl, q⟩
end
section
variable {X : Cx} {W : WX} {a ce : Expr} {es : List Expr} {vs : List V} {us : List Value} {cv : V} {u : Value} {ra : E} {p pos tpos : Pos} {k : Nat} {tab : List (Str × Bool)}
theorem isF_ok {K : PySem.W.Frag} {H : Hp} {ρ : List Addr} {S : Sto} {f : Value → Option Bool} {d : D} {v : V} {Wx : XW} {kk : D → Sto → List Addr → Hp → Prop} (rv : DR K H ρ d v) (ok : IsOk K Nfo.mg f tab) (hn : f (.type "NoneType") = some false) (h : Post K Nfo.mg Wx S ρ H (fIsF tab d S) kk) :
    ∃ (t : Value) (b : Bool), TyF K H v t ∧ f t = some b ∧ Post K Nfo.mg Wx S ρ H (R.ok (D.p (.bool b)) S) kk ∧ ∀ H', (∀ b o, H b = some o → H' b = some o) → TyF K H' v t := by
  cases d with
  | exn e =>
    cases rv with
    | @exn _ a cls dd h1 h2 =>
      replace h : Post K Nfo.mg Wx S ρ H ((match tabGet tab e.c with | some b => ret (.p (.bool b)) | none => no : M D) S) kk := h
      cases q : tabGet tab e.c with
      | none => rw [q] at h; exact h.elim
      | some b =>
        rw [q] at h
        obtain ⟨C, g, rfl, hp⟩ := h2
        unfold tabGet at q
        cases q3 : tab.find? fun p => decide (p.1 = e.c) with
        | none => rw [q3] at q; cases q
        | some z =>
          rw [q3] at q
          cases q
          have m := List.mem_of_find?_eq_some q3
          have ez : z.1 = e.c := by
            have := List.find?_some q3
            simpa using this
          obtain ⟨ec, ef⟩ := ok z m C (by rw [ez]; exact g)
          cases q2 : e.pay with
          | none =>
            rw [q2] at hp
            obtain rfl : dd = none := hp
            exact ⟨_, _, .inl (.inr ⟨a, C, rfl, h1, ec, rfl⟩), ef, h, fun H' st => .inl (.inr ⟨a, C, rfl, st _ _ h1, ec, rfl⟩)⟩
          | some y =>
            rw [q2] at hp
            obtain ⟨d2, w, e1, e2, _⟩ := hp
            subst e1
            exact ⟨_, _, .inr ⟨a, C, d2, _, rfl, h1, e2, ec, rfl⟩, ef, h, fun H' st => .inr ⟨a, C, d2, _, rfl, st _ _ h1, st _ _ e2, ec, rfl⟩⟩
  | p x =>
    cases x with
    | none =>
      cases rv with
      | p rv =>
        cases rv
        exact ⟨_, _, .inl (.inl (.base .non)), hn, h, fun H' _ => .inl (.inl (.base .non))⟩
    | _ => exact h.elim
  | _ => exact h.elim
theorem g_isF (hmg : X.mg = Nfo.mg) (hg : Gl X "isinstance" := by rfl) (hm : X.mg "isinstance" = none) (hc : PE X ce (tC cv)) (cl : ClsV cv u) (hn : PySem.W.kitOne X.K (.type "NoneType") u = some false) (ok : IsOk X.K Nfo.mg (fun t => PySem.W.kitOne X.K t u) tab) (ha : GE X W a ra)
    (he : starEach (a :: [ce]) X.env = (false, eval a X.env) :: starEach [ce] X.env := by rfl) (he2 : starEach [ce] X.env = (false, eval ce X.env) :: starEach [] X.env := by rfl) (hpl : (backTo pos (starEach [ce] X.env)).any (·.1) = false := by rfl) :
    GE X W (.Call (.Name "isinstance" p) [a, ce] [] pos) (eIsF tab ra) := by
  refine PE.imp (pe_callB call_isF1 hg hm (by decide +kernel) (pa_cons ha (pa_cons hc pa_nil he2) he) (by decide) (by decide) he hpl) fun σ H Q q => ?_
  refine one (f := fIsF tab) (r := fun v H Q => rIsF1 X.K [v, cv] H Q) q fun d S ρ H2 v ss rv h => ?_
  rw [hmg] at h
  obtain ⟨t, b, ty, ef, h, _⟩ := isF_ok rv ok hn h
  exact ⟨v, cv, t, u, b, rfl, cl, ty, ef, h H2 ρ Ext.refl ss _ (.p (.bl _))⟩
theorem g_isFT (hmg : X.mg = Nfo.mg) (hg : Gl X "isinstance" := by rfl) (hm : X.mg "isinstance" = none) (hc : ClsA X es vs us) (hl : vs.length ≤ 1000) (hn : PySem.W.kitAny X.K (.type "NoneType") us = some false) (ok : IsOk X.K Nfo.mg (fun t => PySem.W.kitAny X.K t us) tab) (ha : GE X W a ra)
    (he : starEach (a :: [.Tuple es k tpos]) X.env = (false, eval a X.env) :: starEach [.Tuple es k tpos] X.env := by rfl) (he2 : starEach [.Tuple es k tpos] X.env = (false, eval (.Tuple es k tpos) X.env) :: starEach [] X.env := by rfl) (hpl : (backTo pos (starEach [.Tuple es k tpos] X.env)).any (·.1) = false := by rfl) :
    GE X W (.Call (.Name "isinstance" p) [a, .Tuple es k tpos] [] pos) (eIsF tab ra) := by
  refine PE.imp (pe_callB call_isFT hg hm (by decide +kernel) (pa_cons ha (pa_cons (pe_tup hc.run) pa_nil he2) he) (by decide) (by decide) he hpl) fun σ H Q q => ?_
  refine one (f := fIsF tab) (r := fun v H Q => vs.length ≤ sizeLine ∧ ∀ T, H T = none → rIsFT X.K [v, .ref T] (upd H T (.tup vs)) Q) q fun d S ρ H2 v ss rv h => ?_
  rw [hmg] at h
  obtain ⟨t, b, ty, ef, h, mono⟩ := isF_ok rv ok hn h
  refine ⟨Nat.le_trans hl (by rw [sizeLine_eq]; decide), fun T hT => ?_⟩
  obtain ⟨s2, x2⟩ := ss.lay (o := .tup vs) hT
  exact ⟨v, T, vs, t, us, b, rfl, upd_same, hc.cls, mono _ fun c o e => by rw [upd_ne (ne_of_none e hT)]; exact e, ef, h _ ρ x2 s2 _ (.p (.bl _))⟩
/-! ## x.f -/
def FldOk (K : PySem.W.Frag) (mg : Str → Option Value) (cs : List Str) (f : Str) : Prop := ∀ c ∈ cs, ∀ C, mg c = some (.ref C) → XfC K C ∧ PySem.W.findIn K (.ref C) f = some none
theorem fldOk_nil {K : PySem.W.Frag} {mg : Str → Option Value} {f : Str} : FldOk K mg [] f := fun c hc => nomatch hc
theorem fldOk_cons {K : PySem.W.Frag} {mg : Str → Option Value} {f c : Str} {cs : List Str} {C : Addr} (g : mg c = some (.ref C)) (x : XfC K C) (h : PySem.W.findIn K (.ref C) f = some none) (t : FldOk K mg cs f) : FldOk K mg (c :: cs) f := fun e he D hD => by
  rcases List.mem_cons.mp he with rfl | he
  · rw [hD] at g
    cases g
    exact ⟨x, h⟩
  · exact t e he D hD
def rFld (K : PySem.W.Frag) (f : Str) : V → Hp → VK → Prop := fun x H Q => ∃ (a C dd : Addr) (fs : List (Str × V)) (v : V), x = .ref a ∧ H a = some (ExcT a (.ref C) (some dd)) ∧ XfC K C ∧ PySem.W.findIn K (.ref C) f = some none ∧ H dd = some (.xd fs) ∧ fs.lookup f = some v ∧ Q v H
theorem pe_fldV {te : TE} {f : Str} (ha : PE X a te) (hb : attributeBase a f X.env (eval a X.env) = eval a X.env := by rfl) : PE X (.Attribute a f pos) (tUn (rFld X.K f) te) := by
  refine ⟨fun pins s σ H Q I h => ?_⟩
  refine attr_of hb (thn (ha.run pins s σ H _ I h) fun u s1 hh => ?_)
  obtain ⟨x, H1, I1, rx, b, C, dd, fs, v, ex, e1, T, hno, e2, l, q⟩ := hh
  subst ex
  obtain rfl : u = Value.ref b := rx
  obtain ⟨⟨ob, ws, o1, hz, hd⟩, _, _⟩ := I1.hok b _ e1
  have hx : ObjOk X.prog X.w H1 s1.heap dd (.xd fs) := I1.hok dd _ e2
  obtain ⟨mA, hns, hr⟩ := hx
  obtain ⟨od, ho, hl⟩ := lookIn_ns hns
  obtain ⟨u, hu, ru⟩ := RelO.some_of (v := v) (o := mA f) (by rw [← l]; exact hr f)
  have J : PySem.W.InstAt s1.heap b ob C (some od) := ⟨o1, hz.1, by unfold PySem.W.notCls; rw [hd] <;> rfl, by rw [hz.2]; exact ho⟩
  exact HandSPX.exc_get I1.kIn J T.ga T.gg T.exC (PySem.W.findObj_own T.hdC hno rfl (by rw [hl, hu])) (handed_of ru) ⟨v, H1, I1.tok _, ru, q⟩
theorem g_fld {cs : List Str} {f : Str} (hmg : X.mg = Nfo.mg) (ok : FldOk X.K Nfo.mg cs f) (ha : GE X W a ra) (hb : attributeBase a f X.env (eval a X.env) = eval a X.env := by rfl) : GE X W (.Attribute a f pos) (eFld cs f ra) := by
  refine PE.imp (pe_fldV ha hb) fun σ H Q q => ?_
  refine one (f := fFld cs f) (r := rFld X.K f) q fun d S ρ H2 v ss rv h => ?_
  rw [hmg] at h
  cases d with
  | exn e =>
    cases rv with
    | @exn _ a cls dd h1 h2 =>
      obtain ⟨C, g, rfl, hp⟩ := h2
      replace h : Post X.K Nfo.mg _ S ρ H2 ((match e.pay with | some (g, x) => if e.c ∈ cs ∧ g = f then ret (.p x) else no | none => no : M D) S) _ := h
      cases q2 : e.pay with
      | none => rw [q2] at h; exact h.elim
      | some y =>
        obtain ⟨fn, x⟩ := y
        rw [q2] at h hp
        by_cases hc : e.c ∈ cs ∧ fn = f
        · replace h : Post X.K Nfo.mg _ S ρ H2 ((if e.c ∈ cs ∧ fn = f then ret (D.p x) else no : M D) S) _ := h
          rw [if_pos hc] at h
          obtain ⟨d2, w, e1, e2, e3⟩ := hp
          subst e1
          obtain ⟨T, hno⟩ := ok _ hc.1 C g
          obtain ⟨_, rfl⟩ := hc
          exact ⟨a, C, d2, _, w, rfl, h1, T, hno, e2, by rw [List.lookup_cons, beq_self_eq_true], h H2 ρ Ext.refl ss _ (.p e3)⟩
        · replace h : Post X.K Nfo.mg _ S ρ H2 ((if e.c ∈ cs ∧ fn = f then ret (D.p x) else no : M D) S) _ := h
          rw [if_neg hc] at h
          exact h.elim
  | _ => exact h.elim
end
end DL

namespace DL
open PySem PySem.Spec L2 PyProof.Rows
/-! ## raise C(a), C an error with its own __init__ -/
section
variable {X : Cx} {o e : Expr} {es : List Expr} {ta : TA} {p1 p2 pos : Pos} {x : Str} {CW : Addr}
/-- what the class above says -/
structure SupC (K : PySem.W.Frag) (CW : Addr) : Prop where
  sp : PySem.W.specialIn K (.ref CW) "__getattribute__" = some (some (.builtin "type.__getattribute__"))
  rd : PySem.W.readsIn K CW (.type "type") = true
  fc : PySem.W.findCls K (.ref CW) (.type "type") "__init__" = some (.val (.builtin "ValueError.__init__"))
/-- C.__init__(self, ..), C an own class without __init__ -/
theorem pe_ceinit {pl : Sem Bool} (hg : Gl X x) (hm : X.mg x = some (.ref CW)) (c : SupC X.K CW) (ha : PA X (e :: es) ta)
    (hc : eval (.Call (.Attribute (.Name x p1) "__init__" p2) (e :: es) [] pos) X.env = (do
      let ov ← eval (.Name x p1) X.env
      standAt p2.atName
      let (f, first) ← holding [ov] (getMethod ov "__init__" pl)
      callWith pos f first (backTo pos (starEach (e :: es) X.env)) (backToKw pos (keywordEach [] X.env)))) (hdb : (x == ("__debug__" : Str)) = false)
    (he : starEach (e :: es) X.env = (false, eval e X.env) :: starEach es X.env := by rfl) (hpl : (backTo pos (starEach es X.env)).any (·.1) = false := by rfl) :
    PE X (.Call (.Attribute (.Name x p1) "__init__" p2) (e :: es) [] pos) (tVeI X.K ta) := by
  refine ⟨fun pins s σ H Q I h => ?_⟩
  refine PySem.W.methodCall_KW (ld_glob I hg hm ?_ hdb) hc
  refine PySem.W.method_cls I.kIn c.sp (PySem.W.cls_value I.kIn c.rd c.fc (by decide +kernel) ?_)
  show wpAny _ _ (callWith pos (Value.builtin "ValueError.__init__") [] (backTo pos (starEach (e :: es) X.env)) []) _ _ _
  refine PyProof.Rows.callWith_method1 (thn (ha.run pos pins _ σ H _ (I.tok _) h) fun us s1 ⟨vs, H1, I1, r1, a, C, ws, ev, hl, T, ea, q⟩ => ?_) he hpl
  subst ev
  cases r1 with
  | @cons _ u0 _ ur ra rw' =>
    obtain rfl : u0 = Value.ref a := ra
    have hlen : ur.length ≤ sizeLine := by
      rw [← Paired.length rw', sizeLine_eq]
      omega
    exact oinit_ok T I1 ea hlen fun s' J => ⟨.non, H1, J, rfl, q⟩
end
/-- a class's first def -/
def clsD : Stmt → Stmt
  | .ClassDef _ _ _ (d :: _) _ _ _ _ _ _ _ => d
  | s => s
/-- what the __init__ promises -/
def initSp (K : PySem.W.Frag) (f : Str) : Sp := fun vs H Q _ => ∃ a v C, vs = [.ref a, v] ∧ OexC K C ∧ PySem.W.findIn K (.ref C) f = some none ∧ H a = some (exo a C none) ∧
  ∀ dx, H dx = none → dx ≠ a → Q .non (upd (upd H dx (exd dx [(f, v)])) a (exo a C (some dx)))
section
variable {P : Program} {w : World} {K : PySem.W.Frag} {mg : Str → Option Value} {base : Heap}
theorem init_ok {f CW : Addr} {qual g x m prm : Str} {st : Stmt} {fd : FuncData} {j : Nat} {p1 p2 p3 p4 p5 p6 p7 p8 p9 p10 : Pos} (F : Fun K "__init__" qual st f fd) (sc : FnScope ["self", prm] ["self", prm] (defScope st))
    (hx : mg x = some (.ref CW)) (c : SupC K CW)
    (hb : defBody st = [.Expr (.Call (.Attribute (.Name x p1) "__init__" p2) [.Name "self" p3, .Constant (.str m) j p4] [] p5) p6, .Assign [.Attribute (.Name "self" p7) g p8] (.Name prm p9) p10])
    (ev : ∀ (env : PySem.Env), ∃ pl : Sem Bool, eval (.Call (.Attribute (.Name x p1) "__init__" p2) [.Name "self" p3, .Constant (.str m) j p4] [] p5) env = (do
      let ov ← eval (.Name x p1) env
      standAt p2.atName
      let (f, first) ← holding [ov] (getMethod ov "__init__" pl)
      callWith p5 f first (backTo p5 (starEach [.Name "self" p3, .Constant (.str m) j p4] env)) (backToKw p5 (keywordEach [] env))))
    (gl : (defScope st).names.lookup x = some .globalImplicit) (hdb : (x == ("__debug__" : Str)) = false) (hdp : (prm == ("__debug__" : Str)) = false) (hcp : (prm == ("__classdict__" : Str)) = false)
    (hs0 : (defScope st).names.lookup ("self" : Str) = some .local) (hs1 : (defScope st).names.lookup prm = some .local) : FnOk P w K mg base CX0 1 f fd ["self", prm] (initSp K g) := by
  obtain ⟨oc, od, kV, doc, pm, an, cdv, ct, osl, rfl, lk, hcd⟩ := F.ex
  refine fn_of lk hcd sc (fun vs H Q E q => by obtain ⟨a, v, C, rfl, _⟩ := q; rfl) fun A outer s H vs Q E room q => ?_
  obtain ⟨a, v, C, rfl, T, hno, ha, q⟩ := q
  rw [hb]
  obtain ⟨pl, ev⟩ := ev (cxOf CX0 P w K mg base ["self", prm] qual (defScope st) f cdv A outer s H E).env
  refine ⟨_, pss_cons (ps_expr (pe_ceinit (pl := pl) ?gl hx c (pa_cons (pe_var (i := 0) rfl (.inl hs0) (by decide) (by decide)) (pa_cons pe_str pa_nil)) ev hdb)) (pss_one (ps_ost (f := g) (pe_var (i := 0) rfl (.inl hs0) (by decide) (by decide)) (pe_var (i := 1) rfl (.inl hs1) hdp hcp))), ?_⟩
  case gl => exact gl
  exact ⟨.ref a, rfl, a, C, [.str m], rfl, (by show 1 ≤ 1000; decide), T, ha, v, rfl, .ref a, rfl, a, C, rfl, T, hno, .inl ⟨ha, q⟩⟩
end
section
variable [Nfo]
variable {X : Cx} {W : WX} {C fI : Addr} {x f : Str} {fd : FuncData} {ps : List Str} {k : Nat} {a : Expr} {ra : E} {p pos pos' : Pos}
theorem gb_raiseF (T : OexC X.K C) (iC : PySem.W.findIn X.K (.ref C) "__init__" = some (some (.ref fI))) (tI : PySem.W.typeIn X.K (.ref fI) = some (.type "function")) (F1 : FnOk X.prog X.w X.K X.mg X.base CX0 k fI fd ps (initSp X.K f)) (hr : Room (k + 1) X.A)
    (hb : Binds X.K fd ps []) (hno : PySem.W.findIn X.K (.ref C) f = some none) (gC : X.mg x = some (.ref C)) (hg : Gl X x) (hc : X.calm = true) (tk : Takes X W) (ha : GE X W a ra) (hdb : (x == ("__debug__" : Str)) = false := by decide)
    (he : starEach [a] X.env = (false, eval a X.env) :: starEach [] X.env := by rfl) : GB X W (.Raise (some (.Call (.Name x p) [a] [] pos)) none pos') (sRaiseF x f ra) := by
  refine PS.imp (ps_raise hc tk (pmk_oex T iC tI F1 hr hb .nil pass0 hg gC (pa_cons ha pa_nil he) hdb he rfl)) fun D σ H q => ?_
  obtain ⟨env, S, ρ, se, ss, h⟩ := q
  refine ⟨env, S, ρ, se, ss, pre h fun d S1 ρ1 H1 _ x1 s1 h1 v rv => ?_⟩
  cases d with
  | p y =>
    cases rv with
    | p rv =>
      refine ⟨(by show 1 ≤ 1000; decide), fun e he => ⟨e, v, C, rfl, T, hno, upd_same, fun dx hdx ne => ?_⟩⟩
      have hd1 : H1 dx = none := by rw [upd_ne ne] at hdx; exact hdx
      refine ⟨rfl, dx, [(f, v)], upd_same, by rw [upd_ne ne, upd_same], hd1, ?_⟩
      have eH : upd (L2.del (upd (upd (upd H1 e (exo e C none)) dx (exd dx [(f, v)])) e (exo e C (some dx))) e) dx (.xd [(f, v)]) = upd H1 dx (.xd [(f, v)]) := by
        funext b
        by_cases hbd : b = dx
        · rw [hbd, upd_same, upd_same]
        · rw [upd_ne hbd, upd_ne hbd]
          by_cases hbe : b = e
          · rw [hbe, L2.del_same, he]
          · rw [L2.del_ne hbe, upd_ne hbe, upd_ne hbd, upd_ne hbe]
      rw [eH]
      obtain ⟨s2, x2⟩ := s1.lay (o := .xd [(f, v)]) hd1
      exact h1 _ ρ1 (.ref C) (some dx) x2 s2 ⟨C, gC, rfl, dx, v, rfl, upd_same, rv.mono x2.st⟩ σ
  | _ => exact h1.elim
end
end DL

namespace DL
open PySem PySem.Spec L2 PyProof.Rows
variable [Nfo]
/-! ## texts: cut, walked; ranges downwards -/
section
variable {X : Cx} {W : WX} {a b c : Expr} {ra rb rc : E} {p pos : Pos} {x : Str} {tg : Expr}
theorem g_cutA (fz : Bool) {lo hi : Option Expr} {rl rh : DL.O} {p2 : Pos} (ha : GE X W a ra) (hl : GO X W lo rl) (hh : GO X W hi rh) : GE X W (.Subscript a (.Slice lo hi none p2) pos) (eCutA fz ra rl rh) := by
  refine PE.imp (pe_frz (pe_slice ((sl_list.or sl_tupN).or sl_str) ha hl hh)) fun σ H Q q => ?_
  obtain ⟨env, S, ρ, se, ss, h⟩ := q
  refine ⟨env, S, ρ, se, ss, (Post.bnd h).imp fun d S1 ρ1 H1 _ x1 s1 h1 v rv => ⟨env, S1, ρ1, se.mono x1.st x1.pre, s1, (Post.bnd h1).imp fun l S2 ρ2 H2 _ x2 s2 h2 => ⟨env, S2, ρ2, (se.mono x1.st x1.pre).mono x2.st x2.pre, s2, (Post.bnd h2).imp fun k S3 ρ3 H3 _ x3 s3 h3 => ?_⟩⟩⟩
  replace rv := rv.mono (x2.trans x3).st (x2.trans x3).pre
  unfold bnd see at h3
  cases q1 : view S3 d with
  | none => rw [q1] at h3; exact h3.elim
  | some x =>
    simp only [q1] at h3
    have hv := view_dp s3 rv q1
    cases x with
    | list xs =>
      obtain ⟨t, vs, rfl, e1, r1⟩ := Vw.list hv
      exact .inl (.inl ⟨t, vs, rfl, e1, fun p hp => ansP s3 h3 (r1.cut l k) hp⟩)
    | tuple xs =>
      obtain ⟨t, vs, rfl, e1, r1⟩ := Vw.tupleN hv
      have len := r1.length
      refine .inl (.inr ⟨t, vs, rfl, e1.sq, fun z => ?_, fun z => ansTF s3 h3 (r1.cut l k)⟩)
      have e : cutL xs l k = xs := by
        rw [cut_len xs l k vs.length len.symm, z.1, z.2, List.drop_zero, Nat.sub_zero, ← len, List.take_length]
      replace h3 : Post X.K X.mg _ S3 ρ3 H3 (DL.ret (D.p (.tuple (cutL xs l k))) S3) _ := h3
      rw [e] at h3
      exact .inr (ansD s3 h3 (.p (.tup e1 r1)))
    | str z =>
      replace h3 : Post X.K X.mg _ S3 ρ3 H3 ((if z.length ≤ big then DL.ret (D.p (.str ⟨(cutL z.cps.toList l k).toArray⟩)) else DL.no : DL.M D) S3) _ := h3
      obtain ⟨hl2, h3⟩ := postIf (c := z.length ≤ big) h3
      obtain rfl := Vw.str hv
      have e : cutS z l k = ⟨(cutL z.cps.toList l k).toArray⟩ := by
        rw [cut_len z.cps.toList l k z.length rfl]
        rfl
      refine .inr ⟨z, rfl, by rw [← big_line]; exact hl2, .inr ?_⟩
      rw [e]
      exact ansD s3 h3 (.p (.str _))
    | _ => exact h3.elim
theorem gi_str (ha : GE X W a ra) : GI X W tg a (DL.iStr ra) := by
  refine PI.imp (pi_str ha) fun σ H R q => ?_
  obtain ⟨env, S, ρ, se, ss, h⟩ := q
  refine ⟨env, S, ρ, se, ss, (Post.bnd h).imp fun d S1 ρ1 H1 _ x1 s1 h1 v rv => ?_⟩
  cases d with
  | p y =>
    cases y with
    | str z =>
      obtain ⟨hc, h1⟩ := postIf (c := z.length ≤ big) h1
      cases rv with
      | p rv =>
        cases rv
        have ln : (signs z).length = z.cps.size := by unfold signs; rw [List.length_map, Array.length_toList]
        refine ⟨z, rfl, h1 H1 ρ1 Ext.refl s1 _ ⟨⟨fun _ => True, _, by rw [ln]; exact walk_str, fun _ _ => trivial, fun i H1 x H2 d ρ1 s q e y => ?_⟩, by rw [ln]; exact hc⟩⟩
        obtain ⟨rfl, c, e2, rfl⟩ := y
        unfold signs at e
        rw [List.getElem?_map, Array.getElem?_toList, e2] at e
        cases e
        exact ⟨.inl rfl, .p (.str _)⟩
    | _ => exact h1.elim
  | _ => exact h1.elim
theorem gi_rangeD (hg : Gl X "range" := by rfl) (hm : X.mg "range" = none) (ha : GE X W a ra) (hb : GE X W b rb) (hcc : GE X W c rc) (hs : starEach [a, b, c] X.env = (false, eval a X.env) :: starEach [b, c] X.env := by rfl)
    (hs3 : starEach [b, c] X.env = (false, eval b X.env) :: starEach [c] X.env := by rfl) (hs4 : starEach (c :: []) X.env = (false, eval c X.env) :: starEach [] X.env := by rfl) (hpl : (backTo pos (starEach [b, c] X.env)).any (·.1) = false := by rfl) :
    GI X W tg (.Call (.Name "range" p) [a, b, c] [] pos) (iRangeD ra rb rc) := by
  refine PI.imp (pi_range3 hg hm (pa_cons ha (pa_cons hb (pa_cons hcc pa_nil hs4) hs3) hs) hs hpl) fun σ H R q => ?_
  obtain ⟨env, S, ρ, se, ss, h⟩ := q
  refine ⟨env, S, ρ, se, ss, (Post.bnd h).imp fun d S1 ρ1 H1 _ x1 s1 h1 v rv => ⟨env, S1, ρ1, se.mono x1.st x1.pre, s1, (Post.bnd h1).imp fun e S2 ρ2 H2 _ x2 s2 h2 u ru => ⟨env, S2, ρ2, (se.mono x1.st x1.pre).mono x2.st x2.pre, s2, (Post.bnd h2).imp fun f S3 ρ3 H3 _ x3 s3 h3 w rw' => ?_⟩⟩⟩
  cases d with
  | p y =>
    cases y with
    | int m =>
      cases e with
      | p z =>
        cases z with
        | int n =>
          cases f with
          | p t =>
            cases t with
            | int k =>
              obtain ⟨⟨k1, k2⟩, h4⟩ := postIf (c := rngOk m n = true ∧ k = -1) h3
              subst k2
              obtain ⟨_, g1⟩ := rg_ok k1
              cases rv with
              | p rv =>
                cases rv
                cases ru with
                | p ru =>
                  cases ru
                  cases rw' with
                  | p rw' =>
                    cases rw'
                    have rg := RgC.neg (i := m) (j := n) (by omega) (by omega) (by omega) (by omega)
                    refine ⟨m, n, -1, _, rfl, rg, h4 H3 ρ3 Ext.refl s3 _ ⟨⟨fun _ => True, _, by rw [List.length_map, List.length_range]; exact walk_rangeC, fun _ _ => trivial, fun i H1 x H2 d ρ1 s q e y => ?_⟩, by rw [List.length_map, List.length_range]; unfold big; omega⟩⟩
                    obtain ⟨rfl, rfl⟩ := y
                    rw [List.getElem?_map] at e
                    cases e2 : (List.range (m - n).toNat)[i]? with
                    | none => rw [e2] at e; cases e
                    | some j =>
                      rw [e2] at e
                      cases e
                      have e3 : j = i := by
                        obtain ⟨hlt, e4⟩ := List.getElem?_eq_some_iff.mp e2
                        rw [List.getElem_range] at e4
                        exact e4.symm
                      subst e3
                      refine ⟨.inl rfl, ?_⟩
                      show DR _ _ _ (D.p (.int (m - (j : Nat)))) (V.int (m + (j : Nat) * -1))
                      rw [show m + (j : Nat) * -1 = m - (j : Nat) by omega]
                      exact .p (.int _)
            | _ => exact h3.elim
          | _ => exact h3.elim
        | _ => cases f <;> first | exact h3.elim | (rename_i t; cases t <;> exact h3.elim)
      | _ => cases f <;> first | exact h3.elim | (rename_i t; cases t <;> exact h3.elim)
    | _ => cases e <;> first | (cases f <;> first | exact h3.elim | (rename_i t; cases t <;> exact h3.elim)) | (rename_i z; cases z <;> (cases f <;> first | exact h3.elim | (rename_i t; cases t <;> exact h3.elim)))
  | _ => cases e <;> first | (cases f <;> first | exact h3.elim | (rename_i t; cases t <;> exact h3.elim)) | (rename_i z; cases z <;> (cases f <;> first | exact h3.elim | (rename_i t; cases t <;> exact h3.elim)))
/-- {} as data -/
theorem g_d0 : GE X W (.Dict [] [] pos) eD0 := by
  refine PE.imp (t := fun σ H Q => tDNewK σ H fun x H1 => (∃ a, x = .ref a ∧ H1 a = some (.dK []) ∧ ∀ o, Q x (upd H1 a (.frz o (.dK [])))) ∨ Q x H1) ⟨fun pins s σ H Q I q => thn (pe_dnewK.run pins s σ H _ I q) fun u s1 ⟨x, H1, I1, rx, q1⟩ => ?_⟩ fun σ H Q q p np => ?_
  · rcases q1 with ⟨l, rfl, hl, q1⟩ | q1
    · obtain ⟨od, I2⟩ := I1.lock hl trivial
      exact ⟨_, _, I2, rx, q1 od⟩
    · exact ⟨_, _, I1, rx, q1⟩
  · obtain ⟨env, S, ρ, se, ss, q⟩ := q
    refine .inl ⟨p, rfl, upd_same, fun o => ?_⟩
    have e : upd (upd H p (.dK [])) p (.frz o (.dK [])) = upd H p (.frz o (.dK [])) := by
      funext b
      by_cases hb : b = p
      · subst hb; rw [upd_same, upd_same]
      · rw [upd_ne hb, upd_ne hb, upd_ne hb]
    rw [e]
    obtain ⟨s2, x2⟩ := ss.lay (o := .frz o (.dK [])) np
    exact q _ _ x2 s2 _ (.p (.dct0 ⟨o, upd_same⟩))
theorem cg_leS : CmpG X .LtE fLeS := ⟨_, op_le_str, fun x y S ρ H2 v u Q Wx ss hv hu p => by
  cases x with
  | str i =>
    cases y with
    | str j => exact ⟨i, j, Vw.str hv, Vw.str hu, ans ss p (.bl _)⟩
    | _ => exact p.elim
  | _ => exact p.elim⟩
end
end DL

namespace DL
open PySem PySem.Spec L2
variable [Nfo]
/-! ## calls of own functions that take nothing -/
section
variable {X : Cx} {W : WX} {F : List D → M D} {k : Nat} {f : Addr} {fd : FuncData} {ps : List Str} {x : Str} {p pos : Pos}
theorem g_call0 (h : FnD X.prog X.w X.K X.mg X.base k f fd ps F) (hr : Room k X.A) (hG : X.A.guards = some []) (hg : Gl X x) (hm : X.mg x = some (.ref f)) (hk : PySem.W.keepIn X.K (.ref f) = true) (hb : Binds X.K fd ps []) (tk : Takes X W) (hdb : (x == ("__debug__" : Str)) = false := by decide) :
    GE X W (.Call (.Name x p) [] [] pos) (eCall F aNil) :=
  PE.imp (pe_callD0 h hr hG hg hm hk hb tk hdb) fun σ H Q q => by
    have r := args_ok (rs := aNil) (F := F) (G := fun xs => match toPs xs with | some ys => pure1 (F (ys.map .p) []) | none => no) q fun ds S ρ H1 vs r ss h => callP_ok ds S ρ vs r ss h
    obtain ⟨env, S, ρ, se, ss, h⟩ := r
    exact h H ρ Ext.refl ss [] .nil
theorem g_callL0 (h : FnD X.prog X.w X.K X.mg X.base k f fd ps F) (hr : Room k X.A) (hG : X.A.guards = some []) (hg : Gl X x) (hm : X.mg x = some (.ref f)) (hk : PySem.W.keepIn X.K (.ref f) = true) (hb : Binds X.K fd ps []) (tk : Takes X W) (hdb : (x == ("__debug__" : Str)) = false := by decide) :
    GE X W (.Call (.Name x p) [] [] pos) (eCallL F aNil) :=
  PE.imp (pe_callD0 h hr hG hg hm hk hb tk hdb) fun σ H Q q => by
    have r := args_ok (rs := aNil) (F := F) q fun ds S ρ H1 vs r ss h => callL_ok ds S ρ vs r ss h
    obtain ⟨env, S, ρ, se, ss, h⟩ := r
    exact h H ρ Ext.refl ss [] .nil
end
end DL

namespace DL
open PySem PySem.Spec L2
variable [Nfo]
/-! ## a list of anything, against the empty list -/
section
variable {X : Cx}
def rNeN (K : PySem.W.Frag) : R2 := fun x y H Q => ∃ (a b : Addr) (vs : List V), x = .ref a ∧ y = .ref b ∧ SqL K H a vs ∧ SqL K H b [] ∧ Q (.bl (!vs.isEmpty)) H
theorem op_neN (hu : X.A.units + 64 < cLine) : OpR X (compareOp .NotEq) (rNeN X.K) := by
  intro pins s σ H x y v u Q I rx ry h
  obtain ⟨a, b, vs, rfl, rfl, h1, h2, q⟩ := h
  cases rx
  cases ry
  obtain ⟨its, rv, ⟨o, n, ho, hc, _, hd⟩, _⟩ := I.list h1
  obtain ⟨its2, rv2, ⟨o2, n2, ho2, hc2, _, hd2⟩, _⟩ := I.list h2
  have hl : s.heap.IsList a its.toArray := ⟨_, ho, hc, _, hd⟩
  have hl2 : s.heap.IsList b its2.toArray := ⟨_, ho2, hc2, _, hd2⟩
  have e2 : its2 = [] := by cases rv2; rfl
  subst e2
  have room : X.A.units < cLine := by omega
  cases its with
  | nil =>
    cases rv
    exact SeqAt.RcNeAt.lists (e := fun _ => true) hl hl2 rfl room (fun j h => absurd h (Nat.not_lt_zero _)) _ _ _ _ ⟨.bl _, H, I, rfl, q⟩
  | cons i is =>
    cases rv
    exact SeqAt.RcNeAt.lists_lengths hl hl2 (by simp) room _ _ _ _ ⟨.bl _, H, I, rfl, q⟩
theorem cg_neN (hu : X.A.units + 64 < cLine) : CmpG X .NotEq fNeN := by
  refine ⟨_, op_neN hu, fun x y S ρ H2 v u Q Wx ss hv hw p => ?_⟩
  cases x with
  | list xs =>
    cases y with
    | list ys =>
      cases ys with
      | nil =>
        obtain ⟨a, vs, rfl, h1, r1⟩ := hv.list
        obtain ⟨b, ws, rfl, h2, r2⟩ := hw.list
        cases r2
        have q := ans ss p (.bl _)
        have e : xs.isEmpty = vs.isEmpty := by cases r1 <;> rfl
        rw [e] at q
        exact ⟨a, b, vs, rfl, rfl, h1, h2, q⟩
      | cons _ _ => exact p.elim
    | _ => exact p.elim
  | _ => exact p.elim
end
end DL

namespace PySem.SeqAt
open AutoSeq1 (wpAny_loadPart')
open MeetsSeq MeetsSeq2 MeetsSeq3
theorem tuple_ne_declines_dict (l b : Addr) (items : Array Value) (n : Nat) (dt : Data) (dd dd2 : Option Addr) (sl sl2 : Array (Option Value)) :
    Meets (Builtin.«tuple.__ne__» ⟨[.ref l, .ref b], []⟩) (fun _ R s => s.heap.get? l = some { cls := .type "tuple", dict := dd, data := .seq items n, slots := sl } ∧ s.heap.get? b = some { cls := .type "dict", dict := dd2, data := dt, slots := sl2 } ∧ R (.ok (.ret .notImplemented)) s) :=
  .of_wp fun prog w A R s h => by obtain ⟨hp, g, d, tk, os⟩ := s; obtain ⟨hl, hb, h⟩ := h; have f1 := F.sub_dict_tuple; wp_walk using wpAny_loadPart' hl, wpAny_loadPart' hb; exact ⟨_, rfl, h⟩
theorem rcNe_dict_tuple {prog : Program} {w : World} {K : Type} [DecidableEq K] {knd : KeyKind prog w K} {A : Around} {E : Value → Shared → Prop} {s : Shared} {l b : Addr} {ks : List (K × Value)} {items : Array Value} {Q : Value → Shared → Prop}
    (hl : s.heap.DictOf knd l ks) (hb : s.heap.IsTuple b items) (hu : A.units < cLine) (h : Q (.bool true) s) : wpAny (model prog w) A (richCompare .NotEq (.ref l) (.ref b)) Q E s := by
  have tl := hl.typeIs
  obtain ⟨⟨cls, dd, data, sl⟩, es, ep, ho, hc, hd, _⟩ := hl
  obtain ⟨⟨cls2, dd2, data2, sl2⟩, ho2, hc2, n2, hd2⟩ := hb
  obtain ⟨hc, _⟩ := hc
  simp only at hc hd hc2 hd2
  subst hc hd hc2 hd2
  have tb : s.TypeIs (.ref b) "tuple" := ⟨_, ho2, rfl⟩
  have hne : l ≠ b := fun e => by
    subst e
    have z := ho.symm.trans ho2
    injection z with z
    have z2 := congrArg Obj.cls z
    simp at z2
  exact rc_ne_decline_or (k := false) tl tb (by decide) F.sub_tuple_dict F.slot_dict_ne F.slot_tuple_ne_refl
    (fun Q' hq => wpAny_call_entry F.slot_dict_ne tl F.entry_dict_ne (by
      show wpAny _ _ (Builtin.Dict.dictSlotArgs "__ne__" ⟨[.ref l, .ref b], []⟩ >>= _) _ _ s
      refine wpAny_bind ?_
      unfold Builtin.Dict.dictSlotArgs
      refine wpAny_bind (wpAny_notOrdered_dict tl ?_)
      show wpAny _ _ (pure (Value.ref l, Value.ref b)) _ _ s
      refine wpAny_pure ?_
      refine wpAny_bind (wpAny_isInstance (T := "tuple") tb F.sub_tuple_dict ?_)
      simp only [Bool.not_false, if_true]
      refine wpAny_bind (wpAny_rule ?_)
      exact wpAny_pure ⟨_, rfl, hq⟩) (F.args_dict_ne_2 _ _))
    (fun _ hq => call_meets F.slot_tuple_ne_refl tb F.entry_tuple_ne (F.args_tuple_ne_2 _ _) (tuple_ne_declines_dict b l items n2 _ dd2 dd sl2 sl) ⟨ho2, ho, hq⟩)
    (fun _ hq => wpAny_isSame_ref_other hne ho ho2 (by simp) hq) (.inr hu) h
theorem tuple_eq_declines_dict (l b : Addr) (items : Array Value) (n : Nat) (dt : Data) (dd dd2 : Option Addr) (sl sl2 : Array (Option Value)) :
    Meets (Builtin.«tuple.__eq__» ⟨[.ref l, .ref b], []⟩) (fun _ R s => s.heap.get? l = some { cls := .type "tuple", dict := dd, data := .seq items n, slots := sl } ∧ s.heap.get? b = some { cls := .type "dict", dict := dd2, data := dt, slots := sl2 } ∧ R (.ok (.ret .notImplemented)) s) :=
  .of_wp fun prog w A R s h => by obtain ⟨hp, g, d, tk, os⟩ := s; obtain ⟨hl, hb, h⟩ := h; have f1 := F.sub_dict_tuple; wp_walk using wpAny_loadPart' hl, wpAny_loadPart' hb; exact ⟨_, rfl, h⟩
theorem rcEq_dict_tuple {prog : Program} {w : World} {K : Type} [DecidableEq K] {knd : KeyKind prog w K} {A : Around} {E : Value → Shared → Prop} {s : Shared} {l b : Addr} {ks : List (K × Value)} {items : Array Value} {Q : Value → Shared → Prop}
    (hl : s.heap.DictOf knd l ks) (hb : s.heap.IsTuple b items) (hu : A.units < cLine) (h : Q (.bool false) s) : wpAny (model prog w) A (richCompare .Eq (.ref l) (.ref b)) Q E s := by
  have tl := hl.typeIs
  obtain ⟨⟨cls, dd, data, sl⟩, es, ep, ho, hc, hd, _⟩ := hl
  obtain ⟨⟨cls2, dd2, data2, sl2⟩, ho2, hc2, n2, hd2⟩ := hb
  obtain ⟨hc, _⟩ := hc
  simp only at hc hd hc2 hd2
  subst hc hd hc2 hd2
  have tb : s.TypeIs (.ref b) "tuple" := ⟨_, ho2, rfl⟩
  have hne : l ≠ b := fun e => by
    subst e
    have z := ho.symm.trans ho2
    injection z with z
    have z2 := congrArg Obj.cls z
    simp at z2
  exact rc_eq_decline_or (k := false) tl tb (by decide) F.sub_tuple_dict F.slot_dict_eq F.slot_tuple_eq_refl
    (fun Q' hq => wpAny_call_entry F.slot_dict_eq tl F.entry_dict_eq (by
      show wpAny _ _ (Builtin.Dict.dictSlotArgs "__eq__" ⟨[.ref l, .ref b], []⟩ >>= _) _ _ s
      refine wpAny_bind ?_
      unfold Builtin.Dict.dictSlotArgs
      refine wpAny_bind (wpAny_notOrdered_dict tl ?_)
      show wpAny _ _ (pure (Value.ref l, Value.ref b)) _ _ s
      refine wpAny_pure ?_
      refine wpAny_bind (wpAny_isInstance (T := "tuple") tb F.sub_tuple_dict ?_)
      simp only [Bool.not_false, if_true]
      refine wpAny_bind (wpAny_rule ?_)
      exact wpAny_pure ⟨_, rfl, hq⟩) (F.args_dict_eq_2 _ _))
    (fun _ hq => call_meets F.slot_tuple_eq_refl tb F.entry_tuple_eq (F.args_tuple_eq_2 _ _) (tuple_eq_declines_dict b l items n2 _ dd2 dd sl2 sl) ⟨ho2, ho, hq⟩)
    (fun _ hq => wpAny_isSame_ref_other hne ho ho2 (by simp) hq) (.inr hu) h
end PySem.SeqAt
namespace DL
open PySem PySem.Spec L2
variable [Nfo]
/-! ## anything, against the empty tuple -/
section
variable {X : Cx}
def rNeU (K : PySem.W.Frag) : R2 := fun x y H Q => ∃ (d : PyData) (b : Addr), Vw K H d x ∧ y = .ref b ∧ SqT K H b [] ∧ (∀ kvs, d = .dict kvs → kvs = []) ∧ Q (.bl (!isU d)) H
def rEqU (K : PySem.W.Frag) : R2 := fun x y H Q => ∃ (d : PyData) (b : Addr), Vw K H d x ∧ y = .ref b ∧ SqT K H b [] ∧ (∀ kvs, d = .dict kvs → kvs = []) ∧ Q (.bl (isU d)) H
theorem op_neU (hu : X.A.units + 64 < cLine) : OpR X (compareOp .NotEq) (rNeU X.K) := by
  intro pins s σ H x y v u Q I rx ry h
  obtain ⟨d, b, hv, rfl, h2, hd, q⟩ := h
  cases ry
  obtain ⟨its2, rv2, ⟨o2, ho2, hc2, n2, hd2⟩, _⟩ := I.tuple h2
  have e2 : its2 = [] := by cases rv2; rfl
  subst e2
  have hl2 : s.heap.IsTuple b #[] := ⟨_, ho2, hc2, _, hd2⟩
  have room : X.A.units < cLine := by omega
  cases d with
  | none =>
    rcases hv with hv | ⟨_, _, _, _, e, _⟩
    · cases hv
      cases (show v = Value.none from rx)
      exact SeqAt.RcNeAt.none_tuple hl2 room _ _ _ _ ⟨.bl _, H, I, rfl, q⟩
    · cases e
  | bool k =>
    rcases hv with hv | ⟨_, _, _, _, e, _⟩
    · cases hv
      cases (show v = Value.bool k from rx)
      exact SeqAt.RcNeAt.bool_tuple k hl2 room _ _ _ _ ⟨.bl _, H, I, rfl, q⟩
    · cases e
  | int i =>
    have e := hv.int
    subst e
    obtain ⟨t, rfl⟩ := (show ∃ t, v = Value.int i t from rx)
    exact SeqAt.RcNeAt.int_tuple i t hl2 room _ _ _ _ ⟨.bl _, H, I, rfl, q⟩
  | str z =>
    have e := hv.str
    subst e
    obtain ⟨t, rfl⟩ := (show ∃ t, v = Value.str z t from rx)
    exact SeqAt.RcNeAt.str_tuple z t hl2 room _ _ _ _ ⟨.bl _, H, I, rfl, q⟩
  | list xs =>
    obtain ⟨a, vs, rfl, h1, r1⟩ := hv.list
    cases (show v = Value.ref a from rx)
    obtain ⟨its, rv, ⟨o, n, ho, hc, _, hd'⟩, _⟩ := I.list h1
    exact SeqAt.RcNeAt.list_tuple ⟨_, ho, hc, _, hd'⟩ hl2 room _ _ _ _ ⟨.bl _, H, I, rfl, q⟩
  | tuple xs =>
    obtain ⟨a, vs, rfl, h1, r1⟩ := hv.tuple
    cases (show v = Value.ref a from rx)
    obtain ⟨its, rv, ⟨o, ho, hc, n, hd'⟩, _⟩ := I.tuple h1
    have hl : s.heap.IsTuple a its.toArray := ⟨_, ho, hc, _, hd'⟩
    refine SeqAt.RcNeAt.tuples (e := fun _ => true) hl hl2 room (fun j _ h => absurd h (Nat.not_lt_zero _)) _ _ _ _ ⟨.bl _, H, I, rfl, ?_⟩
    have e : (!((List.range (min its.toArray.size (#[] : Array Value).size)).all (fun _ => true) && its.toArray.size == (#[] : Array Value).size)) = !isU (.tuple xs) := by
      cases r1 with
      | nil => cases rv; rfl
      | cons _ _ => cases rv; simp [isU]
    rw [e]
    exact q
  | dict kvs =>
    obtain rfl := hd kvs rfl
    rcases hv with hv | ⟨_, _, _, _, e, _⟩
    · cases hv with
      | @dct0 a h1 =>
        cases (show v = Value.ref a from rx)
        obtain ⟨o, h1⟩ := h1
        obtain ⟨_, gs, vs, kv, hk⟩ := dk_rd I.hok (.inr ⟨o, h1⟩)
        exact SeqAt.rcNe_dict_tuple hk hl2 room ⟨.bl _, H, I, rfl, q⟩
    · cases e
theorem cg_neU (hu : X.A.units + 64 < cLine) : CmpG X .NotEq fNeU := by
  refine ⟨_, op_neU hu, fun x y S ρ H2 v u Q Wx ss hv hw p => ?_⟩
  have tup : ∀ ys, y = .tuple ys → ys = [] → ∃ b, u = .ref b ∧ SqT X.K H2 b [] := fun ys e1 e2 => by
    subst e1 e2
    obtain ⟨b, ws, e, h2, r2⟩ := hw.tuple
    cases r2
    exact ⟨b, e, h2⟩
  cases x with
  | dict kvs =>
    cases kvs with
    | nil =>
      cases y with
      | tuple ys =>
        cases ys with
        | nil =>
          obtain ⟨b, e, h2⟩ := tup [] rfl rfl
          exact ⟨_, b, hv, e, h2, (fun kvs e => by cases e; rfl), ans ss p (.bl _)⟩
        | cons _ _ => exact p.elim
      | _ => exact p.elim
    | cons _ _ => exact p.elim
  | _ =>
    cases y with
    | tuple ys =>
      cases ys with
      | nil =>
        obtain ⟨b, e, h2⟩ := tup [] rfl rfl
        exact ⟨_, b, hv, e, h2, (fun kvs e => by cases e), ans ss p (.bl _)⟩
      | cons _ _ => exact p.elim
    | _ => exact p.elim
theorem op_eqU (hu : X.A.units + 64 < cLine) : OpR X (compareOp .Eq) (rEqU X.K) := by
  intro pins s σ H x y v u Q I rx ry h
  obtain ⟨d, b, hv, rfl, h2, hd, q⟩ := h
  cases ry
  obtain ⟨its2, rv2, ⟨o2, ho2, hc2, n2, hd2⟩, _⟩ := I.tuple h2
  have e2 : its2 = [] := by cases rv2; rfl
  subst e2
  have hl2 : s.heap.IsTuple b #[] := ⟨_, ho2, hc2, _, hd2⟩
  have room : X.A.units < cLine := by omega
  cases d with
  | none =>
    rcases hv with hv | ⟨_, _, _, _, e, _⟩
    · cases hv
      cases (show v = Value.none from rx)
      exact SeqAt.RcAt.none_tuple hl2 room _ _ _ _ ⟨.bl _, H, I, rfl, q⟩
    · cases e
  | bool k =>
    rcases hv with hv | ⟨_, _, _, _, e, _⟩
    · cases hv
      cases (show v = Value.bool k from rx)
      exact SeqAt.RcAt.bool_tuple k hl2 room _ _ _ _ ⟨.bl _, H, I, rfl, q⟩
    · cases e
  | int i =>
    have e := hv.int
    subst e
    obtain ⟨t, rfl⟩ := (show ∃ t, v = Value.int i t from rx)
    exact SeqAt.RcAt.int_tuple i t hl2 room _ _ _ _ ⟨.bl _, H, I, rfl, q⟩
  | str z =>
    have e := hv.str
    subst e
    obtain ⟨t, rfl⟩ := (show ∃ t, v = Value.str z t from rx)
    exact SeqAt.RcAt.str_tuple z t hl2 room _ _ _ _ ⟨.bl _, H, I, rfl, q⟩
  | list xs =>
    obtain ⟨a, vs, rfl, h1, r1⟩ := hv.list
    cases (show v = Value.ref a from rx)
    obtain ⟨its, rv, ⟨o, n, ho, hc, _, hd'⟩, _⟩ := I.list h1
    exact SeqAt.RcAt.list_tuple ⟨_, ho, hc, _, hd'⟩ hl2 room _ _ _ _ ⟨.bl _, H, I, rfl, q⟩
  | tuple xs =>
    obtain ⟨a, vs, rfl, h1, r1⟩ := hv.tuple
    cases (show v = Value.ref a from rx)
    obtain ⟨its, rv, ⟨o, ho, hc, n, hd'⟩, _⟩ := I.tuple h1
    have hl : s.heap.IsTuple a its.toArray := ⟨_, ho, hc, _, hd'⟩
    refine SeqAt.RcAt.tuples (e := fun _ => true) hl hl2 room (fun j _ h => absurd h (Nat.not_lt_zero _)) _ _ _ _ ⟨.bl _, H, I, rfl, ?_⟩
    have e : ((List.range (min its.toArray.size (#[] : Array Value).size)).all (fun _ => true) && its.toArray.size == (#[] : Array Value).size) = isU (.tuple xs) := by
      cases r1 with
      | nil => cases rv; rfl
      | cons _ _ => cases rv; simp [isU]
    rw [e]
    exact q
  | dict kvs =>
    obtain rfl := hd kvs rfl
    rcases hv with hv | ⟨_, _, _, _, e, _⟩
    · cases hv with
      | @dct0 a h1 =>
        cases (show v = Value.ref a from rx)
        obtain ⟨o, h1⟩ := h1
        obtain ⟨_, gs, vs, kv, hk⟩ := dk_rd I.hok (.inr ⟨o, h1⟩)
        exact SeqAt.rcEq_dict_tuple hk hl2 room ⟨.bl _, H, I, rfl, q⟩
    · cases e
theorem cg_eqU (hu : X.A.units + 64 < cLine) : CmpG X .Eq fEqU := by
  refine ⟨_, op_eqU hu, fun x y S ρ H2 v u Q Wx ss hv hw p => ?_⟩
  have tup : ∀ ys, y = .tuple ys → ys = [] → ∃ b, u = .ref b ∧ SqT X.K H2 b [] := fun ys e1 e2 => by
    subst e1 e2
    obtain ⟨b, ws, e, h2, r2⟩ := hw.tuple
    cases r2
    exact ⟨b, e, h2⟩
  cases x with
  | dict kvs =>
    cases kvs with
    | nil =>
      cases y with
      | tuple ys =>
        cases ys with
        | nil =>
          obtain ⟨b, e, h2⟩ := tup [] rfl rfl
          exact ⟨_, b, hv, e, h2, (fun kvs e => by cases e; rfl), ans ss p (.bl _)⟩
        | cons _ _ => exact p.elim
      | _ => exact p.elim
    | cons _ _ => exact p.elim
  | _ =>
    cases y with
    | tuple ys =>
      cases ys with
      | nil =>
        obtain ⟨b, e, h2⟩ := tup [] rfl rfl
        exact ⟨_, b, hv, e, h2, (fun kvs e => by cases e), ans ss p (.bl _)⟩
      | cons _ _ => exact p.elim
    | _ => exact p.elim
end
end DL

namespace DL
open PySem PySem.Spec L2
variable [Nfo]
/-! ## str of a tuple -/
mutual
theorem nod_hd : ∀ x : PyData, nod x = true → x.hasDict = false
  | .none, _ => by simp only [PyData.hasDict]
  | .bool _, _ => by simp only [PyData.hasDict]
  | .int _, _ => by simp only [PyData.hasDict]
  | .str _, _ => by simp only [PyData.hasDict]
  | .list xs, h => by simp only [PyData.hasDict]; exact nods_hd xs (by simpa only [nod] using h)
  | .tuple xs, h => by simp only [PyData.hasDict]; exact nods_hd xs (by simpa only [nod] using h)
  | .dict _, h => by simp only [nod] at h; cases h
theorem nods_hd : ∀ xs : List PyData, nods xs = true → PyData.hasDictAll xs = false
  | [], _ => by simp only [PyData.hasDictAll]
  | x :: xs, h => by
    simp only [nods, Bool.and_eq_true] at h
    simp only [PyData.hasDictAll, nod_hd x h.1, nods_hd xs h.2, Bool.or_self]
end
section
variable {X : Cx} {W : WX} {a : Expr} {ra : E} {p pos : Pos}
theorem call_strT (hG : X.A.guards = some []) (hu : X.A.units + 64 < cLine) : CallR X (.type "str") (fun vs H Q => ∃ v xs, vs = [v] ∧ Vw X.K H (.tuple xs) v ∧ reprOk (.tuple xs) = true ∧ SeqAt.shaped (.tuple xs) = true ∧ Q (.str (PyData.tuple xs).shown) H) := by
  intro pins s σ H vs us Q I r h
  obtain ⟨v, xs, rfl, hd, hk, hs, q⟩ := h
  obtain ⟨u, rfl, hv⟩ := vals1 r
  unfold reprOk at hk
  simp only [Bool.and_eq_true, decide_eq_true_eq] at hk
  obtain ⟨⟨h1, h2⟩, h3⟩ := hk
  obtain ⟨s1, s3⟩ := plainQ_show _ h1
  have hsz : (PyData.tuple xs).shown.length ≤ sizeLine := by
    have := PyData.shown_le 220 (by decide) _ s3
    have e : (220 + 2) * (PyData.tuple xs).weight ≤ (220 + 2) * 75000 ∨ 75000 < (PyData.tuple xs).weight := by
      rcases Nat.lt_or_ge 75000 (PyData.tuple xs).weight with z | z
      · exact .inr z
      · exact .inl (Nat.mul_le_mul_left _ z)
    rw [sizeLine_eq]
    omega
  have nd := nod_shaped hs
  have dp := hd.dp nd
  obtain ⟨as, rd⟩ := Dp.reads I _ v u dp hv
  obtain ⟨b, ws, rfl, _, _⟩ := hd.tuple
  obtain rfl : u = Value.ref b := hv
  exact str_of_reads (h₀ := s.heap) rd s1 (fun z => by rw [nod_hd _ nd] at z; cases z) hG (by omega) (fun _ _ e => e) (fun h' u tk k => ⟨.str _, H, I.kept k, ⟨_, rfl⟩, q⟩) hsz
theorem g_strT (hG : X.A.guards = some []) (hu : X.A.units + 64 < cLine) (hg : Gl X "str" := by rfl) (hm : X.mg "str" = none) (ha : GE X W a ra) (he : starEach (a :: []) X.env = (false, eval a X.env) :: starEach [] X.env := by rfl) (hpl : (backTo pos (starEach [] X.env)).any (·.1) = false := by rfl) :
    GE X W (.Call (.Name "str" p) [a] [] pos) (e1 fStrT ra) := by
  refine g_callT1 (call_strT hG hu) hg hm (by decide +kernel) ha (fun d S ρ H2 v Q Wx ss hv q => ?_) (by decide) (by decide) he hpl
  cases d with
  | tuple xs =>
    obtain ⟨hc, q⟩ := postIf (c := (reprOk (.tuple xs) && SeqAt.shaped (.tuple xs)) = true) q
    rw [Bool.and_eq_true] at hc
    exact ⟨v, xs, rfl, hv, hc.1, hc.2, ans ss q (.str _)⟩
  | _ => exact q.elim
end
end DL

namespace DL
open PySem PySem.Spec L2 PyProof.Rows
variable [Nfo]
/-! ## a try whose one statement is an if with an assignment on either side; the clause keeps the error -/
section
variable {X : Cx} {W : WX} {e1 e2 c : Expr} {re1 re2 : E} {rc : T} {f n m x : Str} {cv : Value} {cs : List Str} {k i j : Nat} {p1 p2 pf1 pf2 pi pm pn pq np pos pos' : Pos}
theorem gb_tryI (k i j : Nat) (hmg : X.mg = Nfo.mg) (st : X.stack = X.env :: X.outer) (fr : X.env.frame = some X.env.locals) (nd : X.N.Nodup) (nx : X.ex = []) (tk : Takes X W)
    (hk : X.N[k]? = some f) (lk : Loc X.env.scope f) (fk : X.fn f = true ∨ X.env.scope.names.lookup f = some .local) (hi : X.N[i]? = some n) (li : X.env.kindOf n = some .local) (hj : X.N[j]? = some m) (lj : Loc X.env.scope m) (fj : X.fn m = true ∨ X.env.scope.names.lookup m = some .local)
    (nm : Names X x cv) (hits : Hits X.K X.mg cv cs) (hs1 : swapsWith e1 (some (.Name f pf1)) p1.line X.env = pure false) (hs3 : swapsWith e2 (some (.Name f pf2)) p2.line X.env = pure false) (hs2 : swapsWith (.Name n pn) (some (.Name m pm)) pq.line X.env = pure false)
    (hv : Vis X.env.scope n) (hd : (n == ("__debug__" : Str)) = false) (hcd : (n == ("__classdict__" : Str)) = false)
    (hc : ∀ (W' : WX) (pn : List (Addr × Obj)) (xe : Value → Shared → Prop), Takes (X.tr pn xe) W' → GT (X.tr pn xe) W' c rc)
    (ha : ∀ (W' : WX) (pn : List (Addr × Obj)) (xe : Value → Shared → Prop), Takes (X.tr pn xe) W' → GE (X.tr pn xe) W' e1 re1)
    (hb : ∀ (W' : WX) (pn : List (Addr × Obj)) (xe : Value → Shared → Prop), Takes (X.tr pn xe) W' → GE (X.tr pn xe) W' e2 re2) :
    GB X W (.Try [.If c [.Assign [.Name f pf1] e1 p1] [.Assign [.Name f pf2] e2 p2] pi] [.ExceptHandler (some (.Name x np)) (some n) [.Assign [.Name m pm] (.Name n pn) pq] pos'] [] [] pos) (sTryA cs (some k) i j (eIf rc re1 re2)) := by
  refine PS.imp (ps_try_keep (i := i) (tb := fun W' => tIfS (rT X.K X.mg W' rc) (tAsg (rE X.K X.mg W' re1) (L2.gName k)) (tAsg (rE X.K X.mg W' re2) (L2.gName k))) (ts := fun _ _ _ => tAsg (tVar i) (L2.gName j)) st fr nd hi li nx nm tk
    (fun W' pn xe tk' _ => pss_one (ps_if (hc W' pn xe tk') (pss_one (ps_set (X := X.tr pn xe) nd hk lk (ha W' pn xe tk') hs1 fk)) (pss_one (ps_set (X := X.tr pn xe) nd hk lk (hb W' pn xe tk') hs3 fk)))) fun a oe cls d pn _ _ => pss_one (ps_set (X := X.suite a ((a, oe) :: pn)) nd hj lj (pe_var hi hv hd hcd) hs2 fj)) fun D σ H q => ?_
  obtain ⟨env, S, ρ, se, ss, h⟩ := q
  have P0 : Post X.K X.mg (fun c d H' => wKeep X.K cv i (fun _ _ _ => tAsg (tVar i) (L2.gName j)) W D c d σ H') S ρ H ((eIf rc re1 re2) env S) (fun d _ ρ' H' => ∀ v, DR X.K H' ρ' d v → L2.gName k v σ H' D.nx) := by
    unfold sTryA at h
    cases q : (eIf rc re1 re2) env S with
    | no => rw [q] at h; exact h.elim
    | ok d S' =>
      rw [q] at h
      exact fun H' ρ' x1 s1 v rv => h H' ρ' x1 s1 _ ((se.mono x1.st x1.pre).set k rv)
    | ex er S' =>
      rw [q] at h
      by_cases hc : er.c ∈ cs ∧ i < env.length
      · replace h : Post X.K X.mg _ S ρ H (if er.c ∈ cs ∧ i < env.length then R.ok (Fl.nx (((env.set i (some (.exn er))).set j (some (.exn er))).set i none)) S' else R.no) _ := h
        rw [if_pos hc] at h
        intro H' ρ' cls d x1 s1 er2
        obtain ⟨C, g, rfl, hp⟩ := id er2
        refine ⟨true, hits _ hc.1 C g, fun _ a na => ?_, fun z => nomatch z⟩
        obtain ⟨s2, x2⟩ := s1.lay (o := ExcT a (.ref C) d) na
        have il : i < σ.length := by rw [← se.len]; exact hc.2
        refine ⟨.ref a, List.getElem?_set_self il, ?_⟩
        have dr : DR X.K (upd H' a (ExcT a (.ref C) d)) ρ' (.exn er) (.ref a) := .exn upd_same (by rw [← hmg]; exact er2.mono x2.st)
        have e1 := (se.mono (x1.st.trans x2.st) x1.pre).set i dr
        exact h _ ρ' (x1.trans x2) s2 _ ((e1.set j dr).unset i)
      · replace h : Post X.K X.mg _ S ρ H (if er.c ∈ cs ∧ i < env.length then R.ok (Fl.nx (((env.set i (some (.exn er))).set j (some (.exn er))).set i none)) S' else R.no) _ := h
        rw [if_neg hc] at h
        exact h.elim
  refine ⟨env, S, ρ, se, ss, (Post.bnd P0).imp fun b S1 ρ1 H1 _ x1 s1 h1 => ?_⟩
  cases b with
  | true => exact ⟨env, S1, ρ1, se.mono x1.st x1.pre, s1, h1⟩
  | false => exact ⟨env, S1, ρ1, se.mono x1.st x1.pre, s1, h1⟩
end
end DL

/-! ## x.remove(k), sorted texts -/
namespace DL
open PySem PySem.Spec L2 PyProof.Rows
variable [Nfo]
theorem leS_iff (a b : Str) : leS a b = true ↔ ¬ b.cps.toList < a.cps.toList := by
  unfold leS
  rw [ltCps_eq]
  simp
theorem lex_total (a b : List Nat) : ¬ a < b → ¬ b < a → a = b := fun h1 h2 => List.le_antisymm (List.not_lt.mp h2) (List.not_lt.mp h1)
theorem leS_antisymm {a b : Str} (h1 : leS a b = true) (h2 : leS b a = true) : a = b := by
  rw [leS_iff] at h1 h2
  exact Str.ext' (Array.toList_inj.mp (lex_total _ _ h2 h1))
theorem leS_total (a b : Str) : (leS a b || leS b a) = true := by
  rw [Bool.or_eq_true, leS_iff, leS_iff]
  by_cases h : b.cps.toList < a.cps.toList
  · exact .inr fun z => List.lt_irrefl _ (List.lt_trans h z)
  · exact .inl h
theorem leS_trans (a b c : Str) (h1 : leS a b = true) (h2 : leS b c = true) : leS a c = true := by
  rw [leS_iff] at *
  exact List.not_lt.mpr (List.le_trans (List.not_lt.mp h1) (List.not_lt.mp h2))
theorem sortedS_pair : ∀ (l : List Str), sortedS l = true → l.Pairwise fun a b => leS a b = true
  | [], _ => .nil
  | [x], _ => .cons (fun y hy => nomatch hy) .nil
  | x :: y :: r, h => by
    have h' : (leS x y && risingS y r) = true := h
    rw [Bool.and_eq_true] at h'
    have ih := sortedS_pair (y :: r) h'.2
    refine .cons (fun z hz => ?_) ih
    rcases List.mem_cons.mp hz with rfl | hz
    · exact h'.1
    · exact leS_trans _ _ _ h'.1 (List.rel_of_pairwise_cons ih hz)
theorem sortS_pair (zs : List Str) : (sortS zs).Pairwise fun a b => leS a b = true := List.pairwise_mergeSort leS_trans leS_total zs
theorem sortS_perm (zs : List Str) : (sortS zs).Perm zs := List.mergeSort_perm ..
theorem sortS_is {ys zs : List Str} (h : ys.Perm zs) (s : sortedS ys = true) : ys = sortS zs :=
  List.Perm.eq_of_pairwise (le := fun a b => leS a b = true) (fun a b _ _ h1 h2 => leS_antisymm h1 h2) (sortedS_pair ys s) (sortS_pair zs) (h.trans (sortS_perm zs).symm)
theorem strs_map {K : PySem.W.Frag} {H : Hp} : ∀ {xs : List PyData} {zs : List Str} {vs : List V}, strsOf xs = some zs → DVs K H xs vs → vs = zs.map V.str
  | [], _, _, e, r => by
    cases e
    cases r
    rfl
  | .str k :: xs, bs, _, e, r => by
    cases r with
    | cons h t =>
      replace e : (strsOf xs).map (k :: ·) = some bs := e
      cases q : strsOf xs with
      | none => rw [q] at e; cases e
      | some cs =>
        rw [q] at e
        cases e
        cases h
        rw [strs_map q t]
        rfl
  | .none :: _, _, _, e, _ => by cases e
  | .bool _ :: _, _, _, e, _ => by cases e
  | .int _ :: _, _, _, e, _ => by cases e
  | .list _ :: _, _, _, e, _ => by cases e
  | .tuple _ :: _, _, _, e, _ => by cases e
  | .dict _ :: _, _, _, e, _ => by cases e
theorem dvs_strs {K : PySem.W.Frag} {H : Hp} (ns : List Str) : DVs K H (ns.map .str) (ns.map V.str) := by
  induction ns with
  | nil => exact .nil
  | cons n ns ih => exact .cons (.str n) ih
theorem erase_at {ns : List Int} {k : Int} (h : k ∈ ns) : ∃ j : Nat, ns[j]? = some k ∧ (∀ m : Nat, m < j → ns[m]? ≠ some k) ∧ ns.eraseIdx j = ns.erase k := by
  induction ns with
  | nil => cases h
  | cons n ns ih =>
    by_cases e : n = k
    · subst e
      exact ⟨0, rfl, fun m hm => absurd hm (Nat.not_lt_zero _), by simp⟩
    · have hk : k ∈ ns := by
        rcases List.mem_cons.mp h with rfl | h
        · exact absurd rfl e
        · exact h
      obtain ⟨j, h1, h2, h3⟩ := ih hk
      refine ⟨j + 1, h1, fun m hm => ?_, ?_⟩
      · cases m with
        | zero => simpa using e
        | succ m => simpa using h2 m (by omega)
      · rw [List.eraseIdx_cons_succ, h3, List.erase_cons_tail (by simpa using e)]
section
variable {X : Cx} {W : WX} {a b c : Expr} {ra rb rc : E} {p pos : Pos} {x : Str} {tg : Expr}
theorem g_sortedS (fz : Bool) (hg : Gl X "sorted" := by rfl) (hm : X.mg "sorted" = none) (ha : GE X W a ra) (he : starEach (a :: []) X.env = (false, eval a X.env) :: starEach [] X.env := by rfl) (hpl : (backTo pos (starEach [] X.env)).any (·.1) = false := by rfl) :
    GE X W (.Call (.Name "sorted" p) [a] [] pos) (e1 (fSortedS fz) ra) := by
  refine g_call1F cr_sortedS hg hm (by decide +kernel) ha (fun d S ρ H2 v Q Wx ss hv q => ?_) (by decide) (by decide) he hpl
  cases d with
  | list xs =>
    obtain ⟨t, vs, rfl, h1, r1⟩ := hv.list
    unfold fSortedS at q
    cases q1 : strsOf xs with
    | none => simp only [q1] at q; exact q.elim
    | some zs =>
      simp only [q1] at q
      obtain ⟨hl, q⟩ := postIf (c := zs.length < 64) q
      rw [strs_map q1 r1] at h1
      exact ⟨t, zs, rfl, h1, hl, fun ys l hp hs hn => by rw [sortS_is hp hs]; exact ansP ss q (dvs_strs _) hn⟩
  | _ => exact q.elim
theorem g_remove {apos : Pos} (ha : GE X W a ra) (hb : GE X W b rb) (hbase : attributeBase a "remove" X.env (eval a X.env) = eval a X.env := by rfl)
    (hfew : ((backTo pos (starEach (b :: []) X.env)).all (fun x => !x.1) && (backToKw pos (keywordEach [] X.env)).all (fun x => x.1.isSome) && decide ((b :: []).length + ([] : List Keyword).length + (if ([] : List Keyword).isEmpty then 0 else 1) < 30)) = true := by rfl)
    (hline : (apos.endLine == pos.line) = true := by rfl) (hs : starEach (b :: []) X.env = (false, eval b X.env) :: starEach [] X.env := by rfl) (hpl : (backTo pos (starEach [] X.env)).any (·.1) = false := by rfl) :
    GE X W (.Call (.Attribute a "remove" apos) [b] [] pos) (eM1 fRemove ra rb) := by
  refine g_m1 PySem.F.plainAttrs_list PySem.F.slot_list_remove PySem.F.type_list_remove mt_remove ha hb (fun d e S ρ H2 v u Q Wx ss rv ru h => ?_) hbase hfew hline hs hpl
  cases d with
  | ref n =>
    cases e with
    | p y =>
      cases y with
      | int k =>
        cases rv with
        | ref e1 =>
          cases ru with
          | p ru =>
            cases ru
            replace h : Post X.K X.mg Wx S ρ H2 (match S[n]? with
              | some (.lst ds) => (match (toPs ds).bind intsOf with
                | some ns => if k ∈ ns then R.ok (D.p .none) (S.set n (.lst ((ns.erase k).map fun i => .p (.int i)))) else .no
                | none => .no)
              | _ => .no) _ := h
            cases q : S[n]? with
            | none => rw [q] at h; exact h.elim
            | some o =>
              rw [q] at h
              cases o with
              | lst ds =>
                replace h : Post X.K X.mg Wx S ρ H2 (match (toPs ds).bind intsOf with
                  | some ns => if k ∈ ns then R.ok (D.p .none) (S.set n (.lst ((ns.erase k).map fun i => .p (.int i)))) else .no
                  | none => .no) _ := h
                cases q1 : toPs ds with
                | none => rw [q1] at h; exact h.elim
                | some xs =>
                  rw [q1] at h
                  replace h : Post X.K X.mg Wx S ρ H2 (match intsOf xs with
                    | some ns => if k ∈ ns then R.ok (D.p .none) (S.set n (.lst ((ns.erase k).map fun i => .p (.int i)))) else .no
                    | none => .no) _ := h
                  cases q2 : intsOf xs with
                  | none => rw [q2] at h; exact h.elim
                  | some ns =>
                    rw [q2] at h
                    obtain ⟨hk, h⟩ := postIfR h
                    obtain ⟨vs, e3, r1⟩ := ss.ob n _ _ q e1
                    have e4 := ints_map q2 (toPs_dv q1 r1)
                    subst e4
                    obtain ⟨j, j1, j2, j3⟩ := erase_at hk
                    have rr : DRs X.K H2 ρ ((ns.erase k).map fun i => D.p (.int i)) ((ns.erase k).map V.int) := by
                      have := (dvs_ints (K := X.K) (H := H2) (ns.erase k)).drs (ρ := ρ)
                      rw [List.map_map] at this
                      exact this
                    obtain ⟨s2, x2⟩ := putL ss e1 q e3 rr
                    exact ⟨_, ns, k, j, rfl, rfl, e3, j1, j2, by rw [j3]; exact h _ ρ x2 s2 _ (.p .non)⟩
              | _ => exact h.elim
      | _ => exact h.elim
    | _ => exact h.elim
  | _ => exact h.elim
end
end DL

/-! ## a tuple's methods -/
namespace DL
open PySem PySem.Spec L2 PyProof.Rows
variable [Nfo]
section
variable {X : Cx} {W : WX} {a b c o : Expr} {ra rb rc : E} {p pos : Pos} {x : Str} {to : TE} {t : TA} {name : Str} {apos : Pos} {id : String} {r : V → List V → Hp → VK → Prop} {e : Expr} {es : List Expr}
theorem tupN_is {pins : List (Addr × Obj)} {σ : L2.St} {H : Hp} {s : Shared} {l : Addr} {xs : List V} (I : Inv X pins σ H s) (h : SqN X.K H l xs) : s.TypeIs (.ref l) "tuple" ∧ ∀ d, Value.ref l = .ref d → ∃ ob, s.heap.get? d = some ob ∧ ob.dict = none := by
  obtain ⟨ob, hl, od⟩ := h
  obtain ⟨g, _, its, _, o2, g2, c2, _⟩ := (show ObjOk X.prog X.w H s.heap l (.frz ob (.tup xs)) from I.hok l _ hl)
  rw [g] at g2
  cases g2
  refine ⟨⟨ob, g, c2⟩, fun d z => ?_⟩
  cases z
  exact ⟨ob, g, od⟩
theorem pe_tm1 (pa : PlainAttrs "tuple") (slot : Slot "tuple" name id) (hty : typeOf (.builtin id) = pure (.type "method_descriptor")) (hm : MtR X id r) (ho : PE X o to) (ha : PA X (e :: es) t)
    (hbase : attributeBase o name X.env (eval o X.env) = eval o X.env)
    (hfew : ((backTo pos (starEach (e :: es) X.env)).all (fun x => !x.1) && (backToKw pos (keywordEach [] X.env)).all (fun x => x.1.isSome) && decide ((e :: es).length + ([] : List Keyword).length + (if ([] : List Keyword).isEmpty then 0 else 1) < 30)) = true)
    (hline : (apos.endLine == pos.line) = true) (hs : starEach (e :: es) X.env = (false, eval e X.env) :: starEach es X.env) (hpl : (backTo pos (starEach es X.env)).any (·.1) = false) :
    PE X (.Call (.Attribute o name apos) (e :: es) [] pos) (fun σ H Q => to σ H fun x H1 => (∃ l xs, x = .ref l ∧ SqN X.K H1 l xs) ∧ t σ H1 fun xs H2 => r x xs H2 Q) := by
  refine ⟨fun pins s σ H Q I h => ?_⟩
  refine wpAny_Call_method_late hbase hfew hline rfl (thn (ho.run pins s σ H _ I h) fun v s1 z => ?_)
  obtain ⟨x, H1, I1, r1, ⟨l, xs, rfl, hn⟩, q1⟩ := z
  cases r1
  obtain ⟨h1, h2⟩ := tupN_is I1 hn
  refine ⟨"tuple", id, pa, slot, hty, h1, h2, ?_⟩
  have args := ha.run pos pins s1 σ H1 _ I1 q1
  rw [hs] at args ⊢
  refine Calls.callWith_builtin (by show (false || (backTo pos (starEach es X.env)).any (·.1)) = false; rw [hpl] <;> rfl) (Calls.evalArgs_plain (thn args fun us s2 z => ?_))
  obtain ⟨vs, H2, I2, r2, q2⟩ := z
  exact hm pins s2 σ H2 (.ref l) vs (.ref l) us Q I2 rfl r2 q2
theorem mt_idxT : MtR X "tuple.index" (fun x xs H Q => ∃ (l : Addr) (ns : List Int) (k : Int), x = .ref l ∧ xs = [.int k] ∧ SqT X.K H l (ns.map V.int) ∧ k ∈ ns ∧ Q (.int (ns.idxOf k : Nat)) H) := by
  intro pins s σ H x xs v us Q I rx rs h
  obtain ⟨l, ns, k, rfl, rfl, hs, hk, q⟩ := h
  cases rx
  obtain ⟨u, rfl, ru⟩ := rs.one
  obtain ⟨t, rfl⟩ := ru
  obtain ⟨its, rv, ht, _⟩ := I.tuple hs
  have hi := ints_of_vals rv
  exact SeqAt.tuple_index_ints (show s.heap.IsTuple l its.toArray from ht) hi hk ⟨.int (ns.idxOf k : Nat), H, I.tok _, ⟨_, rfl⟩, q⟩
theorem g_idxT {apos : Pos} (ha : GE X W a ra) (hb : GE X W b rb) (hbase : attributeBase a "index" X.env (eval a X.env) = eval a X.env := by rfl)
    (hfew : ((backTo pos (starEach (b :: []) X.env)).all (fun x => !x.1) && (backToKw pos (keywordEach [] X.env)).all (fun x => x.1.isSome) && decide ((b :: []).length + ([] : List Keyword).length + (if ([] : List Keyword).isEmpty then 0 else 1) < 30)) = true := by rfl)
    (hline : (apos.endLine == pos.line) = true := by rfl) (hs : starEach (b :: []) X.env = (false, eval b X.env) :: starEach [] X.env := by rfl) (hpl : (backTo pos (starEach [] X.env)).any (·.1) = false := by rfl) :
    GE X W (.Call (.Attribute a "index" apos) [b] [] pos) (eIdxT ra rb) := by
  refine PE.imp (pe_tm1 PySem.F.plainAttrs_tuple PySem.F.slot_tuple_index PySem.F.type_tuple_index mt_idxT ha (pa_cons hb pa_nil hs) hbase hfew hline hs hpl) fun σ H Q q => ?_
  obtain ⟨env, S, ρ, se, ss, h⟩ := q
  refine ⟨env, S, ρ, se, ss, (Post.bnd h).imp fun d S1 ρ1 H1 _ x1 s1 h1 v rv => ?_⟩
  obtain ⟨hc, h1⟩ := postIfR h1
  cases d with
  | p y =>
    cases y with
    | tuple xs =>
      cases rv with
      | p rv =>
        cases rv with
        | @tup l vs _ hn hv =>
          refine ⟨⟨l, vs, rfl, hn⟩, env, S1, ρ1, se.mono x1.st x1.pre, s1, (Post.bnd h1).imp fun e S2 ρ2 H2 _ x2 s2 h2 u ru => ?_⟩
          cases e with
          | p z =>
            cases z with
            | int k =>
              cases ru with
              | p ru =>
                cases ru
                replace h2 : Post X.K X.mg _ S2 ρ2 H2 ((match intsOf xs with
                  | some ns => if k ∈ ns then ret (D.p (.int (ns.idxOf k : Nat))) else no
                  | none => no : M D) S2) _ := h2
                cases q1 : intsOf xs with
                | none => rw [q1] at h2; exact h2.elim
                | some ns =>
                  rw [q1] at h2
                  obtain ⟨hk, h2⟩ := postIf (c := k ∈ ns) h2
                  have e4 := ints_map q1 hv
                  subst e4
                  exact ⟨l, ns, k, rfl, rfl, (hn.mono x2.st).sq, hk, ans s2 h2 (.int _)⟩
            | _ => exact h2.elim
          | _ => exact h2.elim
    | _ => cases hc
  | _ => cases hc
end
end DL

/-! ## is not True, is not False; is True in a test -/
namespace DL
open PySem PySem.Spec L2 PyProof.Rows
variable [Nfo]
section
variable {X : Cx} {W : WX} {a : Expr} {ra : E} {pos : Pos}
theorem op_notBl : OpR X (compareOp .IsNot) (fun x y H Q => ∃ k c, x = .bl k ∧ y = .bl c ∧ Q (.bl (!(k == c))) H) := by
  intro pins s σ H x y v u Q I rx ry h
  obtain ⟨k, c, rfl, rfl, q⟩ := h
  cases rx
  cases ry
  show wpAny _ _ ((isSame (.bool k) (.bool c)) >>= fun z => pure (Value.bool (!z))) _ _ s
  refine wpAny_bind (wpAny_isSame_plain rfl (wpAny_pure ?_))
  exact ⟨.bl (!(k == c)), H, I, by show Value.bool _ = Value.bool _; cases k <;> cases c <;> rfl, q⟩
theorem notB_ok {S : Sto} {ρ : List Addr} {H : Hp} {d : D} {v : V} {Q : VK} {Wx : XW} (k : Bool) (ss : SimS X.K H ρ S) (rv : DR X.K H ρ d v) (h : Post X.K X.mg Wx S ρ H (fIsB true k d S) (fun d _ ρ' H' => ∀ v, DR X.K H' ρ' d v → Q v H')) : ∃ k', v = .bl k' ∧ Q (.bl (!(k' == k))) H := by
  cases d with
  | p y =>
    cases y with
    | bool c =>
      cases rv with
      | p rv =>
        cases rv
        refine ⟨c, rfl, ?_⟩
        have := h H ρ Ext.refl ss (.bl (true ^^ (c == k))) (.p (.bl _))
        rwa [Bool.true_xor] at this
    | _ => exact h.elim
  | _ => exact h.elim
theorem g_notB (k : Bool) {j : Nat} {q : Pos} (ha : GE X W a ra) (hm : behindInMarks .IsNot (.Constant (.bool k) j q) = false := by rfl) : GE X W (.Compare a [.IsNot] [.Constant (.bool k) j q] pos) (e1D (fIsB true k) ra) := by
  refine PE.imp (pe_cmpR op_notBl ha pe_bl hm) fun σ H Q h => ?_
  obtain ⟨env, S, ρ, se, ss, h⟩ := h
  refine ⟨env, S, ρ, se, ss, (Post.bnd h).imp fun d S1 ρ1 H1 _ x1 s1 h1 v rv => ?_⟩
  obtain ⟨k', rfl, q⟩ := notB_ok k s1 rv h1
  exact ⟨k', k, rfl, rfl, q⟩
theorem isBt (neg k : Bool) {S : Sto} {ρ : List Addr} {H : Hp} {d : D} {v : V} {Q : Bool → Hp → Prop} {Wx : XW} (ss : SimS X.K H ρ S) (rv : DR X.K H ρ d v) (h : Post X.K X.mg Wx S ρ H (bnd (fIsB neg k d) (fun x => match x with | .p (.bool b) => ret b | _ => no) S) (fun b _ _ H' => Q b H')) : ∃ c, v = .bl c ∧ Q (neg ^^ (c == k)) H := by
  cases d with
  | p y =>
    cases y with
    | bool c =>
      cases rv with
      | p rv =>
        cases rv
        exact ⟨c, rfl, h H ρ Ext.refl ss⟩
    | _ => exact h.elim
  | _ => exact h.elim
theorem gt_notB (k : Bool) {j : Nat} {q : Pos} (ha : GE X W a ra) (hm : behindInMarks .IsNot (.Constant (.bool k) j q) = false := by rfl) : GT X W (.Compare a [.IsNot] [.Constant (.bool k) j q] pos) (tVal (e1D (fIsB true k) ra)) := by
  refine PT.imp (pt_cmpR op_notBl ha pe_bl hm) fun σ H Q h => ?_
  obtain ⟨env, S, ρ, se, ss, h⟩ := h
  refine ⟨env, S, ρ, se, ss, ?_⟩
  have h0 : Post X.K X.mg (fun c d H' => W c d σ H') S ρ H (bnd (ra env) (fun d => bnd (fIsB true k d) fun x => match x with | .p (.bool b) => ret b | _ => no) S) (fun b _ _ H' => Q b H') := by
    have e : bnd (ra env) (fun d => bnd (fIsB true k d) fun x => match x with | .p (.bool b) => ret b | _ => no) S = tVal (e1D (fIsB true k) ra) env S := by
      unfold tVal e1D bnd
      cases ra env S <;> rfl
    rw [e]; exact h
  refine (Post.bnd h0).imp fun d S1 ρ1 H1 _ x1 s1 h1 v rv => ?_
  obtain ⟨c, rfl, q⟩ := isBt true k s1 rv h1
  rw [Bool.true_xor] at q
  exact ⟨c, k, rfl, rfl, _, rfl, q⟩
theorem gt_isB (k : Bool) {j : Nat} {q : Pos} (ha : GE X W a ra) (hm : behindInMarks .Is (.Constant (.bool k) j q) = false := by rfl) : GT X W (.Compare a [.Is] [.Constant (.bool k) j q] pos) (tVal (e1D (fIsB false k) ra)) := by
  refine PT.imp (pt_cmpR op_isBl ha pe_bl hm) fun σ H Q h => ?_
  obtain ⟨env, S, ρ, se, ss, h⟩ := h
  refine ⟨env, S, ρ, se, ss, ?_⟩
  have h0 : Post X.K X.mg (fun c d H' => W c d σ H') S ρ H (bnd (ra env) (fun d => bnd (fIsB false k d) fun x => match x with | .p (.bool b) => ret b | _ => no) S) (fun b _ _ H' => Q b H') := by
    have e : bnd (ra env) (fun d => bnd (fIsB false k d) fun x => match x with | .p (.bool b) => ret b | _ => no) S = tVal (e1D (fIsB false k) ra) env S := by
      unfold tVal e1D bnd
      cases ra env S <;> rfl
    rw [e]; exact h
  refine (Post.bnd h0).imp fun d S1 ρ1 H1 _ x1 s1 h1 v rv => ?_
  obtain ⟨c, rfl, q⟩ := isBt false k s1 rv h1
  rw [Bool.false_xor] at q
  exact ⟨c, k, rfl, rfl, _, rfl, q⟩
end
end DL

/-! ## x in t, t a tuple of anything that is compared -/
namespace DL
open PySem PySem.Spec L2 PyProof.Rows
variable [Nfo]
section
variable {X : Cx}
theorem room_in_shapedT {K : Cx} {d : PyData} {ds : List PyData} (hs : SeqAt.shaped d = true) (hu : X.A.units + 65 < cLine) : X.A.units + 1 + min (PyData.depthAll ds) d.depth < cLine := room_in_shaped hs hu
def rInT (K : PySem.W.Frag) (neg : Bool) : R2 := fun x y H Q => ∃ d ds, Dp K H x d ∧ Dp K H y (.tuple ds) ∧ SeqAt.shaped d = true ∧ SeqAt.shaped (.tuple ds) = true ∧ Q (.bl (neg ^^ ds.any fun z => PyData.eqv z d)) H
theorem op_inT (hu : X.A.units + 65 < cLine) : OpR X (compareOp .In) (rInT X.K false) := by
  intro pins s σ H x y v u Q I rx ry h
  obtain ⟨d, ds, hd, he, sd, se, q⟩ := h
  obtain ⟨as, r1⟩ := Dp.reads I d x v hd rx
  obtain ⟨bs, r2⟩ := Dp.reads I (.tuple ds) y u he ry
  exact SeqAt.in_tuple_reads r2 r1 (SeqAt.canLay_of_shaped se) (SeqAt.canLay_of_shaped sd) (room_in_shaped sd hu) ⟨.bl _, H, I, rfl, by simpa using q⟩
theorem op_notInT (hu : X.A.units + 65 < cLine) : OpR X (compareOp .NotIn) (rInT X.K true) := by
  intro pins s σ H x y v u Q I rx ry h
  obtain ⟨d, ds, hd, he, sd, se, q⟩ := h
  obtain ⟨as, r1⟩ := Dp.reads I d x v hd rx
  obtain ⟨bs, r2⟩ := Dp.reads I (.tuple ds) y u he ry
  exact SeqAt.notIn_tuple_reads r2 r1 (SeqAt.canLay_of_shaped se) (SeqAt.canLay_of_shaped sd) (room_in_shaped sd hu) ⟨.bl _, H, I, rfl, by simpa using q⟩
theorem fInT_ok {neg : Bool} {x y : PyData} {S : Sto} {ρ : List Addr} {H : Hp} {v u : V} {Q : VK} {Wx : XW} (ss : SimS X.K H ρ S) (hv : Vw X.K H x v) (hw : Vw X.K H y u)
    (p : Post X.K X.mg Wx S ρ H (fInT neg x y S) (fun d _ ρ' H' => ∀ v, DR X.K H' ρ' d v → Q v H')) : rInT X.K neg v u H Q := by
  cases y with
  | tuple ys =>
    obtain ⟨hc, h⟩ := postIf (c := (SeqAt.shaped x && SeqAt.shaped (.tuple ys)) = true) p
    rw [Bool.and_eq_true] at hc
    exact ⟨x, ys, hv.dp (nod_shaped hc.1), hw.dp (nod_shaped hc.2), hc.1, hc.2, ans ss h (.bl _)⟩
  | _ => exact p.elim
theorem cg_inT (hu : X.A.units + 65 < cLine) : CmpG X .In (fInT false) := ⟨_, op_inT hu, fun x y S ρ H2 v u Q Wx ss hv hw p => fInT_ok ss hv hw p⟩
theorem cg_notInT (hu : X.A.units + 65 < cLine) : CmpG X .NotIn (fInT true) := ⟨_, op_notInT hu, fun x y S ρ H2 v u Q Wx ss hv hw p => fInT_ok ss hv hw p⟩
end
end DL

/-! ## sorted(set(pairs)) -/
namespace DL
open PySem PySem.Spec L2 PyProof.Rows
variable [Nfo]
theorem prs_cons {x : PyData} {xs : List PyData} {ps : List (Int × Int)} (e : prsOf (x :: xs) = some ps) : ∃ (a b : Int) (qs : List (Int × Int)), x = .tuple [.int a, .int b] ∧ (0 ≤ a ∧ a < 64 ∧ 0 ≤ b ∧ b < 64) ∧ prsOf xs = some qs ∧ ps = (a, b) :: qs := by
  unfold prsOf at e
  split at e
  · rename_i h
    cases h
  · rename_i a b ys h
    injection h with h1 h2
    subst h1 h2
    split at e
    · rename_i hb
      cases q : prsOf xs with
      | none => rw [q] at e; cases e
      | some qs =>
        rw [q] at e
        cases e
        exact ⟨a, b, qs, rfl, hb, rfl, rfl⟩
    · cases e
  · cases e
theorem prs_vs {K : PySem.W.Frag} {H : Hp} : ∀ {xs : List PyData} {vs : List V} {ps : List (Int × Int)}, prsOf xs = some ps → DVs K H xs vs →
    ∃ ks : List (Addr × List Int), vs = ks.map (fun p => V.ref p.1) ∧ ks.map (fun p => p.2) = ps.map (fun p => [p.1, p.2]) ∧ (∀ p ∈ ks, SqN K H p.1 (p.2.map V.int)) ∧ ∀ p ∈ ps, 0 ≤ p.1 ∧ p.1 < 64 ∧ 0 ≤ p.2 ∧ p.2 < 64
  | [], _, ps, e, .nil => by
    have e : some [] = some ps := e
    cases e
    exact ⟨[], rfl, rfl, by simp, by simp⟩
  | x :: xs, _, ps, e, .cons h t => by
    obtain ⟨a, b, qs, rfl, hb, q, rfl⟩ := prs_cons e
    obtain ⟨ks, e1, e2, e3, e4⟩ := prs_vs q t
    cases h with
    | tup hs hv =>
      rename_i ad ws
      cases hv with
      | cons h1 t1 =>
        cases h1
        cases t1 with
        | cons h2 t2 =>
          cases h2
          cases t2
          refine ⟨(ad, [a, b]) :: ks, by rw [e1]; rfl, by rw [List.map_cons, e2]; rfl, fun p hp => ?_, fun p hp => ?_⟩
          · rcases List.mem_cons.mp hp with rfl | hp
            · exact hs
            · exact e3 p hp
          · rcases List.mem_cons.mp hp with rfl | hp
            · exact hb
            · exact e4 p hp
/-- what the sorted set holds -/
theorem sortP_is {ps : List (Int × Int)} {L' : List (List Int)} (hb : ∀ p ∈ ps, 0 ≤ p.1 ∧ p.1 < 64 ∧ 0 ≤ p.2 ∧ p.2 < 64) (sub : ∀ l ∈ L', ∃ p ∈ ps, l = [p.1, p.2]) (all : ∀ p ∈ ps, [p.1, p.2] ∈ L') (nd : L'.Nodup)
    (pw : L'.Pairwise fun q r => TS.code 64 q ≤ TS.code 64 r) : L' = (sortP ps).map fun p => [p.1, p.2] := by
  have code : ∀ l ∈ L', ∃ p : Int × Int, l = [p.1, p.2] ∧ TS.code 64 l = prC p ∧ p.1 = TS.code 64 l / 64 ∧ p.2 = TS.code 64 l % 64 := fun l hl => by
    obtain ⟨p, hp, rfl⟩ := sub l hl
    have := hb p hp
    refine ⟨p, rfl, by rw [code_pair]; rfl, ?_, ?_⟩ <;> rw [code_pair] <;> omega
  have ec : L'.map (TS.code 64) = sortI (dist (ps.map prC)) := by
    refine List.Perm.eq_of_pairwise (le := fun a b : Int => a ≤ b) (fun a b _ _ h1 h2 => by omega) (List.pairwise_map.mpr pw) ?_ ?_
    · have := List.pairwise_mergeSort (le := fun a b : Int => decide (a ≤ b)) (fun a b c h1 h2 => by
        have := of_decide_eq_true h1
        have := of_decide_eq_true h2
        exact decide_eq_true (by omega)) (fun a b => by
        by_cases h : a ≤ b
        · rw [decide_eq_true h]; rfl
        · rw [decide_eq_true (by omega : b ≤ a)]; simp) (dist (ps.map prC))
      exact this.imp fun h => of_decide_eq_true h
    · have n1 : (L'.map (TS.code 64)).Nodup := by
        refine List.pairwise_map.mpr (List.Pairwise.imp_of_mem (fun {a b} ha hb' hne e => hne ?_) nd)
        obtain ⟨p, e1, _, e3, e4⟩ := code a ha
        obtain ⟨q, f1, _, f3, f4⟩ := code b hb'
        rw [e1, f1, e3, e4, f3, f4, e]
      have pm : (sortI (dist (ps.map prC))).Perm (dist (ps.map prC)) := List.mergeSort_perm ..
      refine ((List.perm_ext_iff_of_nodup n1 (nodup_dist _)).mpr fun c => ?_).trans pm.symm
      rw [mem_dist, List.mem_map, List.mem_map]
      constructor
      · rintro ⟨l, hl, rfl⟩
        obtain ⟨p, hp, rfl⟩ := sub l hl
        exact ⟨p, hp, by rw [code_pair]; rfl⟩
      · rintro ⟨p, hp, rfl⟩
        exact ⟨_, all p hp, by rw [code_pair]; rfl⟩
  unfold sortP
  rw [← ec, List.map_map, List.map_map]
  conv => lhs; rw [← List.map_id L']
  refine List.map_congr_left fun l hl => ?_
  obtain ⟨p, e1, _, e3, e4⟩ := code l hl
  show l = [TS.code 64 l / 64, TS.code 64 l % 64]
  rw [← e3, ← e4]
  exact e1
theorem dvs_prs {K : PySem.W.Frag} {H : Hp} : ∀ {L : List (Addr × List Int)} {ps : List (Int × Int)}, L.map (fun p => p.2) = ps.map (fun p => [p.1, p.2]) → (∀ p ∈ L, SqN K H p.1 (p.2.map V.int)) → DVs K H (ps.map prT) (L.map fun p => V.ref p.1)
  | [], [], _, _ => .nil
  | [], _ :: _, e, _ => by cases e
  | _ :: _, [], e, _ => by cases e
  | (a, l) :: L, p :: ps, e, h => by
    rw [List.map_cons, List.map_cons] at e
    injection e with e1 e2
    have e1 : l = [p.1, p.2] := e1
    subst e1
    exact .cons (.tup (h _ List.mem_cons_self) (.cons (.int _) (.cons (.int _) .nil))) (dvs_prs e2 fun q hq => h q (List.mem_cons_of_mem _ hq))
section
variable {X : Cx} {W : WX} {a : Expr} {ra : E} {p pos : Pos}
theorem g_setSort (fz : Bool) {p2 q : Pos} (hc : X.calm = true) (hu : X.A.units + 64 < cLine) (hg : Gl X "sorted" := by rfl) (hm : X.mg "sorted" = none) (hg2 : Gl X "set" := by rfl) (hm2 : X.mg "set" = none) (ha : GE X W a ra)
    (he : starEach (.Call (.Name "set" p2) [a] [] q :: []) X.env = (false, eval (.Call (.Name "set" p2) [a] [] q) X.env) :: starEach [] X.env := by rfl) (hpl : (backTo pos (starEach [] X.env)).any (·.1) = false := by rfl)
    (he2 : starEach (a :: []) X.env = (false, eval a X.env) :: starEach [] X.env := by rfl) (hpl2 : (backTo q (starEach [] X.env)).any (·.1) = false := by rfl) :
    GE X W (.Call (.Name "sorted" p) [.Call (.Name "set" p2) [a] [] q] [] pos) (e1 (fSetSort fz) ra) := by
  refine PE.imp (pe_frz (pe_callB (cr_sortedT hc) hg hm (by decide +kernel) (pa_cons (pe_callTy (cr_setOfT hc hu) hg2 hm2 (by decide +kernel) (pa_cons ha pa_nil he2) (by decide) (by decide) he2 hpl2) pa_nil he) (by decide) (by decide) he hpl)) fun σ H Q qq => one_seeF (r := fun v H Q' => rSetOfT X.K X.prog X.w [v] H fun y H2 => rSortedT X.K X.prog X.w [y] H2 Q') qq fun d S ρ H2 v ss hv q => ?_
  cases d with
  | list xs =>
    obtain ⟨t, vs, rfl, h1, r1⟩ := hv.list
    unfold fSetSort at q
    cases q1 : prsOf xs with
    | none => simp only [q1] at q; exact q.elim
    | some ps =>
      simp only [q1] at q
      obtain ⟨hl, q⟩ := postIf (c := ps.length < 64) q
      obtain ⟨ks, rfl, e2, e3, e4⟩ := prs_vs q1 r1
      have kl : ks.length = ps.length := by
        have := congrArg List.length e2
        rwa [List.length_map, List.length_map] at this
      refine ⟨t, ks, rfl, h1, fun p hp => (e3 p hp).sq, by omega, fun al L hn hsub hall => ?_⟩
      obtain ⟨ss2, x2⟩ := ss.lay (o := SetTO X.prog X.w al L) hn
      have inps : ∀ p ∈ ks, ∃ c ∈ ps, p.2 = [c.1, c.2] := fun p hp => by
        have : p.2 ∈ ks.map (fun p => p.2) := List.mem_map.mpr ⟨p, hp, rfl⟩
        rw [e2] at this
        obtain ⟨c, hc, e⟩ := List.mem_map.mp this
        exact ⟨c, hc, e.symm⟩
      refine ⟨al, L, 2, 64, rfl, upd_same, fun p hp => ((e3 p (hsub p hp)).mono x2.st).sq, by decide, fun p hp => ?_, fun L' pp pm nd len pw hn' => ?_⟩
      · obtain ⟨c, hc, e⟩ := inps p (hsub p hp)
        have := e4 c hc
        rw [e]
        refine ⟨rfl, fun m hm => ?_⟩
        simp only [List.mem_cons, List.mem_nil_iff, or_false] at hm
        rcases hm with rfl | rfl <;> omega
      · have eL : L'.map (fun p => p.2) = (sortP ps).map fun p => [p.1, p.2] := by
          refine sortP_is e4 (fun l hl => ?_) (fun c hc => ?_) nd (List.pairwise_map.mpr pw)
          · obtain ⟨p, hp, rfl⟩ := List.mem_map.mp hl
            exact inps p (hsub p (pm.subset hp))
          · have : [c.1, c.2] ∈ ks.map (fun p => p.2) := by rw [e2]; exact List.mem_map.mpr ⟨c, hc, rfl⟩
            obtain ⟨p, hp, e⟩ := List.mem_map.mp this
            have m := hall p hp
            rw [e] at m
            obtain ⟨r, hr, er⟩ := List.mem_map.mp m
            exact List.mem_map.mpr ⟨r, pm.symm.subset hr, er⟩
        exact ansP ss2 (q.shift x2) (dvs_prs eL fun p hp => (e3 p (hsub p (pm.subset hp))).mono x2.st) hn'
  | _ => exact q.elim
end
end DL

namespace DL
open PySem PySem.Spec L2
variable [Nfo]
/-! ## repr of a list of lists that may change -/
section
variable {X : Cx} {W : WX} {a : Expr} {ra : E} {p pos : Pos}
theorem call_reprV (hG : X.A.guards = some []) (hu : X.A.units + 64 < cLine) : CallR X (.builtin "repr") (fun vs H Q => ∃ v xs, vs = [v] ∧ Dp X.K H v (.list xs) ∧ reprOk (.list xs) = true ∧ SeqAt.shaped (.list xs) = true ∧ Q (.str (PyData.list xs).shown) H) := by
  intro pins s σ H vs us Q I r h
  obtain ⟨v, xs, rfl, dp, hk, hs, q⟩ := h
  obtain ⟨u, rfl, hv⟩ := vals1 r
  unfold reprOk at hk
  simp only [Bool.and_eq_true, decide_eq_true_eq] at hk
  obtain ⟨⟨h1, h2⟩, h3⟩ := hk
  obtain ⟨s1, s3⟩ := plainQ_show _ h1
  have hsz : (PyData.list xs).shown.length ≤ sizeLine := by
    have := PyData.shown_le 220 (by decide) _ s3
    have e : (220 + 2) * (PyData.list xs).weight ≤ (220 + 2) * 75000 ∨ 75000 < (PyData.list xs).weight := by
      rcases Nat.lt_or_ge 75000 (PyData.list xs).weight with z | z
      · exact .inr z
      · exact .inl (Nat.mul_le_mul_left _ z)
    rw [sizeLine_eq]
    omega
  have nd := nod_shaped hs
  obtain ⟨as, rd⟩ := Dp.reads I _ v u dp hv
  cases dp with
  | lst hl ha =>
    rename_i b ws
    obtain rfl : u = Value.ref b := hv
    exact repr_of_reads' (h₀ := s.heap) rd s1 (fun z => by rw [nod_hd _ nd] at z; cases z) hG (by omega) (fun _ _ e => e) (fun h' u tk k => ⟨.str _, H, I.kept k, ⟨_, rfl⟩, q⟩) hsz
theorem g_reprV (hG : X.A.guards = some []) (hu : X.A.units + 64 < cLine) (hg : Gl X "repr" := by rfl) (hm : X.mg "repr" = none) (ha : GE X W a ra) (he : starEach (a :: []) X.env = (false, eval a X.env) :: starEach [] X.env := by rfl) (hpl : (backTo pos (starEach [] X.env)).any (·.1) = false := by rfl) :
    GE X W (.Call (.Name "repr" p) [a] [] pos) (eReprV ra) := by
  refine PE.imp (pe_callB (call_reprV hG hu) hg hm (by decide +kernel) (pa_cons ha pa_nil he) (by decide) (by decide) he hpl) fun σ H Q q => one (f := fReprV) (r := fun v H Q => ∃ v' xs, [v] = [v'] ∧ Dp X.K H v' (.list xs) ∧ reprOk (.list xs) = true ∧ SeqAt.shaped (.list xs) = true ∧ Q (.str (PyData.list xs).shown) H) q fun d S ρ H2 v ss rv h => ?_
  unfold fReprV at h
  cases q1 : viewD S 8 d with
  | none => simp only [q1] at h; exact h.elim
  | some x =>
    simp only [q1] at h
    cases x with
    | list xs =>
      replace h : Post X.K X.mg _ S ρ H2 (if (reprOk (.list xs) && SeqAt.shaped (.list xs)) = true then R.ok (D.p (.str (PyData.list xs).shown)) S else .no) _ := h
      by_cases hc : (reprOk (.list xs) && SeqAt.shaped (.list xs)) = true
      · rw [if_pos hc] at h
        rw [Bool.and_eq_true] at hc
        exact ⟨v, xs, rfl, viewD_dp ss 8 q1 rv (nod_shaped hc.2), hc.1, hc.2, ans ss h (.str _)⟩
      · rw [if_neg hc] at h; exact h.elim
    | _ => exact h.elim
end
end DL

namespace DL
open PySem
/-! ## readings are run by rewriting: the part first, then what follows -/
/-- a mark by which what follows stays as it stands -/
inductive Tg {γ : Type} (a : γ) : Type
  | mk
def bndT {α β : Type} (r : R α) (f : α → M β) (_ : Tg f) : R β := match r with
  | .ok a S => f a S
  | .ex e S => .ex e S
  | .no => .no
abbrev bndR {α β : Type} (r : R α) (f : α → M β) : R β := bndT r f .mk
section
variable {α β : Type} {S : Sto} {env : Env}
theorem bnd_R (m : M α) (f : α → M β) : bnd m f S = bndR (m S) f := (rfl)
theorem bndR_ok (a : α) (f : α → M β) : bndR (.ok a S) f = f a S := (rfl)
theorem bndR_ex (e : Ex) (f : α → M β) : bndR (.ex e S) f = .ex e S := (rfl)
theorem bndR_no (f : α → M β) : bndR (α := α) .no f = .no := (rfl)
theorem ret_ev (a : α) : ret a S = .ok a S := (rfl)
theorem no_ev : no (α := α) S = .no := (rfl)
theorem opt_some (a : α) : opt (some a) S = .ok a S := (rfl)
theorem opt_none : opt (none : Option α) S = .no := (rfl)
theorem hush_R (m : M α) : hush m S = (match m S with | .ex _ _ => .no | r => r) := (rfl)
def hushR (r : R α) : R α := match r with
  | .ex _ _ => .no
  | r => r
theorem hush_ev (m : M α) : hush m S = hushR (m S) := (rfl)
theorem hushR_ok (a : α) : hushR (.ok a S) = .ok a S := (rfl)
theorem iteM {c : Prop} [Decidable c] (a b : M α) : (if c then a else b) S = if c then a S else b S := by split <;> rfl
/-! expressions -/
def lkup : Env → Nat → Option D
  | [], _ => none
  | d :: _, 0 => d
  | _ :: r, n + 1 => lkup r n
theorem lkup_eq : ∀ (env : Env) (i : Nat), lkup env i = (env[i]?).join
  | [], i => by simp [lkup]
  | d :: r, 0 => by simp [lkup]
  | d :: r, n + 1 => by simp [lkup, lkup_eq r n]
theorem eVar_ev (i : Nat) : eVar i env S = (match lkup env i with | some d => .ok d S | none => .no) := by
  rw [lkup_eq]; unfold eVar
  cases env[i]? with
  | none => rfl
  | some o => cases o <;> rfl
theorem eC_ev (x : PyData) : eC x env S = .ok (.p x) S := (rfl)
theorem e2_ev (f : PyData → PyData → M D) (a b : E) : e2 f a b env S = bndR (a env S) fun x => bnd (b env) fun y => bnd (see x) fun u => bnd (see y) fun v => f u v := (rfl)
theorem e1_ev (f : PyData → M D) (a : E) : e1 f a env S = bndR (a env S) fun x => bnd (see x) fun u => f u := (rfl)
theorem e2D_ev (f : D → D → M D) (a b : E) : e2D f a b env S = bndR (a env S) fun x => bnd (b env) fun y => f x y := (rfl)
theorem e1D_ev (f : D → M D) (a : E) : e1D f a env S = bndR (a env S) f := (rfl)
theorem e3D_ev (f : D → D → D → M D) (a b c : E) : e3D f a b c env S = bndR (a env S) fun x => bnd (b env) fun y => bnd (c env) fun z => f x y z := (rfl)
theorem aNil_ev : aNil env S = .ok [] S := (rfl)
theorem aCons_ev (a : E) (r : As) : aCons a r env S = bndR (a env S) fun x => bnd (r env) fun xs => ret (x :: xs) := (rfl)
theorem eTupN_ev (n : Nat) (a : As) : eTupN n a env S = bndR (a env S) fun xs => if xs.length = n then ret (mkTup xs) else no := (rfl)
theorem eLstN_ev (fz : Bool) (n : Nat) (a : As) : eLstN fz n a env S = bndR (a env S) fun xs => if xs.length = n then mkL fz xs else no := (rfl)
theorem eIf_ev (t : T) (a b : E) : eIf t a b env S = bndR (t env S) fun c => if c then a env else b env := (rfl)
theorem eIx_ev (a b : E) : eIx a b env S = bndR (a env S) fun x => bnd (b env) fun y => fIx x y := (rfl)
theorem eCut_ev (fz : Bool) (a : E) (lo hi : O) : eCut fz a lo hi env S = bndR (a env S) fun x => bnd (lo env) fun l => bnd (hi env) fun h => bnd (see x) fun u => fCut fz u l h := (rfl)
theorem oNone_ev : oNone env S = .ok none S := (rfl)
theorem oSome_ev (a : E) : oSome a env S = bndR (a env S) fun x => match x with | .p (.int i) => ret (some i) | _ => no := (rfl)
theorem eIsK_ev (k : Kd) (a : E) : eIsK k a env S = bndR (a env S) fun x => fIsK k x := (rfl)
theorem eTuple_ev (a : E) : eTuple a env S = bndR (a env S) fTuple := (rfl)
theorem eList_ev (fz : Bool) (a : E) : eList fz a env S = bndR (a env S) (fList fz) := (rfl)
theorem eCall_ev (F : List D → M D) (a : As) : eCall F a env S = bndR (a env S) fun xs => match toPs xs with | some ys => pure1 (F (ys.map .p) []) | none => no := (rfl)
theorem eCallL_ev (F : List D → M D) (a : As) : eCallL F a env S = bndR (a env S) F := (rfl)
theorem eCallT_ev (F : List D → M D) (a : As) : eCallT F a env S = bndR (a env S) fun ds S => cut1 S.length (F ds S) := (rfl)
theorem eM0_ev (f : D → M D) (a : E) : eM0 f a env S = bndR (a env S) fun x S => if isL S x then f x S else .no := (rfl)
theorem eM1_ev (f : D → D → M D) (a b : E) : eM1 f a b env S = bndR (a env S) fun x S => if isL S x then bnd (b env) (fun y => f x y) S else .no := (rfl)
theorem eM2_ev (f : D → D → D → M D) (a b c : E) : eM2 f a b c env S = bndR (a env S) fun x S => if isL S x then bnd (b env) (fun y => bnd (c env) fun z => f x y z) S else .no := (rfl)
theorem eDict_ev (ps : List (E × E)) : eDict ps env S = bndR (ePairs ps env S) fun kvs => match mergeD [] kvs with | some m => if kvs.length ≤ 15 then new (.dct m) else no | none => no := (rfl)
theorem ePairs_nil : ePairs [] env S = .ok [] S := (rfl)
theorem ePairs_cons (a b : E) (r : List (E × E)) : ePairs ((a, b) :: r) env S = bndR (a env S) fun k => bnd (b env) fun v => bnd (ePairs r env) fun kvs => match k with | .p x => ret ((x, v) :: kvs) | _ => no := (rfl)
theorem eChain_ev (f f' : PyData → PyData → M D) (a b c : E) : eChain f f' a b c env S = bndR (a env S) fun x => bnd (b env) fun y => bnd (bnd (see x) fun u => bnd (see y) fun v => f u v) fun k => match k with
  | .p (.bool true) => bnd (c env) fun z => bnd (see y) fun u => bnd (see z) fun v => f' u v
  | .p (.bool false) => ret (.p (.bool false))
  | _ => no := (rfl)
theorem tVal_ev (a : E) : tVal a env S = bndR (a env S) fun x => match x with | .p (.bool b) => ret b | _ => no := (rfl)
theorem tAnd_ev (a b : T) : tAnd a b env S = bndR (a env S) fun c => if c then b env else ret false := (rfl)
theorem tOr_ev (a b : T) : tOr a b env S = bndR (a env S) fun c => if c then ret true else b env := (rfl)
theorem tNot_ev (a : T) : tNot a env S = bndR (a env S) fun c => ret (!c) := (rfl)
theorem tYes_ev : tYes env S = .ok true S := (rfl)
theorem eAnd_ev (a b : E) : eAnd a b env S = bndR (a env S) fun x => match x with | .p (.bool true) => b env | .p (.bool false) => ret (.p (.bool false)) | _ => no := (rfl)
theorem eOr_ev (a b : E) : eOr a b env S = bndR (a env S) fun x => match x with | .p (.bool false) => b env | .p (.bool true) => ret (.p (.bool true)) | _ => no := (rfl)
theorem eNot_ev (a : E) : eNot a env S = bndR (a env S) fun x => match x with | .p (.bool c) => ret (.p (.bool (!c))) | _ => no := (rfl)
theorem eFrz_ev (a : E) : eFrz a env S = bndR (a env S) fun d S => match d with
  | .ref n => match S[n]? with
    | some (.lst ds) => match toPs ds with
      | some xs => .ok (.p (.list xs)) (S.set n .gone)
      | none => .no
    | _ => .no
  | d => .ok d S := (rfl)
theorem iVal_ev (a : E) : iVal a env S = bndR (a env S) fun d => match d with
  | .tup xs => ret xs
  | .p x => opt ((elems x).map fun xs => xs.map .p)
  | .ref _ => no
  | .exn _ => no := (rfl)
theorem iRange_ev (a : E) : iRange a env S = bndR (a env S) fun x => match x with
  | .p (.int n) => if n ≤ 16777216 ∧ -16777216 ≤ n then ret ((List.range n.toNat).map fun i => .p (.int (i : Nat))) else no
  | _ => no := (rfl)
theorem iRange2_ev (a b : E) : iRange2 a b env S = bndR (a env S) fun x => bnd (b env) fun y => match x, y with
  | .p (.int m), .p (.int n) => if n - m ≤ 16777216 ∧ -4611686018427387904 ≤ m ∧ m < 4611686018427387904 ∧ -4611686018427387904 ≤ n ∧ n < 4611686018427387904 then ret ((List.range (n - m).toNat).map fun i => .p (.int (m + (i : Nat)))) else no
  | _, _ => no := (rfl)
theorem fIx_l (xs : List PyData) (i : Int) : fIx (.p (.list xs)) (.p (.int i)) S = opt ((atL xs i).map .p) S := (rfl)
theorem fIx_t (xs : List PyData) (i : Int) : fIx (.p (.tuple xs)) (.p (.int i)) S = opt ((atL xs i).map .p) S := (rfl)
theorem fIx_r (n : Nat) (k : PyData) : fIx (.ref n) (.p k) S = (match S[n]? with
    | some (.lst ds) => (match k with
      | .int i => opt (atL ds i) S
      | _ => .no)
    | some (.dct kvs) => (match keyOf k with
      | some q => opt (dGet kvs q) S
      | none => .no)
    | _ => .no) := (rfl)
theorem fSetIx_r (n : Nat) (k : PyData) (v : D) : fSetIx v (.ref n) (.p k) S = (match S[n]? with
    | some (.lst ds) => (match k with
      | .int i => (match ixI ds.length i with
        | some j => .ok () (S.set n (.lst (ds.set j v)))
        | none => .no)
      | _ => .no)
    | some (.dct kvs) => (match keyOf k with
      | some q => if kvs.length < big then .ok () (S.set n (.dct (dPut kvs q k v))) else .no
      | none => .no)
    | _ => .no) := (rfl)
theorem fAdd_i (fz : Bool) (i j : Int) : fAdd fz (.int i) (.int j) S = .ok (.p (.int (i + j))) S := (rfl)
theorem fAdd_s (fz : Bool) (x y : Str) : fAdd fz (.str x) (.str y) S = if x.length + y.length ≤ big then .ok (.p (.str (x ++ y))) S else .no := by unfold fAdd; exact iteM ..
theorem fAdd_t (fz : Bool) (x y : List PyData) : fAdd fz (.tuple x) (.tuple y) S = if x.length + y.length ≤ big then .ok (.p (.tuple (x ++ y))) S else .no := by unfold fAdd; exact iteM ..
theorem fAdd_l (fz : Bool) (x y : List PyData) : fAdd fz (.list x) (.list y) S = if x.length + y.length ≤ big then mkP fz (x ++ y) S else .no := by unfold fAdd; exact iteM ..
theorem fSub_i (i j : Int) : fSub (.int i) (.int j) S = .ok (.p (.int (i - j))) S := (rfl)
theorem fMul_i (fz : Bool) (i j : Int) : fMul fz (.int i) (.int j) S = if mulOk i j then .ok (.p (.int (i * j))) S else .no := by unfold fMul; exact iteM ..
theorem fMul_t (fz : Bool) (x : List PyData) (k : Int) : fMul fz (.tuple x) (.int k) S = if x.length ≤ 1000 ∧ k ≤ 1000 ∧ -1000 ≤ k then .ok (.p (.tuple (List.replicate k.toNat x).flatten)) S else .no := by unfold fMul; exact iteM ..
theorem fMul_l (fz : Bool) (x : List PyData) (k : Int) : fMul fz (.list x) (.int k) S = if x.length ≤ 1000 ∧ k ≤ 1000 ∧ -1000 ≤ k then mkP fz (List.replicate k.toNat x).flatten S else .no := by unfold fMul; exact iteM ..
theorem fDiv_i (i j : Int) : fDiv (.int i) (.int j) S = if 0 < j ∧ j.natAbs.log2 < 9000 then .ok (.p (.int (i / j))) S else .no := by unfold fDiv; exact iteM ..
theorem fMod_i (i j : Int) : fMod (.int i) (.int j) S = if 0 < j then .ok (.p (.int (i % j))) S else .no := by unfold fMod; exact iteM ..
theorem fPow_i (i j : Int) : fPow (.int i) (.int j) S = if 0 ≤ j ∧ j ≤ 1000000 ∧ i.natAbs < 2 ^ 64 then .ok (.p (.int (i ^ j.toNat))) S else .no := by unfold fPow; exact iteM ..
theorem fShr_i (i j : Int) : fShr (.int i) (.int j) S = if 0 ≤ j then .ok (.p (.int (i / 2 ^ j.toNat))) S else .no := by unfold fShr; exact iteM ..
theorem fCmp_i (f : Int → Int → Bool) (i j : Int) : fCmp f (.int i) (.int j) S = .ok (.p (.bool (f i j))) S := (rfl)
theorem fNeg_i (i : Int) : fNeg (.int i) S = .ok (.p (.int (-i))) S := (rfl)
theorem fEq_i (i j : Int) : fEq (.int i) (.int j) S = .ok (.p (.bool (decide (i = j)))) S := (rfl)
theorem fEq_s (i j : Str) : fEq (.str i) (.str j) S = .ok (.p (.bool (i == j))) S := (rfl)
theorem fNe_i (i j : Int) : fNe (.int i) (.int j) S = .ok (.p (.bool (!decide (i = j)))) S := (rfl)
theorem fNe_s (i j : Str) : fNe (.str i) (.str j) S = .ok (.p (.bool (!(i == j)))) S := (rfl)
theorem fLen_l (x : List PyData) : fLen (.list x) S = .ok (.p (.int x.length)) S := (rfl)
theorem fLen_t (x : List PyData) : fLen (.tuple x) S = .ok (.p (.int x.length)) S := (rfl)
theorem fMax2_i (i j : Int) : fMax2 (.int i) (.int j) S = .ok (.p (.int (if j > i then j else i))) S := (rfl)
theorem fMin2_i (i j : Int) : fMin2 (.int i) (.int j) S = .ok (.p (.int (if j < i then j else i))) S := (rfl)
theorem fInt_i (i : Int) : fInt (.int i) S = .ok (.p (.int i)) S := (rfl)
theorem fInt_b (k : Bool) : fInt (.bool k) S = .ok (.p (.int (if k then 1 else 0))) S := (rfl)
theorem fCut_l (fz : Bool) (xs : List PyData) (lo hi : Option Int) : fCut fz (.list xs) lo hi S = mkP fz (cutL xs lo hi) S := (rfl)
theorem fCut_t (fz : Bool) (xs : List PyData) (lo hi : Option Int) : fCut fz (.tuple xs) lo hi S = .ok (.p (.tuple (cutL xs lo hi))) S := (rfl)
theorem mkP_t (xs : List PyData) : mkP true xs S = .ok (.p (.list xs)) S := (rfl)
theorem mkP_f (xs : List PyData) : mkP false xs S = .ok (.ref S.length) (S ++ [.lst (xs.map .p)]) := (rfl)
theorem mkL_f (ds : List D) : mkL false ds S = .ok (.ref S.length) (S ++ [.lst ds]) := (rfl)
theorem mkL_t (ds : List D) : mkL true ds S = (match toPs ds with | some xs => .ok (.p (.list xs)) S | none => .no) := by
  show (match toPs ds with | some xs => ret (.p (.list xs)) | none => no : M D) S = _
  cases toPs ds <;> rfl
theorem toPs_nil : toPs [] = some [] := (rfl)
theorem toPs_p (x : PyData) (ds : List D) : toPs (.p x :: ds) = (toPs ds).map (x :: ·) := by
  show (match toP (.p x), toPs ds with | some x, some xs => some (x :: xs) | _, _ => none) = _
  cases toPs ds <;> rfl
theorem toPs_mapf {γ : Type} (f : γ → PyData) (xs : List γ) : toPs (xs.map fun x => D.p (f x)) = some (xs.map f) := by
  have := toPs_map (xs.map f)
  rw [List.map_map] at this
  exact this
theorem toPs_r (n : Nat) (ds : List D) : toPs (.ref n :: ds) = none := (rfl)
theorem toP_p (x : PyData) : toP (.p x) = some x := (rfl)
theorem fAll_l (bs : List Bool) : fAll (.list (bs.map .bool)) S = .ok (.p (.bool (bs.all id))) S := by
  have : ∀ bs : List Bool, boolsOf (bs.map .bool) = some bs := fun bs => by
    induction bs with
    | nil => rfl
    | cons b bs ih => show (boolsOf (bs.map .bool)).map _ = _; rw [ih]; rfl
  show opt ((boolsOf (bs.map .bool)).map _) S = _
  rw [this]; rfl
theorem fAny_l (bs : List Bool) : fAny (.list (bs.map .bool)) S = .ok (.p (.bool (bs.any id))) S := by
  have : ∀ bs : List Bool, boolsOf (bs.map .bool) = some bs := fun bs => by
    induction bs with
    | nil => rfl
    | cons b bs ih => show (boolsOf (bs.map .bool)).map _ = _; rw [ih]; rfl
  show opt ((boolsOf (bs.map .bool)).map _) S = _
  rw [this]; rfl
theorem fAll_m {γ : Type} (f : γ → Bool) (xs : List γ) : fAll (.list (xs.map fun x => .bool (f x))) S = .ok (.p (.bool (xs.all f))) S := by
  have := fAll_l (S := S) (xs.map f)
  rw [List.map_map] at this
  rw [show (fun x => PyData.bool (f x)) = PyData.bool ∘ f from rfl, this]
  simp
theorem fAny_m {γ : Type} (f : γ → Bool) (xs : List γ) : fAny (.list (xs.map fun x => .bool (f x))) S = .ok (.p (.bool (xs.any f))) S := by
  have := fAny_l (S := S) (xs.map f)
  rw [List.map_map] at this
  rw [show (fun x => PyData.bool (f x)) = PyData.bool ∘ f from rfl, this]
  simp
theorem all_true {γ : Type} (xs : List γ) : (xs.all fun _ => true) = true := by simp
theorem intsOf_map : ∀ ns : List Int, intsOf (ns.map .int) = some ns := fun bs => by
  induction bs with
  | nil => rfl
  | cons b bs ih => show (intsOf (bs.map .int)).map _ = _; rw [ih]; rfl
theorem fSum_l (ns : List Int) : fSum (.list (ns.map .int)) S = .ok (.p (.int ns.sum)) S := by
  show opt ((intsOf (ns.map .int)).map _) S = _
  rw [intsOf_map]; rfl
theorem fSum_t (ns : List Int) : fSum (.tuple (ns.map .int)) S = .ok (.p (.int ns.sum)) S := by
  show opt ((intsOf (ns.map .int)).map _) S = _
  rw [intsOf_map]; rfl
theorem fTuple_l (xs : List PyData) : fTuple (.p (.list xs)) S = .ok (.p (.tuple xs)) S := (rfl)
theorem fTuple_t (xs : List PyData) : fTuple (.p (.tuple xs)) S = .ok (.p (.tuple xs)) S := (rfl)
theorem fTuple_r (n : Nat) : fTuple (.ref n) S = (match S[n]? with
    | some (.lst ds) => .ok (mkTup ds) S
    | _ => .no) := (rfl)
theorem fList_l (fz : Bool) (xs : List PyData) : fList fz (.p (.list xs)) S = mkP fz xs S := (rfl)
theorem fList_t (fz : Bool) (xs : List PyData) : fList fz (.p (.tuple xs)) S = mkP fz xs S := (rfl)
theorem fList_r (fz : Bool) (n : Nat) : fList fz (.ref n) S = (match S[n]? with
    | some (.lst ds) => mkL fz ds S
    | _ => .no) := (rfl)
theorem fIsK_p (k : Kd) (x : PyData) : fIsK k (.p x) S = .ok (.p (.bool (isK k x))) S := (rfl)
theorem fRepr_ev (x : PyData) : fRepr x S = if reprOk x then .ok (.p (.str x.shown)) S else .no := by unfold fRepr; exact iteM ..
theorem fApp_r (n : Nat) (d : D) : fApp (.ref n) d S = (match S[n]? with
    | some (.lst ds) => if ds.length < big then .ok (.p .none) (S.set n (.lst (ds ++ [d]))) else .no
    | _ => .no) := (rfl)
theorem fPop_r (n : Nat) : fPop (.ref n) S = (match S[n]? with
    | some (.lst ds) => (match ds.getLast? with
      | some d => .ok d (S.set n (.lst ds.dropLast))
      | none => .no)
    | _ => .no) := (rfl)
theorem fIns_r (n : Nat) (i : Int) (d : D) : fIns (.ref n) (.p (.int i)) d S = (match S[n]? with
    | some (.lst ds) => if ds.length < big ∧ 0 ≤ i ∧ i < 4611686018427387904 then .ok (.p .none) (S.set n (.lst (ds.take i.toNat ++ [d] ++ ds.drop i.toNat))) else .no
    | _ => .no) := (rfl)
theorem isL_r (n : Nat) : isL S (.ref n) = (match S[n]? with | some (.lst _) => true | _ => false) := (rfl)
theorem items_t (xs : List PyData) : items (.p (.tuple xs)) = some (xs.map .p) := (rfl)
theorem elems_t (xs : List PyData) : elems (.tuple xs) = some xs := (rfl)
theorem elems_l (xs : List PyData) : elems (.list xs) = some xs := (rfl)
theorem mkTup_p (xs : List PyData) : mkTup (xs.map .p) = .p (.tuple xs) := by unfold mkTup; rw [toPs_map]
theorem mkTup_nil : mkTup [] = .p (.tuple []) := (rfl)
theorem mkTup_cons (x : PyData) (ds : List D) (xs : List PyData) (h : mkTup ds = .p (.tuple xs)) : mkTup (.p x :: ds) = .p (.tuple (x :: xs)) := by
  unfold mkTup at h ⊢
  rw [toPs_p]
  cases q : toPs ds with
  | none => rw [q] at h; cases h
  | some ys => rw [q] at h; cases h; rfl
theorem see_ev (d : D) : see d S = (match view S d with | some x => .ok x S | none => .no) := (rfl)
theorem fIsN_n (neg : Bool) : fIsN neg (.p .none) S = .ok (.p (.bool (neg ^^ true))) S := (rfl)
theorem fIsN_i (neg : Bool) (i : Int) : fIsN neg (.p (.int i)) S = .ok (.p (.bool (neg ^^ false))) S := (rfl)
theorem fIsN_t (neg : Bool) (i : List PyData) : fIsN neg (.p (.tuple i)) S = .ok (.p (.bool (neg ^^ false))) S := (rfl)
theorem fIsN_l (neg : Bool) (i : List PyData) : fIsN neg (.p (.list i)) S = .ok (.p (.bool (neg ^^ false))) S := (rfl)
theorem fIsN_s (neg : Bool) (i : Str) : fIsN neg (.p (.str i)) S = .ok (.p (.bool (neg ^^ false))) S := (rfl)
theorem fIsN_r (neg : Bool) (i : Nat) : fIsN neg (.ref i) S = .ok (.p (.bool neg)) S := (rfl)
theorem fExt_l (n : Nat) (ys : List PyData) : fExt (.ref n) (.p (.list ys)) S = (match S[n]? with | some (.lst ds) => if ds.length + ys.length ≤ big then .ok (.p .none) (S.set n (.lst (ds ++ ys.map .p))) else .no | _ => .no) := (rfl)
theorem fExt_t (n : Nat) (ys : List PyData) : fExt (.ref n) (.p (.tuple ys)) S = (match S[n]? with | some (.lst ds) => if ds.length + ys.length ≤ big then .ok (.p .none) (S.set n (.lst (ds ++ ys.map .p))) else .no | _ => .no) := (rfl)
theorem sAug_ev (i : Nat) (f : Int → Int → Int) (a : E) : sAug i f a env S = bndR (eVar i env S) fun x => bnd (a env) fun y => match x, y with
  | .p (.int m), .p (.int n) => ret (.nx (env.set i (some (.p (.int (f m n))))))
  | _, _ => no := (rfl)
theorem sAugL_ev (f : Int → Int → Int) (a b e : E) : sAugL f a b e env S = bndR (a env S) fun x => bnd (b env) fun y => bnd (fIxL x y) fun old => bnd (e env) fun z => match old, z with
  | .p (.int m), .p (.int n) => bnd (fSetL (.p (.int (f m n))) x y) fun _ => ret (.nx env)
  | _, _ => no := (rfl)
theorem fIxL_r (n : Nat) (i : Int) : fIxL (.ref n) (.p (.int i)) S = (match S[n]? with
    | some (.lst ds) => if 0 ≤ i then opt (atL ds i) S else .no
    | _ => .no) := (rfl)
theorem fSetL_r (n : Nat) (i : Int) (v : D) : fSetL v (.ref n) (.p (.int i)) S = (match S[n]? with
    | some (.lst ds) => (match ixI ds.length i with
      | some j => .ok () (S.set n (.lst (ds.set j v)))
      | none => .no)
    | _ => .no) := (rfl)
theorem fLenSet_t (ns : List Int) : fLenSet (.tuple (ns.map .int)) S = if ns.length ≤ 4000 then .ok (.p (.int (dist ns).length)) S else .no := by
  show (match intsOf (ns.map .int) with | some ns => if ns.length ≤ 4000 then ret (.p (.int (dist ns).length)) else no | none => no : M D) S = _
  rw [intsOf_map]
  exact iteM ..
theorem iEnumD_ev (a : E) : iEnumD a env S = bndR (iVal a env S) fun ds => ret (enumD 0 ds) := (rfl)
theorem iZipD_ev (a b : E) : iZipD a b env S = bndR (iVal a env S) fun ds => bnd (iVal b env) fun es => ret (zipD ds es) := (rfl)
def kForR (g : G) (b : B) (n k i : Nat) : Fl → M Fl := fun f => match f with
  | .nx env2 => forR g b n k i env2
  | .ct env2 => forR g b n k i env2
  | .bk env2 => ret (.nx env2)
  | .rt d => ret (.rt d)
theorem kForR_nx (g : G) (b : B) (n k i : Nat) (env2 : Env) : kForR g b n k i (.nx env2) S = forR g b n k i env2 S := (rfl)
theorem kForR_ct (g : G) (b : B) (n k i : Nat) (env2 : Env) : kForR g b n k i (.ct env2) S = forR g b n k i env2 S := (rfl)
theorem kForR_bk (g : G) (b : B) (n k i : Nat) (env2 : Env) : kForR g b n k i (.bk env2) S = .ok (.nx env2) S := (rfl)
theorem kForR_rt (g : G) (b : B) (n k i : Nat) (d : D) : kForR g b n k i (.rt d) S = .ok (.rt d) S := (rfl)
theorem forR_succ (g : G) (b : B) (n k i : Nat) : forR g b n (k + 1) i env S = (match S[n]? with
    | some (.lst es) => (match es[i]? with
      | some x => bndR (hushR (g x env S)) fun env1 => bnd (b env1) (kForR g b n k (i + 1))
      | none => .ok (.nx env) S)
    | _ => .no) := (rfl)
theorem sForR_ev (a : E) (g : G) (b : B) : sForR a g b env S = bndR (a env S) fun x S => match x with
  | .ref n => match S[n]? with
    | some (.lst es) => forR g b n (es.length + 1) 0 env S
    | _ => .no
  | _ => .no := (rfl)
theorem lcR_succ (g : G) (t : T) (e : E) (n k i : Nat) : lcR g t e env n (k + 1) i S = (match S[n]? with
    | some (.lst es) => (match es[i]? with
      | some x => bndR (lcT g t e env x S) fun o => bnd (lcR g t e env n k (i + 1)) fun ys => ret (o.toList ++ ys)
      | none => .ok [] S)
    | _ => .no) := (rfl)
theorem eLcR_ev (fz : Bool) (own : List Nat) (a : E) (g : G) (t : T) (e : E) : eLcR fz own a g t e env S = bndR (a env S) fun x S => match x with
  | .ref n => match S[n]? with
    | some (.lst es) => if es.length < big then hush (bnd (lcR g t e (wipe env own) n (es.length + 1) 0) fun ys => mkL fz ys) S else .no
    | _ => .no
  | _ => .no := (rfl)
/-- over a list that stays as it is: as over data -/
theorem lcR_data {g : G} {t : T} {e : E} {n : Nat} {es : List D} (hS : S[n]? = some (.lst es)) {h : D → Option D} (step : ∀ x ∈ es, lcT g t e env x S = .ok (h x) S) : ∀ (k i : Nat), es.length - i < k → lcR g t e env n k i S = .ok ((es.drop i).filterMap h) S := by
  intro k
  induction k with
  | zero => intro i hk; omega
  | succ k ih =>
    intro i hk
    rw [lcR_succ, hS]
    cases q : es[i]? with
    | none =>
      rw [List.drop_eq_nil_of_le (List.getElem?_eq_none_iff.mp q)]
      simp only [q]
      rfl
    | some x =>
      obtain ⟨hi, ex⟩ := List.getElem?_eq_some_iff.mp q
      have hx : x ∈ es := List.mem_of_getElem? q
      simp only [q]
      rw [step x hx]
      show bndR (lcR g t e env n k (i + 1) S) _ = _
      rw [ih (i + 1) (by omega), List.drop_eq_getElem_cons hi, ex]
      show R.ok ((h x).toList ++ _) S = _
      cases q2 : h x <;> simp [List.filterMap_cons, q2]
theorem new_ev (o : Ob) : new o S = .ok (.ref S.length) (S ++ [o]) := (rfl)
/-! statements -/
theorem sNil_ev : sNil env S = .ok (.nx env) S := (rfl)
def kSeq (b : B) : Fl → M Fl := fun f => match f with
  | .nx env' => b env'
  | f => ret f
theorem kSeq_nx (b : B) (env' : Env) : kSeq b (.nx env') S = b env' S := (rfl)
theorem kSeq_rt (b : B) (d : D) : kSeq b (.rt d) S = .ok (.rt d) S := (rfl)
theorem kSeq_bk (b : B) (env' : Env) : kSeq b (.bk env') S = .ok (.bk env') S := (rfl)
theorem kSeq_ct (b : B) (env' : Env) : kSeq b (.ct env') S = .ok (.ct env') S := (rfl)
theorem sCons_ev (a b : B) : sCons a b env S = bndR (a env S) (kSeq b) := (rfl)
theorem sExpr_ev (a : E) : sExpr a env S = bndR (a env S) fun _ => ret (.nx env) := (rfl)
theorem sSet_ev (i : Nat) (a : E) : sSet i a env S = bndR (a env S) fun x => ret (.nx (env.set i (some x))) := (rfl)
theorem gSub_ev (a b : E) (v : D) : gSub a b v env S = bndR (hushR (a env S)) fun x => bnd (hush (b env)) fun y => bnd (fSetIx v x y) fun _ => ret env := (rfl)
theorem sAsg_ev (g : G) (a : E) : sAsg g a env S = bndR (a env S) fun x => bnd (hush (g x env)) fun env' => ret (.nx env') := (rfl)
theorem sRet_ev (a : E) : sRet a env S = bndR (a env S) fun x => ret (.rt x) := (rfl)
theorem sRetN_ev : sRetN env S = .ok (.rt (.p .none)) S := (rfl)
theorem sIf_ev (t : T) (a b : B) : sIf t a b env S = bndR (t env S) fun c => if c then a env else b env := (rfl)
theorem sRaise_ev (e : Ex) : sRaise e env S = .ex e S := (rfl)
theorem sBreak_ev : sBreak env S = .ok (.bk env) S := (rfl)
theorem sCont_ev : sCont env S = .ok (.ct env) S := (rfl)
theorem sPar2_ev (i j : Nat) (a : As) : sPar2 i j a env S = bndR (a env S) fun ds => match ds with
  | [d, e] => ret (.nx ((env.set i (some d)).set j (some e)))
  | _ => no := (rfl)
theorem sPar3_ev (i j k : Nat) (a : As) : sPar3 i j k a env S = bndR (a env S) fun ds => match ds with
  | [d, e, f] => ret (.nx (((env.set i (some d)).set j (some e)).set k (some f)))
  | _ => no := (rfl)
theorem gName_ev (i : Nat) (x : D) : gName i x env S = .ok (env.set i (some x)) S := (rfl)
theorem gTup_ev (gs : List G) (x : D) : gTup gs x env S = bndR (opt (items x) S) fun xs => if xs.length = gs.length then gsFill gs xs env else no := (rfl)
theorem gsFill_nil : gsFill [] [] env S = .ok env S := (rfl)
theorem gsFill_cons (g : G) (gs : List G) (x : D) (xs : List D) : gsFill (g :: gs) (x :: xs) env S = bndR (g x env S) fun env' => gsFill gs xs env' := (rfl)
def kFor (g : G) (b : B) (xs : List D) : Fl → M Fl := fun f => match f with
  | .nx env2 => forL g b xs env2
  | .ct env2 => forL g b xs env2
  | .bk env2 => ret (.nx env2)
  | .rt d => ret (.rt d)
theorem kFor_nx (g : G) (b : B) (xs : List D) (env2 : Env) : kFor g b xs (.nx env2) S = forL g b xs env2 S := (rfl)
theorem kFor_ct (g : G) (b : B) (xs : List D) (env2 : Env) : kFor g b xs (.ct env2) S = forL g b xs env2 S := (rfl)
theorem kFor_bk (g : G) (b : B) (xs : List D) (env2 : Env) : kFor g b xs (.bk env2) S = .ok (.nx env2) S := (rfl)
theorem kFor_rt (g : G) (b : B) (xs : List D) (d : D) : kFor g b xs (.rt d) S = .ok (.rt d) S := (rfl)
theorem forL_nil (g : G) (b : B) : forL g b [] env S = .ok (.nx env) S := (rfl)
theorem forL_cons (g : G) (b : B) (x : D) (xs : List D) : forL g b (x :: xs) env S = bndR (hushR (g x env S)) fun env1 => bnd (b env1) (kFor g b xs) := (rfl)
theorem sFor_ev (i : I) (g : G) (b : B) : sFor i g b env S = bndR (i env S) fun xs => forL g b xs env := (rfl)
theorem sWhile_ev (n : Nat) (t : T) (b : B) : sWhile n t b env S = whileN t b n env S := (rfl)
def kWhile (t : T) (b : B) (n : Nat) : Fl → M Fl := fun f => match f with
  | .nx env2 => whileN t b n env2
  | .ct env2 => whileN t b n env2
  | .bk env2 => ret (.nx env2)
  | .rt d => ret (.rt d)
theorem kWhile_nx (t : T) (b : B) (n : Nat) (env2 : Env) : kWhile t b n (.nx env2) S = whileN t b n env2 S := (rfl)
theorem kWhile_rt (t : T) (b : B) (n : Nat) (d : D) : kWhile t b n (.rt d) S = .ok (.rt d) S := (rfl)
theorem kWhile_bk (t : T) (b : B) (n : Nat) (env2 : Env) : kWhile t b n (.bk env2) S = .ok (.nx env2) S := (rfl)
theorem kWhile_ct (t : T) (b : B) (n : Nat) (env2 : Env) : kWhile t b n (.ct env2) S = whileN t b n env2 S := (rfl)
theorem whileN_succ (t : T) (b : B) (n : Nat) : whileN t b (n + 1) env S = bndR (t env S) fun c => if c then bnd (b env) (kWhile t b n) else ret (.nx env) := (rfl)
theorem lcT_ev (g : G) (t : T) (e : E) (x : D) : lcT g t e env x S = bndR (hushR (g x env S)) fun env1 => bnd (t env1) fun c => if c then bnd (e env1) fun y => ret (some y) else ret none := (rfl)
theorem lcL_nil (g : G) (t : T) (e : E) : lcL g t e env [] S = .ok [] S := (rfl)
theorem lcL_cons (g : G) (t : T) (e : E) (x : D) (xs : List D) : lcL g t e env (x :: xs) S = bndR (lcT g t e env x S) fun o => bnd (lcL g t e env xs) fun ys => ret (o.toList ++ ys) := (rfl)
theorem eLc_ev (fz : Bool) (own : List Nat) (i : I) (g : G) (t : T) (e : E) : eLc fz own i g t e env S = bndR (i env S) fun xs => hush (bnd (lcL g t e (wipe env own) xs) fun ys => mkL fz ys) := (rfl)
def kBody : Fl → M D := fun f => match f with
  | .nx _ => ret (.p .none)
  | .rt d => ret d
  | _ => no
theorem kBody_nx (env' : Env) : kBody (.nx env') S = .ok (.p .none) S := (rfl)
theorem kBody_rt (d : D) : kBody (.rt d) S = .ok d S := (rfl)
theorem body_ev (p n : Nat) (b : B) (ds : List D) : body p n b ds S = if ds.length = p then bndR (b (start n ds) S) kBody else .no := by
  unfold body
  split <;> rfl
/-! the same with what is known -/
theorem for_inv {g : G} {b : B} {I : Nat → Env → Sto → Prop} (xs : List D) (step : ∀ i x env S, xs[i]? = some x → I i env S → ∃ env' S', bndR (hushR (g x env S)) (fun env1 => b env1) = .ok (.nx env') S' ∧ I (i + 1) env' S') :
    ∀ (n i : Nat) (env : Env) (S : Sto), i + n = xs.length → I i env S → ∃ env' S', forL g b (xs.drop i) env S = .ok (.nx env') S' ∧ I xs.length env' S' := by
  intro n
  induction n with
  | zero =>
    intro i env S e h
    rw [List.drop_eq_nil_of_le (by omega)]
    exact ⟨env, S, rfl, by rw [← e]; exact h⟩
  | succ n ih =>
    intro i env S e h
    have hi : i < xs.length := by omega
    obtain ⟨env1, S1, e1, h1⟩ := step i xs[i] env S (List.getElem?_eq_getElem hi) h
    obtain ⟨env2, S2, e2, h2⟩ := ih (i + 1) env1 S1 (by omega) h1
    refine ⟨env2, S2, ?_, h2⟩
    rw [List.drop_eq_getElem_cons hi, forL_cons]
    cases q : hushR (g xs[i] env S) with
    | ok env3 S3 =>
      rw [q] at e1
      replace e1 : b env3 S3 = .ok (.nx env1) S1 := e1
      show bndR (b env3 S3) (kFor g b (xs.drop (i + 1))) = _
      rw [e1]
      exact e2
    | ex e S3 => rw [q] at e1; cases e1
    | no => rw [q] at e1; cases e1
theorem for_all {g : G} {b : B} {I : Nat → Env → Sto → Prop} (xs : List D) {env : Env} {S : Sto} (h0 : I 0 env S) (step : ∀ i x env S, xs[i]? = some x → I i env S → ∃ env' S', bndR (hushR (g x env S)) (fun env1 => b env1) = .ok (.nx env') S' ∧ I (i + 1) env' S') :
    ∃ env' S', forL g b xs env S = .ok (.nx env') S' ∧ I xs.length env' S' := for_inv xs step xs.length 0 env S (by omega) h0
/-- a comprehension, item by item -/
theorem lc_inv {g : G} {t : T} {e : E} {env : Env} {I : Nat → List D → Sto → Prop} (xs : List D) (step : ∀ i x ys S, xs[i]? = some x → I i ys S → ∃ o S', lcT g t e env x S = .ok o S' ∧ I (i + 1) (ys ++ o.toList) S') :
    ∀ (n i : Nat) (ys : List D) (S : Sto), i + n = xs.length → I i ys S → ∃ zs S', lcL g t e env (xs.drop i) S = .ok zs S' ∧ I xs.length (ys ++ zs) S' := by
  intro n
  induction n with
  | zero =>
    intro i ys S h q
    rw [List.drop_eq_nil_of_le (by omega)]
    exact ⟨[], S, rfl, by rw [List.append_nil, ← h]; exact q⟩
  | succ n ih =>
    intro i ys S h q
    have hi : i < xs.length := by omega
    obtain ⟨o, S1, e1, h1⟩ := step i xs[i] ys S (List.getElem?_eq_getElem hi) q
    obtain ⟨zs, S2, e2, h2⟩ := ih (i + 1) _ S1 (by omega) h1
    refine ⟨o.toList ++ zs, S2, ?_, by rw [← List.append_assoc]; exact h2⟩
    rw [List.drop_eq_getElem_cons hi, lcL_cons, e1]
    show bndR (lcL g t e env (xs.drop (i + 1)) S1) _ = _
    rw [e2]
    rfl
theorem lc_all {g : G} {t : T} {e : E} {env : Env} {I : Nat → List D → Sto → Prop} (xs : List D) {S : Sto} (h0 : I 0 [] S) (step : ∀ i x ys S, xs[i]? = some x → I i ys S → ∃ o S', lcT g t e env x S = .ok o S' ∧ I (i + 1) (ys ++ o.toList) S') :
    ∃ zs S', lcL g t e env xs S = .ok zs S' ∧ I xs.length zs S' := by
  have h := lc_inv xs step xs.length 0 [] S (by omega) h0
  simpa using h
/-- a comprehension over data that touches no object -/
theorem lc_map {g : G} {t : T} {e : E} {env : Env} {S : Sto} {α : Type} {f : α → D} {h : α → Option D} (xs : List α) (step : ∀ x ∈ xs, lcT g t e env (f x) S = .ok (h x) S) : lcL g t e env (xs.map f) S = .ok (xs.filterMap h) S := by
  induction xs with
  | nil => rfl
  | cons x xs ih =>
    rw [List.map_cons, lcL_cons, step x List.mem_cons_self]
    show bndR (lcL g t e env (xs.map f) S) _ = _
    rw [ih fun y hy => step y (List.mem_cons_of_mem _ hy)]
    show R.ok ((h x).toList ++ xs.filterMap h) S = _
    cases q : h x <;> simp [List.filterMap_cons, q]
end
/-! what is plain may be compared -/
mutual
theorem plain_lay : ∀ x : PyData, plainP x = true → x.canLay0 = true
  | .none, _ => rfl
  | .bool _, _ => rfl
  | .int _, _ => rfl
  | .str x, h => by
    simp only [plainP] at h
    show PyData.strOk x = true
    unfold PyData.strOk
    rw [← Array.all_toList]
    exact h
  | .list xs, h => plain_lays xs h
  | .tuple xs, h => plain_lays xs h
  | .dict _, h => by simp only [plainP] at h; cases h
theorem plain_lays : ∀ xs : List PyData, plainPs xs = true → PyData.canLayAll0 xs = true
  | [], _ => rfl
  | x :: xs, h => by
    simp only [plainPs, Bool.and_eq_true] at h
    show (x.canLay0 && PyData.canLayAll0 xs) = true
    rw [plain_lay x h.1, plain_lays xs h.2]
    rfl
end
theorem shaped_of {x : PyData} (h : plainP x = true) (hd : x.depth ≤ 64) : SeqAt.shaped x = true := by
  unfold SeqAt.shaped
  rw [plain_lay x h]
  simp [hd]
mutual
theorem eqv_self : ∀ x : PyData, plainP x = true → PyData.eqv x x = true
  | .none, _ => rfl
  | .bool b, _ => by simp [PyData.eqv]
  | .int i, _ => by simp [PyData.eqv]
  | .str x, _ => by simp [PyData.eqv]
  | .list xs, h => eqv_selfs xs h
  | .tuple xs, h => eqv_selfs xs h
  | .dict _, h => by simp only [plainP] at h; cases h
theorem eqv_selfs : ∀ xs : List PyData, plainPs xs = true → PyData.eqvAll xs xs = true
  | [], _ => rfl
  | x :: xs, h => by
    simp only [plainPs, Bool.and_eq_true] at h
    show (PyData.eqv x x && PyData.eqvAll xs xs) = true
    rw [eqv_self x h.1, eqv_selfs xs h.2]
    rfl
end
end DL

namespace DL
open PySem
section
variable {S : Sto} {env : Env}
theorem eStep_ev (fz : Bool) (a : E) (lo hi st : O) : eStep fz a lo hi st env S = bndR (a env S) fun x => bnd (lo env) fun l => bnd (hi env) fun h => bnd (st env) fun k => bnd (see x) fun u => match k with
  | some k => fStep fz u l h k
  | none => no := rfl
theorem fStep_l (fz : Bool) (xs : List PyData) (lo hi : Option Int) (st : Int) : fStep fz (.list xs) lo hi st S = if st ≠ 0 then mkP fz (stepL xs lo hi st) S else .no := by unfold fStep; exact iteM ..
theorem fStep_t (fz : Bool) (xs : List PyData) (lo hi : Option Int) (st : Int) : fStep fz (.tuple xs) lo hi st S = if st ≠ 0 then .ok (.p (.tuple (stepL xs lo hi st))) S else .no := by unfold fStep; exact iteM ..
theorem fPopAt_r (n : Nat) (i : Int) : fPopAt (.ref n) (.p (.int i)) S = (match S[n]? with
    | some (.lst ds) => (match ixI ds.length i with
      | some k => if -4611686018427387904 ≤ i ∧ i < 4611686018427387904 then (match ds[k]? with
        | some d => .ok d (S.set n (.lst (ds.eraseIdx k)))
        | none => .no) else .no
      | none => .no)
    | _ => .no) := (rfl)
theorem fSorted_l (fz : Bool) (ns : List Int) : fSorted fz (.list (ns.map .int)) S = mkP fz ((sortI ns).map .int) S := by
  show (match intsOf (ns.map .int) with | some ns => mkP fz ((sortI ns).map .int) | none => no : M D) S = _
  rw [intsOf_map]
theorem fSorted_t (fz : Bool) (ns : List Int) : fSorted fz (.tuple (ns.map .int)) S = mkP fz ((sortI ns).map .int) S := by
  show (match intsOf (ns.map .int) with | some ns => mkP fz ((sortI ns).map .int) | none => no : M D) S = _
  rw [intsOf_map]
theorem fMaxL_l (n : Int) (ns : List Int) : fMaxL (.list (.int n :: ns.map .int)) S = .ok (.p (.int (ns.foldl max n))) S := by
  show (match intsOf ((n :: ns).map .int) with | some (n :: ns) => ret (.p (.int (ns.foldl max n))) | _ => no : M D) S = _
  rw [intsOf_map]; rfl
theorem fMinL_l (n : Int) (ns : List Int) : fMinL (.list (.int n :: ns.map .int)) S = .ok (.p (.int (ns.foldl min n))) S := by
  show (match intsOf ((n :: ns).map .int) with | some (n :: ns) => ret (.p (.int (ns.foldl min n))) | _ => no : M D) S = _
  rw [intsOf_map]; rfl
theorem eListRg_ev (fz : Bool) (a b : E) : eListRg fz a b env S = bndR (rgP a b env S) fun mn => if rngOk mn.1 mn.2 then mkP fz ((rngL mn.1 mn.2).map .int) else no := (rfl)
theorem eTupRg_ev (a b : E) : eTupRg a b env S = bndR (rgP a b env S) fun mn => if rngOk mn.1 mn.2 then ret (.p (.tuple ((rngL mn.1 mn.2).map .int))) else no := (rfl)
theorem rgP_ev (a b : E) : rgP a b env S = bndR (a env S) fun x => bnd (b env) fun y => match x, y with
  | .p (.int m), .p (.int n) => ret (m, n)
  | _, _ => no := (rfl)
theorem iRange3_ev (a b c : E) : iRange3 a b c env S = bndR (a env S) fun x => bnd (b env) fun y => bnd (c env) fun z => match x, y, z with
  | .p (.int m), .p (.int n), .p (.int k) => if rngOk m n ∧ rngOk 0 k ∧ 0 < k then ret ((List.range ((n - m + k - 1) / k).toNat).map fun i => .p (.int (m + (i : Nat) * k))) else no
  | _, _, _ => no := (rfl)
theorem fIsB_b (neg k c : Bool) : fIsB neg k (.p (.bool c)) S = .ok (.p (.bool (neg ^^ (c == k)))) S := (rfl)
theorem fIndex_l (xs : List PyData) (y : PyData) : fIndex (.list xs) y S = if SeqAt.shaped (.list xs) && SeqAt.shaped y then (match xs.findIdx? fun z => PyData.eqv z y with
    | some j => .ok (.p (.int (j : Nat))) S
    | none => .no) else .no := by
  show (if SeqAt.shaped (.list xs) && SeqAt.shaped y then (match xs.findIdx? fun z => PyData.eqv z y with | some j => ret (.p (.int (j : Nat))) | none => no) else no : M D) S = _
  rw [iteM]; cases xs.findIdx? fun z => PyData.eqv z y <;> rfl
theorem fCount_l (ns : List Int) (k : Int) : fCount (.list (ns.map .int)) (.int k) S = .ok (.p (.int (ns.count k : Nat))) S := by
  show (match intsOf (ns.map .int) with | some ns => ret (.p (.int (ns.count k : Nat))) | none => no : M D) S = _
  rw [intsOf_map]; rfl
theorem isLq_l (xs : List PyData) : isLq S (.p (.list xs)) = true := (rfl)
theorem isLq_r (n : Nat) : isLq S (.ref n) = isL S (.ref n) := (rfl)
theorem eMq_ev (f : PyData → PyData → M D) (a b : E) : eMq f a b env S = bndR (a env S) fun x S => if isLq S x then bnd (b env) (fun y => bnd (see x) fun u => bnd (see y) fun w => f u w) S else .no := (rfl)
theorem isDct_r (n : Nat) : isDct S (.ref n) = (match S[n]? with | some (.dct _) => true | _ => false) := (rfl)
theorem eGet_ev (a b c : E) : eGet a b c env S = bndR (a env S) fun x S => if isDct S x then bnd (b env) (fun y => bnd (c env) fun z => fGet x y z) S else .no := (rfl)
theorem fGet_r (n : Nat) (k : PyData) (z : D) : fGet (.ref n) (.p k) z S = (match S[n]? with
    | some (.dct kvs) => (match keyOf k with
      | some q => .ok ((dGet kvs q).getD z) S
      | none => .no)
    | _ => .no) := (rfl)
theorem fDictP_l (xs : List PyData) : fDictP (.list xs) S = (match pairsOf xs with
    | some kvs => (match mergeD [] kvs with
      | some m => .ok (.ref S.length) (S ++ [.dct m])
      | none => .no)
    | none => .no) := by
  show (match pairsOf xs with | some kvs => (match mergeD [] kvs with | some m => new (.dct m) | none => no) | none => no : M D) S = _
  cases pairsOf xs with
  | none => rfl
  | some kvs => dsimp only; cases mergeD [] kvs <;> rfl
theorem fLenSetA_t (ns : List Int) : fLenSetA (.tuple (ns.map .int)) S = if ns.length ≤ 4000 then .ok (.p (.int (dist ns).length)) S else .no := by
  show (match intsOf (ns.map .int) with | some ns => if ns.length ≤ 4000 then ret (.p (.int (dist ns).length)) else no | none => no : M D) S = _
  rw [intsOf_map]
  exact iteM ..
theorem fLenSetA_l (ns : List Int) : fLenSetA (.list (ns.map .int)) S = if ns.length ≤ 4000 then .ok (.p (.int (dist ns).length)) S else .no := by
  show (match intsOf (ns.map .int) with | some ns => if ns.length ≤ 4000 then ret (.p (.int (dist ns).length)) else no | none => no : M D) S = _
  rw [intsOf_map]
  exact iteM ..
theorem stepL_map {α β : Type} (f : α → β) (xs : List α) (lo hi : Option Int) (st : Int) : stepL (xs.map f) lo hi st = (stepL xs lo hi st).map f := by
  unfold stepL
  rw [List.length_map, List.map_filterMap]
  congr 1
  funext k
  exact List.getElem?_map ..
theorem stepL_rev {α : Type} (xs : List α) : stepL xs none none (-1) = xs.reverse := by
  unfold stepL
  rw [PySem.W.krv_bounds]
  show (sliceRange ((xs.length : Int) - 1) (-1) (-1)).filterMap (xs[·]?) = _
  rw [PySem.W.krv_sliceRange, PySem.W.krv_range, List.filterMap_reverse]
  congr 1
  have := PySem.W.krv_all xs.toArray
  rw [List.size_toArray] at this
  have e3 : (fun x => xs.toArray[x]?) = fun x : Nat => xs[x]? := funext fun x => List.getElem?_toArray ..
  rw [e3] at this
  exact this
theorem stepL_one {α : Type} (xs : List α) : stepL xs none none 1 = xs := by
  unfold stepL
  show (sliceRange 0 (xs.length : Int) 1).filterMap (xs[·]?) = _
  have e : sliceRange 0 (xs.length : Int) 1 = List.range xs.length := by
    have := sliceRange_one 0 xs.length
    rw [show ((0 : Nat) : Int) = 0 from rfl] at this
    rw [this, Nat.sub_zero]
    have : (fun x => 0 + x) = (id : Nat → Nat) := funext fun x => Nat.zero_add x
    rw [this, List.map_id]
  rw [e]
  have := PySem.W.krv_all xs.toArray
  rw [List.size_toArray] at this
  have e3 : (fun x => xs.toArray[x]?) = fun x : Nat => xs[x]? := funext fun x => List.getElem?_toArray ..
  rw [e3] at this
  exact this
end
end DL
namespace DL
open PySem
section
variable {S : Sto} {env : Env}
theorem gTupQ_ev (gs : List G) (x : D) : gTupQ gs x env S = (match itemsQ S x with
  | some xs => if xs.length = gs.length then gsFill gs xs env S else .no
  | none => .no) := (rfl)
theorem e2V_ev (f : PyData → PyData → M D) (a b : E) : e2V f a b env S = bndR (a env S) fun x => bnd (b env) fun y S => match viewD S 8 x, viewD S 8 y with
  | some u, some w => f u w S
  | _, _ => .no := (rfl)
theorem viewD_p (k : Nat) (x : PyData) : viewD S k (.p x) = some x := by cases k <;> rfl
theorem viewsF_map {α : Type} (k : Nat) (f : α → PyData) (xs : List α) : viewsF (viewD S k) (xs.map fun x => .p (f x)) = some (xs.map f) := by
  induction xs with
  | nil => rfl
  | cons x xs ih =>
    show (match viewD S k (.p (f x)), viewsF (viewD S k) (xs.map fun x => .p (f x)) with | some x, some xs => some (x :: xs) | _, _ => none) = _
    rw [viewD_p, ih]
    rfl
theorem fEqS_ok {x y : PyData} (h1 : SeqAt.shaped x = true) (h2 : SeqAt.shaped y = true) : fEqS x y S = .ok (.p (.bool (PyData.eqv x y))) S := by
  unfold fEqS
  rw [h1, h2]
  rfl
theorem fEq_in (i : Int) : fEq (.int i) .none S = .ok (.p (.bool false)) S := (rfl)
end
theorem zipD_map {α β : Type} (f : α → PyData) (g : β → PyData) : ∀ (xs : List α) (ys : List β), zipD (xs.map fun x => .p (f x)) (ys.map fun y => .p (g y)) = (xs.zip ys).map fun p => .p (.tuple [f p.1, g p.2])
  | [], _ => by simp [zipD]
  | _ :: _, [] => by simp [zipD]
  | x :: xs, y :: ys => by
    show mkTup [.p (f x), .p (g y)] :: zipD (xs.map fun x => .p (f x)) (ys.map fun y => .p (g y)) = _
    rw [zipD_map f g xs ys]
    rfl
/-- a dict of ints -/
abbrev pairT (p : Int × Int) : PyData := .tuple [.int p.1, .int p.2]
abbrev kvD (p : Int × Int) : PyData × D := (.int p.1, .p (.int p.2))
theorem pairsOf_int : ∀ L : List (Int × Int), pairsOf (L.map pairT) = some (L.map kvD)
  | [] => rfl
  | p :: L => by
    show (pairsOf (L.map pairT)).map ((PyData.int p.1, D.p (.int p.2)) :: ·) = _
    rw [pairsOf_int L]
    rfl
theorem any_kv (k : Int) (A : List (Int × Int)) (h : ¬ k ∈ A.map (·.1)) : ((A.map kvD).any fun kv => decide (keyOf kv.1 = some (.inl k))) = false := by
  rw [List.any_map]
  apply List.any_eq_false.mpr
  intro p hp
  have : ¬ p.1 = k := fun e => h (List.mem_map.mpr ⟨p, hp, e⟩)
  simp [keyOf, this]
theorem mergeD_int : ∀ (L A : List (Int × Int)), ((A ++ L).map (·.1)).Nodup → mergeD (A.map kvD) (L.map kvD) = some ((A ++ L).map kvD)
  | [], A, _ => by rw [List.append_nil]; rfl
  | p :: L, A, h => by
    have e : (A ++ p :: L) = (A ++ [p]) ++ L := by simp
    rw [e] at h
    have hk : ¬ p.1 ∈ A.map (·.1) := by
      rw [List.map_append, List.map_append] at h
      have h2 := (List.nodup_append.mp (List.nodup_append.mp h).1)
      intro z
      exact h2.2.2 p.1 z p.1 (by simp) rfl
    show mergeD (dPut (A.map kvD) (.inl p.1) (.int p.1) (.p (.int p.2))) (L.map kvD) = _
    unfold dPut
    rw [any_kv _ _ hk, if_neg (by decide), e]
    have := mergeD_int L (A ++ [p]) h
    rw [List.map_append] at this
    exact this
theorem dGet_int (L : List (Int × Int)) (k : Int) : dGet (L.map kvD) (.inl k) = (L.find? fun p => decide (p.1 = k)).map fun p => .p (.int p.2) := by
  unfold dGet
  rw [List.find?_map, Option.map_map]
  congr 1
  congr 1
  funext p
  simp [keyOf]
end DL

namespace DL
open PySem
section
variable {S : Sto} {env : Env}
/-! errors, deeds -/
theorem eIsX_ev (tab : List (Str × Bool)) (a : E) : eIsX tab a env S = bndR (a env S) (fIsX tab) := (rfl)
theorem fIsX_e (tab : List (Str × Bool)) (c : Str) : fIsX tab (.exn ⟨c, none⟩) S = (match tabGet tab c with
  | some b => .ok (.p (.bool b)) S
  | none => .no) := by
  show (match tabGet tab c with | some b => (match (none : Option (Str × PyData)) with | none => ret (.p (.bool b)) | some _ => no) | none => no : M D) S = _
  cases tabGet tab c <;> rfl
theorem tabGet_cons (a : Str) (b : Bool) (t : List (Str × Bool)) (c : Str) : tabGet ((a, b) :: t) c = if a = c then some b else tabGet t c := by
  unfold tabGet
  rw [List.find?_cons]
  by_cases h : a = c
  · simp [h]
  · simp [h]
theorem fIsX_n (tab : List (Str × Bool)) : fIsX tab (.p .none) S = .ok (.p (.bool false)) S := (rfl)
theorem fIsN_x (neg : Bool) (e : Ex) : fIsN neg (.exn e) S = .ok (.p (.bool neg)) S := (rfl)
theorem eLam_ev (F : M D → M D) (a : E) : eLam F a env S = F (a env) S := (rfl)
theorem told_ok {env0 : Env} {cs : List Str} {k i j : Nat} {rest : B} {m : M D} {d : D} {S' : Sto} (h : m S = .ok d S') : told env0 cs k i j rest m S = bndR (hushR (rest (env0.set k (some d)) S')) kBody := by
  unfold told
  rw [h]
  rfl
theorem told_ex {env0 : Env} {cs : List Str} {k i j : Nat} {rest : B} {m : M D} {e : Ex} {S' : Sto} (h : m S = .ex e S') (hc : e.c ∈ cs ∧ i < env0.length) : told env0 cs k i j rest m S = bndR (hushR (rest (((env0.set i (some (.exn e))).set j (some (.exn e))).set i none) S')) kBody := by
  unfold told
  rw [h]
  show (if e.c ∈ cs ∧ i < env0.length then _ else _) = _
  rw [if_pos hc]
  rfl
theorem sTryA_ok {cs : List Str} {k i j : Nat} {a : E} {d : D} {S' : Sto} (h : a env S = .ok d S') : sTryA cs (some k) i j a env S = .ok (.nx (env.set k (some d))) S' := by
  unfold sTryA
  rw [h]
theorem sTryA_ex {cs : List Str} {k : Option Nat} {i j : Nat} {a : E} {e : Ex} {S' : Sto} (h : a env S = .ex e S') (hc : e.c ∈ cs ∧ i < env.length) : sTryA cs k i j a env S = .ok (.nx (((env.set i (some (.exn e))).set j (some (.exn e))).set i none)) S' := by
  unfold sTryA
  rw [h]
  show (if e.c ∈ cs ∧ i < env.length then _ else _) = _
  rw [if_pos hc]
theorem fCountD_l (xs : List PyData) (y : PyData) (h : (SeqAt.shaped (.list xs) && SeqAt.shaped y) = true) : fCountD (.list xs) y S = .ok (.p (.int ((xs.countP fun z => PyData.eqv z y : Nat) : Int))) S := by
  show (if (SeqAt.shaped (.list xs) && SeqAt.shaped y) = true then ret _ else no : M D) S = _
  rw [if_pos h]
  rfl
theorem eDict0_ev : eDict0 env S = .ok (.ref S.length) (S ++ [.dct []]) := (rfl)
theorem eMd1_ev (f : D → D → M D) (a b : E) : eMd1 f a b env S = bndR (a env S) fun x S => if isDct S x then bnd (b env) (fun y => f x y) S else .no := (rfl)
theorem fUpd_r (n m : Nat) : fUpd (.ref n) (.ref m) S = (match S[n]?, S[m]? with
    | some (.dct kvs), some (.dct more) => if n ≠ m ∧ kvs.length + more.length ≤ big then (match mergeD kvs more with
      | some r => .ok (.p .none) (S.set n (.dct r))
      | none => .no) else .no
    | _, _ => .no) := (rfl)
theorem gSl_ev (a : E) (lo hi : O) (v : D) : gSl a lo hi v env S = bndR (hushR (a env S)) fun x => bnd (hush (lo env)) fun l => bnd (hush (hi env)) fun h => bnd (fSetSl v x l h) fun _ => ret env := (rfl)
theorem fSetSl_r (ys : List PyData) (n : Nat) (lo hi : Option Int) : fSetSl (.p (.list ys)) (.ref n) lo hi S = (match S[n]? with
    | some (.lst ds) => if ds.length + ys.length ≤ big then .ok () (S.set n (.lst (spliceL ds (ys.map .p) lo hi))) else .no
    | _ => .no) := (rfl)
theorem fLenD_r (n : Nat) : fLenD (.ref n) S = (match S[n]? with
    | some (.dct kvs) => .ok (.p (.int (kvs.length : Nat))) S
    | _ => .no) := (rfl)
end
end DL

namespace DL
open PySem
section
variable {S : Sto} {env : Env}
/-! errors with a field -/
theorem eIsF_ev (tab : List (Str × Bool)) (a : E) : eIsF tab a env S = bndR (a env S) (fIsF tab) := (rfl)
theorem fIsF_e (tab : List (Str × Bool)) (c : Str) (y : Option (Str × PyData)) : fIsF tab (.exn ⟨c, y⟩) S = (match tabGet tab c with
    | some b => .ok (.p (.bool b)) S
    | none => .no) := by
  show (match tabGet tab c with | some b => ret (.p (.bool b)) | none => no : M D) S = _
  cases tabGet tab c <;> rfl
theorem fIsF_n (tab : List (Str × Bool)) : fIsF tab (.p .none) S = .ok (.p (.bool false)) S := (rfl)
theorem eFld_ev (cs : List Str) (f : Str) (a : E) : eFld cs f a env S = bndR (a env S) (fFld cs f) := (rfl)
theorem fFld_e {cs : List Str} {f c : Str} {x : PyData} (h : c ∈ cs) : fFld cs f (.exn ⟨c, some (f, x)⟩) S = .ok (.p x) S := by
  show (if c ∈ cs ∧ f = f then ret (.p x) else no : M D) S = _
  rw [if_pos ⟨h, rfl⟩]
  rfl
theorem sRaiseF_ok {c f : Str} {a : E} {x : PyData} {S' : Sto} (h : a env S = .ok (.p x) S') : sRaiseF c f a env S = .ex ⟨c, some (f, x)⟩ S' := by
  exact (bnd_ok h).trans rfl
end
end DL

namespace DL
open PySem
section
variable {S : Sto} {env : Env}
/-! texts -/
theorem eCutA_ev (fz : Bool) (a : E) (lo hi : O) : eCutA fz a lo hi env S = bndR (a env S) fun x => bnd (lo env) fun l => bnd (hi env) fun h => bnd (see x) fun u => fCutA fz u l h := (rfl)
theorem fCutA_s (fz : Bool) (z : Str) (lo hi : Option Int) : fCutA fz (.str z) lo hi S = if z.length ≤ big then .ok (.p (.str ⟨(cutL z.cps.toList lo hi).toArray⟩)) S else .no := by unfold fCutA; exact iteM ..
theorem fCutA_l (fz : Bool) (z : List PyData) (lo hi : Option Int) : fCutA fz (.list z) lo hi S = fCut fz (.list z) lo hi S := (rfl)
theorem fCutA_t (fz : Bool) (z : List PyData) (lo hi : Option Int) : fCutA fz (.tuple z) lo hi S = fCut fz (.tuple z) lo hi S := (rfl)
theorem iStr_ev (a : E) : iStr a env S = bndR (a env S) fun d => match d with
  | .p (.str z) => if z.length ≤ big then ret (signs z) else no
  | _ => no := (rfl)
theorem iRangeD_ev (a b c : E) : iRangeD a b c env S = bndR (a env S) fun x => bnd (b env) fun y => bnd (c env) fun z => match x, y, z with
  | .p (.int m), .p (.int n), .p (.int k) => if rngOk m n ∧ k = -1 then ret ((List.range (m - n).toNat).map fun i => .p (.int (m - (i : Nat)))) else no
  | _, _, _ => no := (rfl)
theorem fLen_s (x : Str) : fLen (.str x) S = if x.length ≤ big then .ok (.p (.int x.length)) S else .no := by unfold fLen; exact iteM ..
theorem fMul_s (fz : Bool) (x : Str) (k : Int) : fMul fz (.str x) (.int k) S = if x.length ≤ 1000 ∧ 0 ≤ k ∧ k ≤ 1000 then .ok (.p (.str ⟨(List.replicate k.toNat x.cps.toList).flatten.toArray⟩)) S else .no := by unfold fMul; exact iteM ..
theorem fIx_s (x : Str) (i : Int) : fIx (.p (.str x)) (.p (.int i)) S = if x.length ≤ big then opt ((atL x.cps.toList i).map fun c => .p (.str ⟨#[c]⟩)) S else .no := by show (if x.length ≤ big then opt ((atL x.cps.toList i).map fun c => .p (.str ⟨#[c]⟩)) else no : M D) S = _; exact iteM ..
theorem fIn_s (neg : Bool) (z t : Str) : fInD neg (.p (.str z)) (.p (.str t)) S = .ok (.p (.bool (neg ^^ !(Builtin.Str.occurrences t z 0 t.length 1).isEmpty))) S := (rfl)
theorem fLeS_s (i j : Str) : fLeS (.str i) (.str j) S = .ok (.p (.bool (!decide (j.cps.toList < i.cps.toList)))) S := (rfl)
theorem eD0_ev : eD0 env S = .ok (.p (.dict [])) S := (rfl)
end
end DL

namespace DL
open PySem
theorem fNeN_l (xs : List PyData) {S : Sto} : fNeN (.list xs) (.list []) S = .ok (.p (.bool (!xs.isEmpty))) S := (rfl)
theorem fNeU_d {S : Sto} : fNeU (.dict []) (.tuple []) S = .ok (.p (.bool true)) S := (rfl)
theorem fNeU_t (xs : List PyData) {S : Sto} : fNeU (.tuple xs) (.tuple []) S = .ok (.p (.bool (!isU (.tuple xs)))) S := (rfl)
theorem fNeU_l (xs : List PyData) {S : Sto} : fNeU (.list xs) (.tuple []) S = .ok (.p (.bool true)) S := (rfl)
theorem fNeU_i (i : Int) {S : Sto} : fNeU (.int i) (.tuple []) S = .ok (.p (.bool true)) S := (rfl)
theorem fNeU_s (z : Str) {S : Sto} : fNeU (.str z) (.tuple []) S = .ok (.p (.bool true)) S := (rfl)
theorem fNeU_b (b : Bool) {S : Sto} : fNeU (.bool b) (.tuple []) S = .ok (.p (.bool true)) S := (rfl)
theorem fNeU_n {S : Sto} : fNeU .none (.tuple []) S = .ok (.p (.bool true)) S := (rfl)
theorem fEqU_d {S : Sto} : fEqU (.dict []) (.tuple []) S = .ok (.p (.bool false)) S := (rfl)
theorem fEqU_t (xs : List PyData) {S : Sto} : fEqU (.tuple xs) (.tuple []) S = .ok (.p (.bool (isU (.tuple xs)))) S := (rfl)
theorem fEqU_l (xs : List PyData) {S : Sto} : fEqU (.list xs) (.tuple []) S = .ok (.p (.bool false)) S := (rfl)
theorem fEqU_i (i : Int) {S : Sto} : fEqU (.int i) (.tuple []) S = .ok (.p (.bool false)) S := (rfl)
theorem fEqU_s (z : Str) {S : Sto} : fEqU (.str z) (.tuple []) S = .ok (.p (.bool false)) S := (rfl)
theorem fEqU_b (b : Bool) {S : Sto} : fEqU (.bool b) (.tuple []) S = .ok (.p (.bool false)) S := (rfl)
theorem fEqU_n {S : Sto} : fEqU .none (.tuple []) S = .ok (.p (.bool false)) S := (rfl)
theorem fStrT_t (xs : List PyData) {S : Sto} : fStrT (.tuple xs) S = if (reprOk (.tuple xs) && SeqAt.shaped (.tuple xs)) = true then .ok (.p (.str (PyData.tuple xs).shown)) S else .no := by unfold fStrT; exact iteM ..
theorem isU_n : isU (.tuple []) = true := (rfl)
theorem isU_c (x : PyData) (xs : List PyData) : isU (.tuple (x :: xs)) = false := (rfl)
end DL

namespace DL
open PySem
theorem ints_back (ns : List Int) : intsOf (ns.map .int) = some ns := by
  induction ns with
  | nil => rfl
  | cons n ns ih => show (intsOf (ns.map .int)).map (n :: ·) = _; rw [ih]; rfl
theorem strs_back (ns : List Str) : strsOf (ns.map .str) = some ns := by
  induction ns with
  | nil => rfl
  | cons n ns ih => show (strsOf (ns.map .str)).map (n :: ·) = _; rw [ih]; rfl
theorem fRemove_r {n : Nat} {ns : List Int} {k : Int} {S : Sto} (h : S[n]? = some (.lst (ns.map fun i => .p (.int i)))) (hk : k ∈ ns) : fRemove (.ref n) (.p (.int k)) S = .ok (.p .none) (S.set n (.lst ((ns.erase k).map fun i => .p (.int i)))) := by
  have e : toPs (ns.map fun i : Int => D.p (.int i)) = some (ns.map .int) := toPs_mapf (fun i : Int => PyData.int i) ns
  show (match S[n]? with
    | some (.lst ds) => (match (toPs ds).bind intsOf with
      | some ns => if k ∈ ns then R.ok (D.p .none) (S.set n (.lst ((ns.erase k).map fun i => .p (.int i)))) else .no
      | none => .no)
    | _ => .no) = _
  rw [h]
  show (match (toPs (ns.map fun i : Int => D.p (.int i))).bind intsOf with
      | some ns => if k ∈ ns then R.ok (D.p .none) (S.set n (.lst ((ns.erase k).map fun i => .p (.int i)))) else .no
      | none => .no) = _
  rw [e]
  show (match intsOf (ns.map .int) with
      | some ns => if k ∈ ns then R.ok (D.p .none) (S.set n (.lst ((ns.erase k).map fun i => .p (.int i)))) else .no
      | none => .no) = _
  rw [ints_back]
  exact if_pos hk
theorem fSortedS_l (fz : Bool) (zs : List Str) {S : Sto} (h : zs.length < 64) : fSortedS fz (.list (zs.map .str)) S = mkP fz ((sortS zs).map .str) S := by
  show (match strsOf (zs.map .str) with
    | some zs => if zs.length < 64 then mkP fz ((sortS zs).map .str) else no
    | none => no : M D) S = _
  rw [strs_back]
  show (if zs.length < 64 then mkP fz ((sortS zs).map .str) else no : M D) S = _
  rw [if_pos h]
end DL

namespace DL
open PySem
theorem eIdxT_ev (a b : E) {env : Env} {S : Sto} : eIdxT a b env S = bndR (a env S) fun x S => if isTq x = true then bnd (b env) (fun y => fIdxT x y) S else .no := (rfl)
theorem isTq_t (xs : List PyData) : isTq (.p (.tuple xs)) = true := (rfl)
theorem idx_ints {ns : List Int} {k : Int} {S : Sto} (h : k ∈ ns) : fIdxT (.p (.tuple (ns.map .int))) (.p (.int k)) S = .ok (.p (.int (ns.idxOf k : Nat))) S := by
  show (match intsOf (ns.map .int) with
    | some ns => if k ∈ ns then ret (D.p (.int (ns.idxOf k : Nat))) else no
    | none => no : M D) S = _
  rw [ints_back]
  exact congrFun (if_pos h) S
end DL

namespace DL
open PySem
theorem fInT_t (neg : Bool) (x : PyData) (ys : List PyData) {S : Sto} : fInT neg x (.tuple ys) S = if SeqAt.shaped x && SeqAt.shaped (.tuple ys) then .ok (.p (.bool (neg ^^ ys.any fun z => PyData.eqv z x))) S else .no := by
  unfold fInT
  exact iteM ..
end DL

namespace DL
open PySem
theorem prsOf_map : ∀ ps : List (Int × Int), (∀ p ∈ ps, 0 ≤ p.1 ∧ p.1 < 64 ∧ 0 ≤ p.2 ∧ p.2 < 64) → prsOf (ps.map prT) = some ps
  | [], _ => rfl
  | p :: ps, h => by
    show (if 0 ≤ p.1 ∧ p.1 < 64 ∧ 0 ≤ p.2 ∧ p.2 < 64 then (prsOf (ps.map prT)).map ((p.1, p.2) :: ·) else none) = _
    rw [if_pos (h p List.mem_cons_self), prsOf_map ps fun q hq => h q (List.mem_cons_of_mem _ hq)]
    rfl
theorem fSetSort_l (fz : Bool) {ps : List (Int × Int)} {S : Sto} (h : ∀ p ∈ ps, 0 ≤ p.1 ∧ p.1 < 64 ∧ 0 ≤ p.2 ∧ p.2 < 64) (hl : ps.length < 64) : fSetSort fz (.list (ps.map prT)) S = mkP fz ((sortP ps).map prT) S := by
  unfold fSetSort
  simp only [prsOf_map ps h]
  rw [if_pos hl]
theorem eReprV_ev (a : E) {env : Env} {S : Sto} : eReprV a env S = bndR (a env S) fReprV := (rfl)
theorem fReprV_ok {x : D} {xs : List PyData} {S : Sto} (h : viewD S 8 x = some (.list xs)) (hr : reprOk (.list xs) = true) (hs : SeqAt.shaped (.list xs) = true) : fReprV x S = .ok (.p (.str (PyData.list xs).shown)) S := by
  unfold fReprV
  rw [h]
  simp only [hr, hs, Bool.and_self, if_true]
end DL

namespace DL
open PySem
/-! ## plain facts that many laws use -/
theorem cutL_map {α β : Type} (f : α → β) (xs : List α) (lo hi : Option Int) : cutL (xs.map f) lo hi = (cutL xs lo hi).map f := by
  unfold cutL
  rw [List.length_map, List.map_take, List.map_drop]
theorem atL_map {α β : Type} (f : α → β) (xs : List α) (i : Int) : atL (xs.map f) i = (atL xs i).map f := by
  unfold atL
  rw [List.length_map]
  cases ixI xs.length i with
  | none => rfl
  | some j => simp
theorem atL_nat {α : Type} (xs : List α) (i : Nat) (h : i < xs.length) : atL xs (i : Int) = xs[i]? := by
  unfold atL ixI
  rw [if_pos (by omega), if_pos (by omega)]
  rfl
theorem atL_in {α : Type} (xs : List α) (i : Int) (h0 : 0 ≤ i) (h : i < xs.length) : atL xs i = some (xs[i.toNat]'(by omega)) := by
  unfold atL ixI
  rw [if_pos h0, if_pos h]
  exact List.getElem?_eq_getElem _
theorem atL_last {α : Type} (xs : List α) (x : α) : atL (xs ++ [x]) (-1) = some x := by
  unfold atL ixI
  rw [if_neg (by omega), if_pos (by simp; omega)]
  have e : (-1 + ((xs ++ [x]).length : Int)).toNat = xs.length := by
    rw [List.length_append, List.length_singleton]
    omega
  show (xs ++ [x])[(-1 + ((xs ++ [x]).length : Int)).toNat]? = some x
  rw [e]
  simp
theorem cutL_drop {α : Type} (xs : List α) (i : Int) (h0 : 0 ≤ i) : cutL xs (some i) none = xs.drop i.toNat := by
  unfold cutL cutI
  dsimp only
  rw [if_neg (by omega)]
  by_cases h : i.toNat ≤ xs.length
  · rw [Nat.min_eq_left h]
    exact List.take_of_length_le (by simp)
  · rw [Nat.min_eq_right (by omega), List.drop_eq_nil_of_le (Nat.le_refl _), List.drop_eq_nil_of_le (by omega)]
    simp
theorem cutL_take {α : Type} (xs : List α) (i : Int) (h0 : 0 ≤ i) : cutL xs none (some i) = xs.take i.toNat := by
  unfold cutL cutI
  dsimp only
  rw [if_neg (by omega), List.drop_zero, Nat.sub_zero]
  by_cases h : i.toNat ≤ xs.length
  · rw [Nat.min_eq_left h]
  · rw [Nat.min_eq_right (by omega), List.take_of_length_le (Nat.le_refl _), List.take_of_length_le (by omega)]
theorem mulOk_r {i j : Int} (h : j.natAbs < 2) : mulOk i j = true := by
  unfold mulOk
  simp [h]
theorem log_lt {i : Int} {k : Nat} (h : i.natAbs < 2 ^ k) (hk : 0 < k) : i.natAbs.log2 < k := by
  by_cases hz : i.natAbs = 0
  · rw [hz]; simpa using hk
  · exact (Nat.log2_lt hz).mpr h
theorem mulOk_s {i j : Int} (hi : i.natAbs < 2 ^ 100) (hj : j.natAbs < 2 ^ 100) : mulOk i j = true := by
  have h1 := log_lt hi (by decide)
  have h2 := log_lt hj (by decide)
  unfold mulOk
  simp only [Bool.or_eq_true, decide_eq_true_eq]
  omega
/-! what may be shown -/
def Pl (d w : Nat) (x : PyData) : Prop := plainP x = true ∧ x.depth ≤ d ∧ x.weight ≤ w
def Pls (d w : Nat) (xs : List PyData) : Prop := plainPs xs = true ∧ PyData.depthAll xs ≤ d ∧ PyData.weightAll xs ≤ w
theorem Pl.mono {d d' w w' : Nat} {x : PyData} (h : Pl d w x) (hd : d ≤ d') (hw : w ≤ w') : Pl d' w' x := ⟨h.1, Nat.le_trans h.2.1 hd, Nat.le_trans h.2.2 hw⟩
mutual
theorem plainQ_of : ∀ x : PyData, plainP x = true → plainQ x = true
  | .none, _ => by simp only [plainQ]
  | .bool _, _ => by simp only [plainQ]
  | .int _, h => by simpa only [plainP, plainQ] using h
  | .str _, h => by simpa only [plainP, plainQ] using h
  | .list xs, h => by simp only [plainQ]; exact plainQs_of xs (by simpa only [plainP] using h)
  | .tuple xs, h => by simp only [plainQ]; exact plainQs_of xs (by simpa only [plainP] using h)
  | .dict _, h => by simp only [plainP] at h; cases h
theorem plainQs_of : ∀ xs : List PyData, plainPs xs = true → plainQs xs = true
  | [], _ => by simp only [plainQs]
  | x :: xs, h => by
    simp only [plainPs, Bool.and_eq_true] at h
    simp only [plainQs, plainQ_of x h.1, plainQs_of xs h.2, Bool.and_self]
end
theorem Pl.repr {x : PyData} (h : Pl 40 75000 x) : reprOk x = true := by
  unfold reprOk
  rw [plainQ_of x h.1]
  simp [h.2.1, h.2.2]
theorem pl_int {i : Int} {k : Nat} (h : i.natAbs < 2 ^ k) (hk : k ≤ 199) (h0 : 0 < k) (d : Nat) : Pl d k (.int i) := by
  have hl := log_lt h h0
  refine ⟨?_, ?_, ?_⟩
  · show decide (i.natAbs.log2 < 200) = true
    exact decide_eq_true (by omega)
  · show 0 ≤ d
    omega
  · show (if i == 0 then 0 else i.natAbs.log2 + 1) ≤ k
    split <;> omega
theorem pl_none (d w : Nat) : Pl d w .none := ⟨rfl, Nat.zero_le _, Nat.zero_le _⟩
theorem pl_bool (d w : Nat) (b : Bool) : Pl d w (.bool b) := ⟨rfl, Nat.zero_le _, Nat.zero_le _⟩
theorem pls_nil (d w : Nat) : Pls d w [] := ⟨rfl, Nat.zero_le _, Nat.zero_le _⟩
theorem pls_cons {d w w' : Nat} {x : PyData} {xs : List PyData} (h : Pl d w x) (t : Pls d w' xs) : Pls d (w + 1 + w') (x :: xs) :=
  ⟨by show (plainP x && plainPs xs) = true; rw [h.1, t.1]; rfl, Nat.max_le.mpr ⟨h.2.1, t.2.1⟩, Nat.add_le_add (Nat.add_le_add h.2.2 (Nat.le_refl _)) t.2.2⟩
theorem pls_all {d w : Nat} : ∀ {xs : List PyData}, (∀ x ∈ xs, Pl d w x) → Pls d (xs.length * (w + 1)) xs
  | [], _ => pls_nil _ _
  | x :: xs, h => by
    have t := pls_cons (h x List.mem_cons_self) (pls_all fun y hy => h y (List.mem_cons_of_mem _ hy))
    refine ⟨t.1, t.2.1, Nat.le_trans t.2.2 ?_⟩
    rw [List.length_cons, Nat.succ_mul]
    omega
theorem Pls.mono {d d' w w' : Nat} {x : List PyData} (h : Pls d w x) (hd : d ≤ d') (hw : w ≤ w') : Pls d' w' x := ⟨h.1, Nat.le_trans h.2.1 hd, Nat.le_trans h.2.2 hw⟩
theorem pl_tup {d w : Nat} {xs : List PyData} (h : Pls d w xs) : Pl (d + 1) w (.tuple xs) := ⟨h.1, Nat.succ_le_succ h.2.1, h.2.2⟩
theorem pl_lst {d w : Nat} {xs : List PyData} (h : Pls d w xs) : Pl (d + 1) w (.list xs) := ⟨h.1, Nat.succ_le_succ h.2.1, h.2.2⟩
/-- a list of ints below 2^k -/
theorem pls_ints {k : Nat} (hk : k ≤ 199) (h0 : 0 < k) {ns : List Int} (h : ∀ n ∈ ns, n.natAbs < 2 ^ k) (d : Nat) : Pls d (ns.length * (k + 1)) (ns.map .int) := by
  have := pls_all (d := d) (w := k) (xs := ns.map .int) fun x hx => by
    obtain ⟨n, hn, rfl⟩ := List.mem_map.mp hx
    exact pl_int (h n hn) hk h0 d
  rw [List.length_map] at this
  exact this
theorem Pl.shaped {d w : Nat} {x : PyData} (h : Pl d w x) (hd : d ≤ 64) : SeqAt.shaped x = true := shaped_of h.1 (Nat.le_trans h.2.1 hd)
theorem Pl.cmp {d w d' w' : Nat} {x y : PyData} (h : Pl d w x) (hd : d ≤ 64) (h' : Pl d' w' y) (hd' : d' ≤ 64) : cmpOk x y = true := by
  unfold cmpOk
  rw [h.shaped hd, h'.shaped hd']
  simp
theorem fEq_ok {x y : PyData} {S : Sto} (h : cmpOk x y = true) : fEq x y S = .ok (.p (.bool (PyData.eqv x y))) S := by unfold fEq; rw [if_pos h]; rfl
theorem fNe_ok {x y : PyData} {S : Sto} (h : cmpOk x y = true) : fNe x y S = .ok (.p (.bool (!PyData.eqv x y))) S := by unfold fNe; rw [if_pos h]; rfl
theorem eqv_tn (x : PyData) (xs : List PyData) : PyData.eqv (.tuple (x :: xs)) (.tuple []) = false := rfl
theorem enumP_get : ∀ (ds : List D) (k i : Nat), (enumD k ds)[i]? = ds[i]?.map fun d => mkTup [.p (.int ((k + i : Nat) : Int)), d]
  | [], _, _ => by simp [enumD]
  | d :: ds, k, 0 => by simp [enumD]
  | d :: ds, k, i + 1 => by
    show (enumD (k + 1) ds)[i]? = ds[i]?.map _
    rw [enumP_get ds (k + 1) i, show k + 1 + i = k + (i + 1) by omega]
theorem enumP_len : ∀ (ds : List D) (k : Nat), (enumD k ds).length = ds.length
  | [], _ => rfl
  | _ :: ds, k => congrArg (· + 1) (enumP_len ds (k + 1))
theorem mkTup2 (x y : PyData) : mkTup [.p x, .p y] = .p (.tuple [x, y]) := rfl
/-- a comprehension over a list that stays -/
theorem lcR_map {g : G} {t : T} {e : E} {env : Env} {S : Sto} {n : Nat} {α : Type} {f : α → D} {h : α → Option D} {xs : List α} (hS : S[n]? = some (.lst (xs.map f))) (step : ∀ x ∈ xs, lcT g t e env (f x) S = .ok (h x) S) : ∀ (k i : Nat), xs.length - i < k → lcR g t e env n k i S = .ok ((xs.drop i).filterMap h) S := by
  intro k
  induction k with
  | zero => intro i hk; omega
  | succ k ih =>
    intro i hk
    rw [lcR_succ, hS]
    by_cases hi : i < xs.length
    · have q : (xs.map f)[i]? = some (f xs[i]) := by rw [List.getElem?_map, List.getElem?_eq_getElem hi]; rfl
      simp only [q]
      rw [step _ (List.getElem_mem hi)]
      show bndR (lcR g t e env n k (i + 1) S) _ = _
      rw [ih (i + 1) (by omega)]
      show R.ok ((h xs[i]).toList ++ (xs.drop (i + 1)).filterMap h) S = R.ok ((xs.drop i).filterMap h) S
      have e2 : xs.drop i = xs[i] :: xs.drop (i + 1) := List.drop_eq_getElem_cons hi
      rw [e2, List.filterMap_cons]
      cases q2 : h xs[i] <;> rfl
    · have q : (xs.map f)[i]? = none := by rw [List.getElem?_map, List.getElem?_eq_none (by omega)]; rfl
      simp only [q]
      rw [List.drop_eq_nil_of_le (by omega)]
      rfl
theorem filterMap_ite {α β : Type} (p : α → Prop) [DecidablePred p] (g : α → β) (xs : List α) : xs.filterMap (fun x => if p x then some (g x) else none) = (xs.filter fun x => decide (p x)).map g := by
  induction xs with
  | nil => rfl
  | cons x xs ih =>
    by_cases h : p x
    · simp [List.filterMap_cons, List.filter_cons, h, ih]
    · simp [List.filterMap_cons, List.filter_cons, h, ih]
end DL

namespace DL
open PySem
theorem eqv_ii (a b : Int) : PyData.eqv (.int a) (.int b) = decide (a = b) := by
  have : fEq (.int a) (.int b) [] = .ok (.p (.bool (PyData.eqv (.int a) (.int b)))) [] := rfl
  rw [fEq_i] at this
  injection this with h _
  injection h with h
  injection h with h
theorem set_last {α : Type} (xs : List α) (a b : α) : (xs ++ [a]).set xs.length b = xs ++ [b] := by simp
theorem atL_zero {α : Type} (x : α) (xs : List α) : atL (x :: xs) 0 = some x := by
  unfold atL ixI
  rw [if_pos (Int.le_refl 0), if_pos (by rw [List.length_cons]; omega)]
  rfl
theorem see_r (n : Nat) (S : Sto) : see (.ref n) S = (match view S (.ref n) with | some x => .ok x S | none => .no) := see_ev _
theorem mulOk_b {i j : Int} (hi : i.natAbs < 2 ^ 300) (hj : j.natAbs < 2 ^ 300) : mulOk i j = true := by
  have h1 := log_lt hi (by decide)
  have h2 := log_lt hj (by decide)
  unfold mulOk
  simp only [Bool.or_eq_true, decide_eq_true_eq]
  omega
theorem eqv_tt (xs ys : List PyData) : PyData.eqv (.tuple xs) (.tuple ys) = PyData.eqvAll xs ys := rfl
theorem eqv_ll (xs ys : List PyData) : PyData.eqv (.list xs) (.list ys) = PyData.eqvAll xs ys := rfl
theorem eqvAll_nil : PyData.eqvAll [] [] = true := rfl
theorem eqvAll_nc (x : PyData) (xs : List PyData) : PyData.eqvAll [] (x :: xs) = false := rfl
theorem eqvAll_cn (x : PyData) (xs : List PyData) : PyData.eqvAll (x :: xs) [] = false := rfl
theorem eqvAll_cc (x y : PyData) (xs ys : List PyData) : PyData.eqvAll (x :: xs) (y :: ys) = (PyData.eqv x y && PyData.eqvAll xs ys) := rfl
theorem eqvAll_ints : ∀ xs ys : List Int, PyData.eqvAll (xs.map .int) (ys.map .int) = decide (xs = ys)
  | [], [] => by simp [eqvAll_nil]
  | [], y :: ys => by simp [eqvAll_nc]
  | x :: xs, [] => by simp [eqvAll_cn]
  | x :: xs, y :: ys => by
    rw [List.map_cons, List.map_cons, eqvAll_cc, eqvAll_ints xs ys, eqv_ii]
    by_cases h : x = y <;> simp [h]
theorem flat_ints (xs : List Int) : (xs.map PyData.int).all flatP = true := by
  rw [List.all_map]; simp [flatP]
theorem any_ints (x : Int) (xs : List Int) : ((xs.map PyData.int).any fun z => PyData.eqv z (.int x)) = decide (x ∈ xs) := by
  induction xs with
  | nil => simp
  | cons y ys ih =>
    rw [List.map_cons, List.any_cons, ih, eqv_ii]
    by_cases h : y = x
    · simp [h]
    · have : ¬ x = y := fun e => h e.symm
      simp [h, this]
theorem fIn_ints (neg : Bool) (x : Int) (xs : List Int) (S : Sto) : fInD neg (.p (.int x)) (.p (.list (xs.map .int))) S = .ok (.p (.bool (neg ^^ decide (x ∈ xs)))) S := by
  show (if memOk (.int x) (xs.map .int) then ret (.p (.bool (neg ^^ (xs.map PyData.int).any fun z => PyData.eqv z (.int x)))) else no : M D) S = _
  rw [any_ints, if_pos (by unfold memOk; rw [flat_ints]; rfl)]
  rfl
theorem fIn_intsT (neg : Bool) (x : Int) (xs : List Int) (S : Sto) : fInD neg (.p (.int x)) (.p (.tuple (xs.map .int))) S = .ok (.p (.bool (neg ^^ decide (x ∈ xs)))) S := by
  show (if flatP (.int x) && (xs.map PyData.int).all flatP then ret (.p (.bool (neg ^^ (xs.map PyData.int).any fun z => PyData.eqv z (.int x)))) else no : M D) S = _
  rw [any_ints, if_pos (by rw [flat_ints]; rfl)]
  rfl
theorem mkTup_ints (xs : List Int) : mkTup (xs.map fun x => D.p (.int x)) = .p (.tuple (xs.map .int)) := by
  have := mkTup_p (xs.map PyData.int)
  rw [List.map_map] at this
  exact this
/-- a loop that returns at the first place where p holds -/
theorem for_find {g : G} {b : B} {I : Nat → Env → Sto → Prop} {p : Nat → Bool} {r : Nat → D} (xs : List D) {env : Env} {S : Sto} (h0 : I 0 env S)
    (step : ∀ i x env S, xs[i]? = some x → I i env S → (p i = true ∧ ∃ S', bndR (hushR (g x env S)) (fun env1 => b env1) = .ok (.rt (r i)) S') ∨ (p i = false ∧ ∃ env' S', bndR (hushR (g x env S)) (fun env1 => b env1) = .ok (.nx env') S' ∧ I (i + 1) env' S')) :
    (∃ i S', (List.range xs.length).find? p = some i ∧ forL g b xs env S = .ok (.rt (r i)) S') ∨ ((List.range xs.length).find? p = none ∧ ∃ env' S', forL g b xs env S = .ok (.nx env') S' ∧ I xs.length env' S') := by
  have key : ∀ (n i : Nat) (env : Env) (S : Sto), i + n = xs.length → I i env S → (∃ j S', (List.range' i n).find? p = some j ∧ forL g b (xs.drop i) env S = .ok (.rt (r j)) S') ∨ ((List.range' i n).find? p = none ∧ ∃ env' S', forL g b (xs.drop i) env S = .ok (.nx env') S' ∧ I xs.length env' S') := by
    intro n
    induction n with
    | zero =>
      intro i env S hi h
      rw [Nat.add_zero] at hi
      subst hi
      rw [List.drop_eq_nil_of_le (Nat.le_refl _)]
      exact .inr ⟨rfl, env, S, rfl, h⟩
    | succ n ih =>
      intro i env S hi h
      have lt : i < xs.length := by omega
      rw [List.drop_eq_getElem_cons lt, forL_cons, List.range'_succ, List.find?_cons]
      rcases step i xs[i] env S (List.getElem?_eq_getElem lt) h with ⟨e, S', q⟩ | ⟨e, env', S', q, h'⟩
      · refine .inl ⟨i, S', by rw [e], ?_⟩
        cases q2 : g xs[i] env S with
        | ok env1 S1 => rw [q2] at q; replace q : b env1 S1 = .ok (.rt (r i)) S' := q; show bndR (b env1 S1) _ = _; rw [q]; rfl
        | ex x S1 => rw [q2] at q; cases q
        | no => rw [q2] at q; cases q
      · rw [e]
        have := ih (i + 1) env' S' (by omega) h'
        have e2 : ∀ z, forL g b (xs.drop (i + 1)) env' S' = z → (bndR (hushR (g xs[i] env S)) fun env1 => bnd (b env1) (kFor g b (xs.drop (i + 1)))) = z := by
          intro z hz
          cases q2 : g xs[i] env S with
          | ok env1 S1 => rw [q2] at q; replace q : b env1 S1 = .ok (.nx env') S' := q; show bndR (b env1 S1) _ = _; rw [q]; exact hz
          | ex x S1 => rw [q2] at q; cases q
          | no => rw [q2] at q; cases q
        rcases this with ⟨j, T, f, hz⟩ | ⟨f, env2, T, hz, k⟩
        · exact .inl ⟨j, T, f, e2 _ hz⟩
        · exact .inr ⟨f, env2, T, e2 _ hz, k⟩
  have := key xs.length 0 env S (by omega) h0
  rw [List.drop_zero, ← List.range_eq_range'] at this
  exact this
end DL

namespace Pk55
open PySem DL
def b1__law_eyes : B := (sSet 6 (e2 fSub (eVar 6) (e1 fLen (eVar 1))))
theorem b1__law_eyes_ev (env : DL.Env) (S : Sto) : b1__law_eyes env S = (sSet 6 (e2 fSub (eVar 6) (e1 fLen (eVar 1)))) env S := rfl
def t2__law_eyes : T := (tVal (e2 fEq (eIx (eVar 8) (eC (.int 1))) (eIx (eVar 1) (eVar 6))))
theorem t2__law_eyes_ev (env : DL.Env) (S : Sto) : t2__law_eyes env S = (tVal (e2 fEq (eIx (eVar 8) (eC (.int 1))) (eIx (eVar 1) (eVar 6)))) env S := rfl
def b3__law_eyes : B := (sCons (sSet 6 (e2 (fAdd true) (eVar 2) (eVar 4)))
    (sCons (sWhile 200 (tVal (e2 (fCmp fun i j => decide (j ≤ i)) (eVar 6) (e1 fLen (eVar 1)))) b1__law_eyes)
    (sCons (sSet 7 (eLcR true [8] (eVar 3) (gName 8) t2__law_eyes (eVar 8)))
    (sExpr (eM1 fApp (eVar 3) (eTupN 3 (aCons (eVar 5) (aCons (eIx (eVar 1) (eVar 6)) (aCons (e1 fLen (eVar 7)) aNil)))))))))
theorem b3__law_eyes_ev (env : DL.Env) (S : Sto) : b3__law_eyes env S = (sCons (sSet 6 (e2 (fAdd true) (eVar 2) (eVar 4)))
    (sCons (sWhile 200 (tVal (e2 (fCmp fun i j => decide (j ≤ i)) (eVar 6) (e1 fLen (eVar 1)))) b1__law_eyes)
    (sCons (sSet 7 (eLcR true [8] (eVar 3) (gName 8) t2__law_eyes (eVar 8)))
    (sExpr (eM1 fApp (eVar 3) (eTupN 3 (aCons (eVar 5) (aCons (eIx (eVar 1) (eVar 6)) (aCons (e1 fLen (eVar 7)) aNil))))))))) env S := rfl
def r__law_eyes : List D → M D := body 3 9 (sCons (sSet 3 (eLstN false 0 aNil))
    (sCons (sFor (iEnumD (eVar 0)) (gTup [(gName 4), (gName 5)]) b3__law_eyes)
    (sRet (eTuple (eVar 3)))))
def b1__law_cell : B := (sSet 4 (e2 fDiv (eVar 4) (eC (.int 306783379))))
theorem b1__law_cell_ev (env : DL.Env) (S : Sto) : b1__law_cell env S = (sSet 4 (e2 fDiv (eVar 4) (eC (.int 306783379)))) env S := rfl
def r__law_cell : List D → M D := body 2 6 (sCons (sAsg (DL.gSub (eVar 1) (eC (.int 0))) (e2 (fAdd true) (eIx (eVar 1) (eC (.int 0))) (eC (.int 1))))
    (sCons (sSet 2 (eIx (eVar 1) (eC (.int 0))))
    (sCons (sSet 3 (e2 (fAdd true) (e2 (fMul true) (e2 (fMul true) (eC (.int 31)) (eVar 2)) (eVar 2)) (e2 (fMul true) (eC (.int 7919)) (eVar 2))))
    (sCons (sIf (tAnd (tVal (e2 (fCmp fun i j => decide (j < i)) (e1 fLen (eVar 0)) (eC (.int 0)))) (tAnd (tVal (e2 (fCmp fun i j => decide (j ≤ i)) (eIx (eVar 0) (e2 fMod (eVar 2) (e1 fLen (eVar 0)))) (e2 fPow (eC (.int 10)) (eC (.int 18))))) (tVal (e2 (fCmp fun i j => decide (i < j)) (e2 fDiv (eVar 2) (e1 fLen (eVar 0))) (eC (.int 60)))))) (sCons (sSet 4 (eIx (eVar 0) (e2 fMod (eVar 2) (e1 fLen (eVar 0)))))
    (sCons (sFor (iRange (e2 fDiv (eVar 2) (e1 fLen (eVar 0)))) (gName 5) b1__law_cell)
    (sIf (tVal (e2 (fCmp fun i j => decide (j < i)) (eVar 4) (eC (.int 0)))) (sRet (e2 fMod (eVar 4) (eC (.int 306783379)))) sNil))) sNil)
    (sCons (sIf (tVal (e2 (fCmp fun i j => decide (j < i)) (e1 fLen (eVar 0)) (eC (.int 0)))) (sSet 3 (e2 (fAdd true) (eVar 3) (e2 (fMul true) (e2 fMod (eIx (eVar 0) (e2 fMod (eVar 2) (e1 fLen (eVar 0)))) (eC (.int 2147483629))) (e2 (fAdd true) (eC (.int 1)) (e2 fDiv (eVar 2) (e1 fLen (eVar 0))))))) sNil)
    (sRet (e2 fDiv (e2 fMod (e2 fPow (e2 fMod (eVar 3) (eC (.int 2147483647))) (eC (.int 5))) (eC (.int 2147483647))) (eC (.int 7)))))))))
def c1__law_order : E := (e2 fMod (e2 (fAdd true) (eVar 3) (e2 (fMul true) (eVar 4) (eVar 5))) (eC (.int 100)))
theorem c1__law_order_ev (env : DL.Env) (S : Sto) : c1__law_order env S = (e2 fMod (e2 (fAdd true) (eVar 3) (e2 (fMul true) (eVar 4) (eVar 5))) (eC (.int 100))) env S := rfl
def r__law_order : List D → M D := body 3 6 (sCons (sSet 3 (eCallL r__law_cell (aCons (eVar 0) (aCons (eVar 1) aNil))))
    (sCons (sSet 4 (eIx (eLstN true 18 (aCons (eC (.int 3)) (aCons (eC (.int 7)) (aCons (eC (.int 9)) (aCons (eC (.int 11)) (aCons (eC (.int 13)) (aCons (eC (.int 17)) (aCons (eC (.int 19)) (aCons (eC (.int 21)) (aCons (eC (.int 23)) (aCons (eC (.int 27)) (aCons (eC (.int 29)) (aCons (eC (.int 31)) (aCons (eC (.int 33)) (aCons (eC (.int 37)) (aCons (eC (.int 39)) (aCons (eC (.int 41)) (aCons (eC (.int 99)) (aCons (eC (.int 1)) aNil))))))))))))))))))) (e2 fMod (e2 fDiv (eVar 3) (eC (.int 100))) (eC (.int 18)))))
    (sRet (eTuple (eLc true [5] (iRange (eVar 2)) (gName 5) tYes c1__law_order)))))
def b1__law_draft : B := (sCons (sSet 8 (e2 fMod (e2 (fAdd true) (e2 fDiv (eVar 3) (e2 (fAdd true) (eVar 7) (eC (.int 1)))) (e2 (fMul true) (eVar 7) (e2 fMod (e2 fDiv (eVar 2) (eC (.int 4096))) (eC (.int 8))))) (eC (.int 8))))
    (sExpr (eM1 fApp (eVar 6) (eIx (eLstN true 4 (aCons (eVar 8) (aCons (eVar 8) (aCons (eIx (eVar 5) (e2 fDiv (eVar 8) (eC (.int 2)))) (aCons (e2 fMod (eVar 7) (eC (.int 8))) aNil))))) (e2 fMod (e2 fDiv (eVar 2) (eC (.int 32768))) (eC (.int 4)))))))
theorem b1__law_draft_ev (env : DL.Env) (S : Sto) : b1__law_draft env S = (sCons (sSet 8 (e2 fMod (e2 (fAdd true) (e2 fDiv (eVar 3) (e2 (fAdd true) (eVar 7) (eC (.int 1)))) (e2 (fMul true) (eVar 7) (e2 fMod (e2 fDiv (eVar 2) (eC (.int 4096))) (eC (.int 8))))) (eC (.int 8))))
    (sExpr (eM1 fApp (eVar 6) (eIx (eLstN true 4 (aCons (eVar 8) (aCons (eVar 8) (aCons (eIx (eVar 5) (e2 fDiv (eVar 8) (eC (.int 2)))) (aCons (e2 fMod (eVar 7) (eC (.int 8))) aNil))))) (e2 fMod (e2 fDiv (eVar 2) (eC (.int 32768))) (eC (.int 4))))))) env S := rfl
def r__law_draft : List D → M D := body 2 9 (sCons (sPar2 2 3 (aCons (eCallL r__law_cell (aCons (eVar 0) (aCons (eVar 1) aNil))) (aCons (eCallL r__law_cell (aCons (eVar 0) (aCons (eVar 1) aNil))) aNil)))
    (sCons (sSet 4 (eIx (eLstN true 4 (aCons (e2 (fAdd true) (eC (.int 1)) (e2 fMod (e2 fDiv (eVar 2) (eC (.int 4))) (eC (.int 16)))) (aCons (eC (.int 16)) (aCons (eC (.int 1)) (aCons (e2 (fAdd true) (eC (.int 2)) (e2 fMod (e2 fDiv (eVar 2) (eC (.int 4))) (eC (.int 7)))) aNil))))) (e2 fMod (eVar 2) (eC (.int 4)))))
    (sCons (sSet 5 (eLstN true 4 (aCons (eC (.int 0)) (aCons (eC (.int 7)) (aCons (e2 fMod (e2 fDiv (eVar 2) (eC (.int 64))) (eC (.int 8))) (aCons (e2 fMod (e2 fDiv (eVar 2) (eC (.int 512))) (eC (.int 8))) aNil))))))
    (sCons (sSet 6 (eLstN false 0 aNil))
    (sCons (sFor (iRange (eVar 4)) (gName 7) b1__law_draft)
    (sRet (eTuple (eVar 6))))))))
def b1__law_other : B := (sCons (sSet 5 (eCallL r__law_cell (aCons (eVar 0) (aCons (eVar 1) aNil))))
    (sCons (sSet 6 (e2 fMod (e2 fDiv (eVar 5) (eC (.int 5))) (e2 fMax2 (eC (.int 1)) (e1 fLen (eVar 3)))))
    (sIf (tAnd (tVal (e2 fNe (eVar 3) (eLstN true 0 aNil))) (tVal (e2 (fCmp fun i j => decide (i < j)) (e2 fMod (eVar 5) (eC (.int 5))) (eC (.int 2))))) (sAsg (DL.gSub (eVar 3) (eVar 6)) (e2 (fAdd true) (eCut true (eIx (eVar 3) (eVar 6)) oNone (oSome (eC (.int 1)))) (eTupN 2 (aCons (e2 fMod (e2 fDiv (eVar 5) (eC (.int 300))) (eC (.int 8))) (aCons (e2 fMod (e2 fDiv (eVar 5) (eC (.int 2400))) (eC (.int 60))) aNil))))) (sIf (tAnd (tVal (e2 fNe (eVar 3) (eLstN true 0 aNil))) (tVal (e2 fEq (e2 fMod (eVar 5) (eC (.int 5))) (eC (.int 2))))) (sAsg (DL.gSub (eVar 3) (eVar 6)) (e2 (fAdd true) (eCut true (eIx (eVar 3) (eVar 6)) oNone (oSome (eC (.int 2)))) (eTupN 1 (aCons (e2 fMin2 (eC (.int 59)) (e2 (fAdd true) (e2 (fAdd true) (eIx (eIx (eVar 3) (eVar 6)) (eC (.int 2))) (eC (.int 1))) (e2 fMod (e2 fDiv (eVar 5) (eC (.int 300))) (eC (.int 3))))) aNil)))) (sIf (tAnd (tVal (e2 fNe (eVar 3) (eLstN true 0 aNil))) (tVal (e2 fEq (e2 fMod (eVar 5) (eC (.int 5))) (eC (.int 3))))) (sExpr (eM1 fPopAt (eVar 3) (eVar 6))) (sSet 3 (eStep false (eVar 3) oNone oNone (oSome (e1 fNeg (eC (.int 1)))))))))))
theorem b1__law_other_ev (env : DL.Env) (S : Sto) : b1__law_other env S = (sCons (sSet 5 (eCallL r__law_cell (aCons (eVar 0) (aCons (eVar 1) aNil))))
    (sCons (sSet 6 (e2 fMod (e2 fDiv (eVar 5) (eC (.int 5))) (e2 fMax2 (eC (.int 1)) (e1 fLen (eVar 3)))))
    (sIf (tAnd (tVal (e2 fNe (eVar 3) (eLstN true 0 aNil))) (tVal (e2 (fCmp fun i j => decide (i < j)) (e2 fMod (eVar 5) (eC (.int 5))) (eC (.int 2))))) (sAsg (DL.gSub (eVar 3) (eVar 6)) (e2 (fAdd true) (eCut true (eIx (eVar 3) (eVar 6)) oNone (oSome (eC (.int 1)))) (eTupN 2 (aCons (e2 fMod (e2 fDiv (eVar 5) (eC (.int 300))) (eC (.int 8))) (aCons (e2 fMod (e2 fDiv (eVar 5) (eC (.int 2400))) (eC (.int 60))) aNil))))) (sIf (tAnd (tVal (e2 fNe (eVar 3) (eLstN true 0 aNil))) (tVal (e2 fEq (e2 fMod (eVar 5) (eC (.int 5))) (eC (.int 2))))) (sAsg (DL.gSub (eVar 3) (eVar 6)) (e2 (fAdd true) (eCut true (eIx (eVar 3) (eVar 6)) oNone (oSome (eC (.int 2)))) (eTupN 1 (aCons (e2 fMin2 (eC (.int 59)) (e2 (fAdd true) (e2 (fAdd true) (eIx (eIx (eVar 3) (eVar 6)) (eC (.int 2))) (eC (.int 1))) (e2 fMod (e2 fDiv (eVar 5) (eC (.int 300))) (eC (.int 3))))) aNil)))) (sIf (tAnd (tVal (e2 fNe (eVar 3) (eLstN true 0 aNil))) (tVal (e2 fEq (e2 fMod (eVar 5) (eC (.int 5))) (eC (.int 3))))) (sExpr (eM1 fPopAt (eVar 3) (eVar 6))) (sSet 3 (eStep false (eVar 3) oNone oNone (oSome (e1 fNeg (eC (.int 1))))))))))) env S := rfl
def r__law_other : List D → M D := body 3 7 (sCons (sSet 3 (eList false (eVar 2)))
    (sCons (sFor (iRange (e2 fMod (eCallL r__law_cell (aCons (eVar 0) (aCons (eVar 1) aNil))) (eC (.int 4)))) (gName 4) b1__law_other)
    (sRet (eTuple (eVar 3)))))
def b1__law_drawn : B := (sCons (sSet 6 (eCallL r__law_cell (aCons (eVar 0) (aCons (eVar 1) aNil))))
    (sCons (sSet 7 (eIx (eLstN true 4 (aCons (e2 fMod (eVar 6) (eC (.int 8))) (aCons (e2 fMod (e2 fDiv (eVar 3) (eC (.int 9))) (eC (.int 8))) (aCons (e2 (fMul true) (e2 fMod (eVar 6) (eC (.int 2))) (eC (.int 7))) (aCons (e2 fMod (eVar 6) (eC (.int 3))) aNil))))) (e2 fMod (eVar 3) (eC (.int 4)))))
    (sExpr (eM1 fApp (eVar 4) (eTupN 3 (aCons (eVar 5) (aCons (eVar 7) (aCons (eIx (eLstN true 4 (aCons (e2 fMod (e2 fDiv (eVar 6) (eC (.int 8))) (eC (.int 60))) (aCons (e2 fMod (e2 fDiv (eVar 6) (eC (.int 8))) (eC (.int 6))) (aCons (e2 (fMul true) (e2 fMod (e2 fDiv (eVar 6) (eC (.int 8))) (eC (.int 3))) (eC (.int 29))) (aCons (e2 fSub (eC (.int 59)) (e2 fMod (e2 fDiv (eVar 6) (eC (.int 8))) (eC (.int 4)))) aNil))))) (e2 fMod (e2 fDiv (eVar 3) (eC (.int 4))) (eC (.int 4)))) aNil))))))))
theorem b1__law_drawn_ev (env : DL.Env) (S : Sto) : b1__law_drawn env S = (sCons (sSet 6 (eCallL r__law_cell (aCons (eVar 0) (aCons (eVar 1) aNil))))
    (sCons (sSet 7 (eIx (eLstN true 4 (aCons (e2 fMod (eVar 6) (eC (.int 8))) (aCons (e2 fMod (e2 fDiv (eVar 3) (eC (.int 9))) (eC (.int 8))) (aCons (e2 (fMul true) (e2 fMod (eVar 6) (eC (.int 2))) (eC (.int 7))) (aCons (e2 fMod (eVar 6) (eC (.int 3))) aNil))))) (e2 fMod (eVar 3) (eC (.int 4)))))
    (sExpr (eM1 fApp (eVar 4) (eTupN 3 (aCons (eVar 5) (aCons (eVar 7) (aCons (eIx (eLstN true 4 (aCons (e2 fMod (e2 fDiv (eVar 6) (eC (.int 8))) (eC (.int 60))) (aCons (e2 fMod (e2 fDiv (eVar 6) (eC (.int 8))) (eC (.int 6))) (aCons (e2 (fMul true) (e2 fMod (e2 fDiv (eVar 6) (eC (.int 8))) (eC (.int 3))) (eC (.int 29))) (aCons (e2 fSub (eC (.int 59)) (e2 fMod (e2 fDiv (eVar 6) (eC (.int 8))) (eC (.int 4)))) aNil))))) (e2 fMod (e2 fDiv (eVar 3) (eC (.int 4))) (eC (.int 4)))) aNil)))))))) env S := rfl
def r__law_drawn : List D → M D := body 3 8 (sCons (sSet 3 (eCallL r__law_cell (aCons (eVar 0) (aCons (eVar 1) aNil))))
    (sCons (sSet 4 (eLstN false 0 aNil))
    (sCons (sFor (iVal (eVar 2)) (gName 5) b1__law_drawn)
    (sRet (eTuple (eVar 4))))))
def r__law_many : List D → M D := body 2 3 (sCons (sSet 2 (eCallL r__law_cell (aCons (eVar 0) (aCons (eVar 1) aNil))))
    (sRet (eIx (eLstN true 6 (aCons (e2 fMod (e2 fDiv (eVar 2) (eC (.int 6))) (eC (.int 13))) (aCons (e2 fMod (e2 fDiv (eVar 2) (eC (.int 6))) (eC (.int 61))) (aCons (eC (.int 60)) (aCons (e2 fMod (e2 fDiv (eVar 2) (eC (.int 6))) (eC (.int 30))) (aCons (eC (.int 0)) (aCons (e2 (fAdd true) (eC (.int 1)) (e2 fMod (e2 fDiv (eVar 2) (eC (.int 6))) (eC (.int 5)))) aNil))))))) (e2 fMod (eVar 2) (eC (.int 6))))))
def c1__law_due : E := (eIx (eVar 5) (eC (.int 2)))
theorem c1__law_due_ev (env : DL.Env) (S : Sto) : c1__law_due env S = (eIx (eVar 5) (eC (.int 2))) env S := rfl
def t2__law_due : T := (tVal (e2 fEq (eIx (eVar 5) (eC (.int 1))) (eVar 3)))
theorem t2__law_due_ev (env : DL.Env) (S : Sto) : t2__law_due env S = (tVal (e2 fEq (eIx (eVar 5) (eC (.int 1))) (eVar 3))) env S := rfl
def c3__law_due : E := (eTupN 2 (aCons (eVar 3) (aCons (eVar 6) aNil)))
theorem c3__law_due_ev (env : DL.Env) (S : Sto) : c3__law_due env S = (eTupN 2 (aCons (eVar 3) (aCons (eVar 6) aNil))) env S := rfl
def t4__law_due : T := (tVal (e2 (fCmp fun i j => decide (j < i)) (eMq fCount (eVar 4) (eVar 6)) (eC (.int 1))))
theorem t4__law_due_ev (env : DL.Env) (S : Sto) : t4__law_due env S = (tVal (e2 (fCmp fun i j => decide (j < i)) (eMq fCount (eVar 4) (eVar 6)) (eC (.int 1)))) env S := rfl
def c5__law_due : E := (eTupN 2 (aCons (eVar 3) (aCons (eVar 6) aNil)))
theorem c5__law_due_ev (env : DL.Env) (S : Sto) : c5__law_due env S = (eTupN 2 (aCons (eVar 3) (aCons (eVar 6) aNil))) env S := rfl
def t6__law_due : T := (tVal (e2D (fInD true) (eVar 6) (eVar 4)))
theorem t6__law_due_ev (env : DL.Env) (S : Sto) : t6__law_due env S = (tVal (e2D (fInD true) (eVar 6) (eVar 4))) env S := rfl
def b7__law_due : B := (sCons (sSet 4 (eLc true [5] (iVal (eVar 0)) (gName 5) t2__law_due c1__law_due))
    (sCons (sSet 1 (e2 (fAdd true) (eVar 1) (eLc true [6] (iRange (eC (.int 60))) (gName 6) t4__law_due c3__law_due)))
    (sSet 2 (e2 (fAdd true) (eVar 2) (eLc true [6] (iRange (e1 fMaxL (e2 (fAdd true) (eLstN true 1 (aCons (eC (.int 0)) aNil)) (eVar 4)))) (gName 6) t6__law_due c5__law_due)))))
theorem b7__law_due_ev (env : DL.Env) (S : Sto) : b7__law_due env S = (sCons (sSet 4 (eLc true [5] (iVal (eVar 0)) (gName 5) t2__law_due c1__law_due))
    (sCons (sSet 1 (e2 (fAdd true) (eVar 1) (eLc true [6] (iRange (eC (.int 60))) (gName 6) t4__law_due c3__law_due)))
    (sSet 2 (e2 (fAdd true) (eVar 2) (eLc true [6] (iRange (e1 fMaxL (e2 (fAdd true) (eLstN true 1 (aCons (eC (.int 0)) aNil)) (eVar 4)))) (gName 6) t6__law_due c5__law_due))))) env S := rfl
def r__law_due : List D → M D := body 1 7 (sCons (sPar2 1 2 (aCons (eLstN true 0 aNil) (aCons (eLstN true 0 aNil) aNil)))
    (sCons (sFor (iRange (eC (.int 8))) (gName 3) b7__law_due)
    (sRet (eLstN true 2 (aCons (eVar 1) (aCons (eVar 2) aNil))))))
def r_is_among : List D → M D := body 3 3 (sRet (eAnd (eIsK .int (eVar 0)) (eAnd (eNot (eIsK .bool (eVar 0))) (eChain (fCmp fun i j => decide (i ≤ j)) (fCmp fun i j => decide (i ≤ j)) (eVar 1) (eVar 0) (eVar 2)))))
def r_is_thread : List D → M D := body 1 1 (sRet (eCall r_is_among (aCons (eVar 0) (aCons (eC (.int 0)) (aCons (eC (.int 99)) aNil)))))
def c1_is_order : E := (eCall r_is_thread (aCons (eVar 1) aNil))
theorem c1_is_order_ev (env : DL.Env) (S : Sto) : c1_is_order env S = (eCall r_is_thread (aCons (eVar 1) aNil)) env S := rfl
def r_is_order : List D → M D := body 1 2 (sCons (sIf (tOr (tNot (tVal (eIsK .tuple (eVar 0)))) (tOr (tVal (e2 (fCmp fun i j => decide (j < i)) (e1 fLen (eVar 0)) (eC (.int 60)))) (tNot (tVal (e1 fAll (eLc true [1] (iVal (eVar 0)) (gName 1) tYes c1_is_order)))))) (sRet (eC (.bool false))) sNil)
    (sRet (e2 fEq (e1 fLenSetA (eVar 0)) (e1 fLen (eVar 0)))))
def r_is_led : List D → M D := body 1 1 (sCons (sIf (tOr (tNot (tVal (eIsK .tuple (eVar 0)))) (tVal (e2 fNe (e1 fLen (eVar 0)) (eC (.int 3))))) (sRet (eC (.bool false))) sNil)
    (sRet (eAnd (eCall r_is_order (aCons (eCut true (eVar 0) oNone (oSome (eC (.int 1)))) aNil)) (eAnd (eCall r_is_among (aCons (eIx (eVar 0) (eC (.int 1))) (aCons (eC (.int 0)) (aCons (eC (.int 7)) aNil)))) (eCall r_is_among (aCons (eIx (eVar 0) (eC (.int 2))) (aCons (eC (.int 0)) (aCons (eC (.int 59)) aNil))))))))
def c1_is_threaded : E := (eCall r_is_led (aCons (eVar 1) aNil))
theorem c1_is_threaded_ev (env : DL.Env) (S : Sto) : c1_is_threaded env S = (eCall r_is_led (aCons (eVar 1) aNil)) env S := rfl
def c2_is_threaded : E := (eIx (eVar 1) (eC (.int 0)))
theorem c2_is_threaded_ev (env : DL.Env) (S : Sto) : c2_is_threaded env S = (eIx (eVar 1) (eC (.int 0))) env S := rfl
def r_is_threaded : List D → M D := body 1 2 (sCons (sIf (tOr (tNot (tVal (eIsK .tuple (eVar 0)))) (tOr (tVal (e2 (fCmp fun i j => decide (j < i)) (e1 fLen (eVar 0)) (eC (.int 60)))) (tNot (tVal (e1 fAll (eLc true [1] (iVal (eVar 0)) (gName 1) tYes c1_is_threaded)))))) (sRet (eC (.bool false))) sNil)
    (sRet (eCall r_is_order (aCons (eTuple (eLc true [1] (iVal (eVar 0)) (gName 1) tYes c2_is_threaded)) aNil))))
def r_need_threaded : List D → M D := body 1 1 (sIf (tNot (tVal (eCall r_is_threaded (aCons (eVar 0) aNil)))) (sRaise ⟨"BadThreaded", none⟩) sNil)
def c1_eyes_had : E := (eCut true (eVar 1) (oSome (eC (.int 1))) oNone)
theorem c1_eyes_had_ev (env : DL.Env) (S : Sto) : c1_eyes_had env S = (eCut true (eVar 1) (oSome (eC (.int 1))) oNone) env S := rfl
def r_eyes_had : List D → M D := body 1 2 (sRet (eFrz (eLc true [1] (iVal (eVar 0)) (gName 1) tYes c1_eyes_had)))
def t1_doubled : T := (tVal (e2 (fCmp fun i j => decide (j < i)) (eMq fCountD (eVar 1) (eVar 2)) (eC (.int 1))))
theorem t1_doubled_ev (env : DL.Env) (S : Sto) : t1_doubled env S = (tVal (e2 (fCmp fun i j => decide (j < i)) (eMq fCountD (eVar 1) (eVar 2)) (eC (.int 1)))) env S := rfl
def r_doubled : List D → M D := body 1 3 (sCons (sExpr (eCall r_need_threaded (aCons (eVar 0) aNil)))
    (sCons (sSet 1 (eCall r_eyes_had (aCons (eVar 0) aNil)))
    (sRet (e1 (fSetSort false) (eLc true [2] (iVal (eVar 1)) (gName 2) t1_doubled (eVar 2))))))
def t1_empty : T := (tVal (e2 fEq (eVar 5) (eVar 3)))
theorem t1_empty_ev (env : DL.Env) (S : Sto) : t1_empty env S = (tVal (e2 fEq (eVar 5) (eVar 3))) env S := rfl
def c2_empty : E := (eTupN 2 (aCons (eVar 3) (aCons (eVar 6) aNil)))
theorem c2_empty_ev (env : DL.Env) (S : Sto) : c2_empty env S = (eTupN 2 (aCons (eVar 3) (aCons (eVar 6) aNil))) env S := rfl
def t3_empty : T := (tVal (e2D (fInD true) (eTupN 2 (aCons (eVar 3) (aCons (eVar 6) aNil))) (eVar 1)))
theorem t3_empty_ev (env : DL.Env) (S : Sto) : t3_empty env S = (tVal (e2D (fInD true) (eTupN 2 (aCons (eVar 3) (aCons (eVar 6) aNil))) (eVar 1))) env S := rfl
def b4_empty : B := (sCons (sSet 4 (e1 fMaxL (e2 (fAdd true) (eLstN true 1 (aCons (e1 fNeg (eC (.int 1))) aNil)) (eLc true [5, 6] (iVal (eVar 1)) (gTup [(gName 5), (gName 6)]) t1_empty (eVar 6)))))
    (sExpr (eM1 fExt (eVar 2) (eLc true [6] (iRange (eVar 4)) (gName 6) t3_empty c2_empty))))
theorem b4_empty_ev (env : DL.Env) (S : Sto) : b4_empty env S = (sCons (sSet 4 (e1 fMaxL (e2 (fAdd true) (eLstN true 1 (aCons (e1 fNeg (eC (.int 1))) aNil)) (eLc true [5, 6] (iVal (eVar 1)) (gTup [(gName 5), (gName 6)]) t1_empty (eVar 6)))))
    (sExpr (eM1 fExt (eVar 2) (eLc true [6] (iRange (eVar 4)) (gName 6) t3_empty c2_empty)))) env S := rfl
def r_empty : List D → M D := body 1 7 (sCons (sExpr (eCall r_need_threaded (aCons (eVar 0) aNil)))
    (sCons (sSet 1 (eCall r_eyes_had (aCons (eVar 0) aNil)))
    (sCons (sSet 2 (eLstN false 0 aNil))
    (sCons (sFor (iRange (e2 (fAdd true) (eC (.int 7)) (eC (.int 1)))) (gName 3) b4_empty)
    (sRet (eVar 2))))))
def b1__law_right : B := (sCons (sAsg (DL.gSl (eVar 4) oNone (oSome (eC (.int 1)))) (eLstN true 0 aNil))
    (sExpr (eM1 fApp (eVar 4) (eC .none))))
theorem b1__law_right_ev (env : DL.Env) (S : Sto) : b1__law_right env S = (sCons (sAsg (DL.gSl (eVar 4) oNone (oSome (eC (.int 1)))) (eLstN true 0 aNil))
    (sExpr (eM1 fApp (eVar 4) (eC .none)))) env S := rfl
def b2__law_right : B := (sCons (sSet 3 (eLstN false 2 (aCons (eCallL r_doubled (aCons (eVar 0) aNil)) (aCons (eCallL r_empty (aCons (eVar 0) aNil)) aNil))))
    (sCons (sIf (tVal (e2 fNe (eReprV (eVar 3)) (eVar 1))) (sRet (eC (.bool false))) sNil)
    (sForR (eVar 3) (gName 4) b1__law_right)))
theorem b2__law_right_ev (env : DL.Env) (S : Sto) : b2__law_right env S = (sCons (sSet 3 (eLstN false 2 (aCons (eCallL r_doubled (aCons (eVar 0) aNil)) (aCons (eCallL r_empty (aCons (eVar 0) aNil)) aNil))))
    (sCons (sIf (tVal (e2 fNe (eReprV (eVar 3)) (eVar 1))) (sRet (eC (.bool false))) sNil)
    (sForR (eVar 3) (gName 4) b1__law_right))) env S := rfl
def r__law_right : List D → M D := body 1 5 (sCons (sSet 1 (eReprV (eCallL r__law_due (aCons (eVar 0) aNil))))
    (sCons (sFor (iRange (eC (.int 2))) (gName 2) b2__law_right)
    (sRet (eC (.bool true)))))
def b1_law : B := (sIf (tNot (tVal (eCall r__law_right (aCons (eVar 6) aNil)))) (sRet (eC (.bool false))) sNil)
theorem b1_law_ev (env : DL.Env) (S : Sto) : b1_law env S = (sIf (tNot (tVal (eCall r__law_right (aCons (eVar 6) aNil)))) (sRet (eC (.bool false))) sNil) env S := rfl
def b2_law : B := (sCons (sPar2 3 4 (aCons (eCallL r__law_order (aCons (eVar 0) (aCons (eVar 1) (aCons (eCallL r__law_many (aCons (eVar 0) (aCons (eVar 1) aNil))) aNil)))) (aCons (eCallL r__law_draft (aCons (eVar 0) (aCons (eVar 1) aNil))) aNil)))
    (sCons (sSet 5 (eCall r__law_eyes (aCons (eVar 3) (aCons (eVar 4) (aCons (e2 fMod (eCallL r__law_cell (aCons (eVar 0) (aCons (eVar 1) aNil))) (eC (.int 100))) aNil)))))
    (sFor (iVal (eTupN 3 (aCons (eVar 5) (aCons (eCallL r__law_other (aCons (eVar 0) (aCons (eVar 1) (aCons (eVar 5) aNil)))) (aCons (eCallL r__law_drawn (aCons (eVar 0) (aCons (eVar 1) (aCons (eVar 3) aNil)))) aNil))))) (gName 6) b1_law)))
theorem b2_law_ev (env : DL.Env) (S : Sto) : b2_law env S = (sCons (sPar2 3 4 (aCons (eCallL r__law_order (aCons (eVar 0) (aCons (eVar 1) (aCons (eCallL r__law_many (aCons (eVar 0) (aCons (eVar 1) aNil))) aNil)))) (aCons (eCallL r__law_draft (aCons (eVar 0) (aCons (eVar 1) aNil))) aNil)))
    (sCons (sSet 5 (eCall r__law_eyes (aCons (eVar 3) (aCons (eVar 4) (aCons (e2 fMod (eCallL r__law_cell (aCons (eVar 0) (aCons (eVar 1) aNil))) (eC (.int 100))) aNil)))))
    (sFor (iVal (eTupN 3 (aCons (eVar 5) (aCons (eCallL r__law_other (aCons (eVar 0) (aCons (eVar 1) (aCons (eVar 5) aNil)))) (aCons (eCallL r__law_drawn (aCons (eVar 0) (aCons (eVar 1) (aCons (eVar 3) aNil)))) aNil))))) (gName 6) b1_law))) env S := rfl
def r_law : List D → M D := body 1 7 (sCons (sSet 1 (eLstN false 1 (aCons (eC (.int 0)) aNil)))
    (sCons (sFor (iRange (e2 (fAdd true) (eC (.int 3)) (e2 fMin2 (eC (.int 9)) (e1 fLen (eVar 0))))) (gName 2) b2_law)
    (sRet (eC (.bool true)))))
end Pk55
namespace DL
open PySem
/-! ## dicts whose keys are ints -/
section
variable {β : Type} (f : β → PyData)
abbrev kvF (p : Int × β) : PyData × D := (.int p.1, .p (f p.2))
abbrev prF (p : Int × β) : PyData := .tuple [.int p.1, f p.2]
/-- what stands at a key -/
def val (L : List (Int × β)) (k : Int) : Option β := (L.find? fun p => decide (p.1 = k)).map (·.2)
theorem pairsOf_f : ∀ L : List (Int × β), pairsOf (L.map (prF f)) = some (L.map (kvF f))
  | [] => rfl
  | p :: L => by
    show (pairsOf (L.map (prF f))).map ((PyData.int p.1, D.p (f p.2)) :: ·) = _
    rw [pairsOf_f L]
    rfl
theorem any_f (k : Int) (A : List (Int × β)) (h : ¬ k ∈ A.map (·.1)) : ((A.map (kvF f)).any fun kv => decide (keyOf kv.1 = some (.inl k))) = false := by
  rw [List.any_map]
  apply List.any_eq_false.mpr
  intro p hp
  have : ¬ p.1 = k := fun e => h (List.mem_map.mpr ⟨p, hp, e⟩)
  simp [keyOf, this]
theorem dPut_f (A : List (Int × β)) (k : Int) (v : β) (h : ¬ k ∈ A.map (·.1)) : dPut (A.map (kvF f)) (.inl k) (.int k) (.p (f v)) = (A ++ [(k, v)]).map (kvF f) := by
  unfold dPut
  rw [any_f f _ _ h, if_neg (by decide), List.map_append]
  rfl
theorem mergeD_f : ∀ (L A : List (Int × β)), ((A ++ L).map (·.1)).Nodup → mergeD (A.map (kvF f)) (L.map (kvF f)) = some ((A ++ L).map (kvF f))
  | [], A, _ => by rw [List.append_nil]; rfl
  | p :: L, A, h => by
    have e : (A ++ p :: L) = (A ++ [p]) ++ L := by simp
    rw [e] at h
    have hk : ¬ p.1 ∈ A.map (·.1) := by
      rw [List.map_append, List.map_append] at h
      have h2 := (List.nodup_append.mp (List.nodup_append.mp h).1)
      intro z
      exact h2.2.2 p.1 z p.1 (by simp) rfl
    show mergeD (dPut (A.map (kvF f)) (.inl p.1) (.int p.1) (.p (f p.2))) (L.map (kvF f)) = _
    rw [dPut_f f A p.1 p.2 hk, e]
    exact mergeD_f L (A ++ [p]) h
theorem dGet_f (L : List (Int × β)) (k : Int) : dGet (L.map (kvF f)) (.inl k) = (val L k).map fun v => .p (f v) := by
  unfold dGet val
  rw [List.find?_map, Option.map_map, Option.map_map]
  congr 1
  congr 1
  funext p
  simp [keyOf]
theorem in_f {L : List (Int × β)} {m : Nat} {S : Sto} (hS : S[m]? = some (.dct (L.map (kvF f)))) (neg : Bool) (x : Int) : fInD neg (.p (.int x)) (.ref m) S = .ok (.p (.bool (neg ^^ (val L x).isSome))) S := by
  show (match S[m]? with
    | some (.dct kvs) => (R.ok (D.p (.bool (neg ^^ (dGet kvs (.inl x)).isSome))) S)
    | _ => bnd (see (.p (.int x))) (fun u => bnd (see (.ref m)) fun v => fIn neg u v) S) = _
  rw [hS]
  show R.ok (D.p (.bool (neg ^^ (dGet (L.map (kvF f)) (.inl x)).isSome))) S = _
  rw [dGet_f f]
  cases val L x <;> rfl
theorem ix_f {L : List (Int × β)} {m : Nat} {S : Sto} (hS : S[m]? = some (.dct (L.map (kvF f)))) {x : Int} {v : β} (hv : val L x = some v) : fIx (.ref m) (.p (.int x)) S = .ok (.p (f v)) S := by
  rw [fIx_r, hS]
  show opt (dGet (L.map (kvF f)) (.inl x)) S = _
  rw [dGet_f f, hv]
  rfl
theorem isDct_f {L : List (Int × β)} {m : Nat} {S : Sto} (hS : S[m]? = some (.dct (L.map (kvF f)))) : isDct S (.ref m) = true := by
  show (match S[m]? with | some (.dct kvs) => true | _ => false) = true
  rw [hS]
theorem val_mem {L : List (Int × β)} {x : Int} : (val L x).isSome = true ↔ x ∈ L.map (·.1) := by
  unfold val
  rw [Option.isSome_map, List.find?_isSome, List.mem_map]
  constructor
  · rintro ⟨p, hp, e⟩
    exact ⟨p, hp, by simpa using e⟩
  · rintro ⟨p, hp, e⟩
    exact ⟨p, hp, by simpa using e⟩
theorem val_none {L : List (Int × β)} {x : Int} (h : ¬ x ∈ L.map (·.1)) : val L x = none := by
  cases q : val L x with
  | none => rfl
  | some v => exact absurd (val_mem.mp (by rw [q]; rfl)) h
end
/-- threads with the number of their row -/
def numL : Nat → List (List Int) → List (Int × Int)
  | _, [] => []
  | k, b :: Bs => b.map (fun x => (x, (k : Int))) ++ numL (k + 1) Bs
theorem numL_keys : ∀ (Bs : List (List Int)) (k : Nat), (numL k Bs).map (·.1) = Bs.flatten
  | [], _ => rfl
  | b :: Bs, k => by
    show ((b.map fun x => (x, (k : Int))) ++ numL (k + 1) Bs).map (·.1) = _
    rw [List.map_append, numL_keys Bs (k + 1), List.map_map, List.flatten_cons]
    congr 1
    exact List.map_id b
theorem numL_len (Bs : List (List Int)) (k : Nat) : (numL k Bs).length = Bs.flatten.length := by
  have := congrArg List.length (numL_keys Bs k)
  rwa [List.length_map] at this
end DL

namespace Pk55
open PySem DL
/-! the small looks: is_among, is_thread, is_order, of good things -/
theorem ok_among (x lo hi : Int) (S : Sto) : r_is_among [.p (.int x), .p (.int lo), .p (.int hi)] S = .ok (.p (.bool (decide (lo ≤ x) && decide (x ≤ hi)))) S := by
  unfold r_is_among
  by_cases h : lo ≤ x
  · simp only [body_ev, fInT_t, eIdxT_ev, isTq_t, fStrT_t, fNeN_l, fNeU_d, fNeU_t, fNeU_l, fNeU_i, fNeU_s, fNeU_b, fNeU_n, fEqU_d, fEqU_t, fEqU_l, fEqU_i, fEqU_s, fEqU_b, fEqU_n, isU_n, isU_c, fLeS_s, eD0_ev, fLen_s, fMul_s, fIx_s, eCutA_ev, fCutA_s, fCutA_l, fCutA_t, iStr_ev, iRangeD_ev, fLenD_r, gSl_ev, fSetSl_r, eDict0_ev, eMd1_ev, fUpd_r, Bool.false_xor, Bool.true_xor, Bool.not_true, Bool.not_false, eIsX_ev, fIsX_e, fIsX_n, eIsF_ev, fIsF_e, fIsF_n, eFld_ev, fIsN_x, eLam_ev, gTupQ_ev, e2V_ev, fEq_in, fPopAt_r, fSorted_l, fSorted_t, fMaxL_l, fMinL_l, eListRg_ev, eTupRg_ev, rgP_ev, iRange3_ev, fIsB_b, fIndex_l, fCount_l, isLq_l, isLq_r, eMq_ev, isDct_r, eGet_ev, fGet_r, fDictP_l, fLenSetA_t, fLenSetA_l, eStep_ev, fStep_l, fStep_t, sForR_ev, eLcR_ev, iEnumD_ev, iZipD_ev, sAug_ev, sAugL_ev, fIxL_r, fSetL_r, fLenSet_t, fIsN_n, fIsN_i, fIsN_t, fIsN_l, fIsN_s, fIsN_r, fExt_l, fExt_t, fIx_l, fIx_t, fIx_r, fSetIx_r, new_ev, bnd_R, bndR_ok, bndR_ex, ret_ev, opt_some, hush_ev, hushR_ok, iteM, eVar_ev, lkup, eC_ev, e2_ev, e1_ev, e2D_ev, e1D_ev, e3D_ev, aNil_ev, aCons_ev, eTupN_ev, eLstN_ev, eIf_ev, eIx_ev, eCut_ev, oNone_ev, oSome_ev, eIsK_ev, eTuple_ev, eList_ev, eCall_ev, eCallL_ev, eCallT_ev, eM0_ev, eM1_ev, eM2_ev, eDict_ev, ePairs_nil, ePairs_cons, eChain_ev, tVal_ev, tAnd_ev, tOr_ev, tNot_ev, tYes_ev, eAnd_ev, eOr_ev, eNot_ev, eFrz_ev, iVal_ev, iRange_ev, iRange2_ev, sNil_ev, kSeq_nx, kSeq_rt, kSeq_bk, kSeq_ct, sCons_ev, sExpr_ev, sSet_ev, gSub_ev, sAsg_ev, sRet_ev, sRetN_ev, sIf_ev, sRaise_ev, sBreak_ev, sCont_ev, sPar2_ev, sPar3_ev, gName_ev, gTup_ev, gsFill_nil, gsFill_cons, sFor_ev, sWhile_ev, lcT_ev, eLc_ev, kBody_nx, kBody_rt, DL.start, see_p, List.set_cons_zero, List.set_cons_succ, List.map_cons, List.map_nil, List.cons_append, List.nil_append, List.length_cons, List.length_nil, List.replicate, Nat.reduceAdd, Nat.reduceSub, Nat.reduceEqDiff, if_true, if_false, Bool.false_eq_true, reduceIte, fAdd_i, fAdd_s, fAdd_t, fAdd_l, fSub_i, fMul_i, fMul_t, fMul_l, fDiv_i, fMod_i, fPow_i, fShr_i, fCmp_i, fNeg_i, fEq_i, fEq_s, fNe_i, fNe_s, fLen_l, fLen_t, fMax2_i, fMin2_i, fInt_i, fInt_b, fCut_l, fCut_t, mkP_t, mkP_f, mkL_f, mkL_t, toPs_nil, toPs_p, toPs_map, toPs_mapf, toP_p, fAll_l, fAny_l, fAll_m, fAny_m, all_true, fSum_l, fSum_t, fTuple_l, fTuple_t, fTuple_r, fList_l, fList_t, fList_r, fIsK_p, fRepr_ev, fApp_r, fPop_r, fIns_r, isL_r, items_t, elems_t, elems_l, mkTup, Option.map_some, isK, Bool.not_false, h, decide_true, Bool.true_and]
  · simp only [body_ev, fInT_t, eIdxT_ev, isTq_t, fStrT_t, fNeN_l, fNeU_d, fNeU_t, fNeU_l, fNeU_i, fNeU_s, fNeU_b, fNeU_n, fEqU_d, fEqU_t, fEqU_l, fEqU_i, fEqU_s, fEqU_b, fEqU_n, isU_n, isU_c, fLeS_s, eD0_ev, fLen_s, fMul_s, fIx_s, eCutA_ev, fCutA_s, fCutA_l, fCutA_t, iStr_ev, iRangeD_ev, fLenD_r, gSl_ev, fSetSl_r, eDict0_ev, eMd1_ev, fUpd_r, Bool.false_xor, Bool.true_xor, Bool.not_true, Bool.not_false, eIsX_ev, fIsX_e, fIsX_n, eIsF_ev, fIsF_e, fIsF_n, eFld_ev, fIsN_x, eLam_ev, gTupQ_ev, e2V_ev, fEq_in, fPopAt_r, fSorted_l, fSorted_t, fMaxL_l, fMinL_l, eListRg_ev, eTupRg_ev, rgP_ev, iRange3_ev, fIsB_b, fIndex_l, fCount_l, isLq_l, isLq_r, eMq_ev, isDct_r, eGet_ev, fGet_r, fDictP_l, fLenSetA_t, fLenSetA_l, eStep_ev, fStep_l, fStep_t, sForR_ev, eLcR_ev, iEnumD_ev, iZipD_ev, sAug_ev, sAugL_ev, fIxL_r, fSetL_r, fLenSet_t, fIsN_n, fIsN_i, fIsN_t, fIsN_l, fIsN_s, fIsN_r, fExt_l, fExt_t, fIx_l, fIx_t, fIx_r, fSetIx_r, new_ev, bnd_R, bndR_ok, bndR_ex, ret_ev, opt_some, hush_ev, hushR_ok, iteM, eVar_ev, lkup, eC_ev, e2_ev, e1_ev, e2D_ev, e1D_ev, e3D_ev, aNil_ev, aCons_ev, eTupN_ev, eLstN_ev, eIf_ev, eIx_ev, eCut_ev, oNone_ev, oSome_ev, eIsK_ev, eTuple_ev, eList_ev, eCall_ev, eCallL_ev, eCallT_ev, eM0_ev, eM1_ev, eM2_ev, eDict_ev, ePairs_nil, ePairs_cons, eChain_ev, tVal_ev, tAnd_ev, tOr_ev, tNot_ev, tYes_ev, eAnd_ev, eOr_ev, eNot_ev, eFrz_ev, iVal_ev, iRange_ev, iRange2_ev, sNil_ev, kSeq_nx, kSeq_rt, kSeq_bk, kSeq_ct, sCons_ev, sExpr_ev, sSet_ev, gSub_ev, sAsg_ev, sRet_ev, sRetN_ev, sIf_ev, sRaise_ev, sBreak_ev, sCont_ev, sPar2_ev, sPar3_ev, gName_ev, gTup_ev, gsFill_nil, gsFill_cons, sFor_ev, sWhile_ev, lcT_ev, eLc_ev, kBody_nx, kBody_rt, DL.start, see_p, List.set_cons_zero, List.set_cons_succ, List.map_cons, List.map_nil, List.cons_append, List.nil_append, List.length_cons, List.length_nil, List.replicate, Nat.reduceAdd, Nat.reduceSub, Nat.reduceEqDiff, if_true, if_false, Bool.false_eq_true, reduceIte, fAdd_i, fAdd_s, fAdd_t, fAdd_l, fSub_i, fMul_i, fMul_t, fMul_l, fDiv_i, fMod_i, fPow_i, fShr_i, fCmp_i, fNeg_i, fEq_i, fEq_s, fNe_i, fNe_s, fLen_l, fLen_t, fMax2_i, fMin2_i, fInt_i, fInt_b, fCut_l, fCut_t, mkP_t, mkP_f, mkL_f, mkL_t, toPs_nil, toPs_p, toPs_map, toPs_mapf, toP_p, fAll_l, fAny_l, fAll_m, fAny_m, all_true, fSum_l, fSum_t, fTuple_l, fTuple_t, fTuple_r, fList_l, fList_t, fList_r, fIsK_p, fRepr_ev, fApp_r, fPop_r, fIns_r, isL_r, items_t, elems_t, elems_l, mkTup, Option.map_some, isK, Bool.not_false, h, decide_false, Bool.false_and]
theorem ok_thread (x : Int) (S : Sto) : r_is_thread [.p (.int x)] S = .ok (.p (.bool (decide (0 ≤ x) && decide (x ≤ 99)))) S := by
  unfold r_is_thread
  simp only [body_ev, fInT_t, eIdxT_ev, isTq_t, fStrT_t, fNeN_l, fNeU_d, fNeU_t, fNeU_l, fNeU_i, fNeU_s, fNeU_b, fNeU_n, fEqU_d, fEqU_t, fEqU_l, fEqU_i, fEqU_s, fEqU_b, fEqU_n, isU_n, isU_c, fLeS_s, eD0_ev, fLen_s, fMul_s, fIx_s, eCutA_ev, fCutA_s, fCutA_l, fCutA_t, iStr_ev, iRangeD_ev, fLenD_r, gSl_ev, fSetSl_r, eDict0_ev, eMd1_ev, fUpd_r, Bool.false_xor, Bool.true_xor, Bool.not_true, Bool.not_false, eIsX_ev, fIsX_e, fIsX_n, eIsF_ev, fIsF_e, fIsF_n, eFld_ev, fIsN_x, eLam_ev, gTupQ_ev, e2V_ev, fEq_in, fPopAt_r, fSorted_l, fSorted_t, fMaxL_l, fMinL_l, eListRg_ev, eTupRg_ev, rgP_ev, iRange3_ev, fIsB_b, fIndex_l, fCount_l, isLq_l, isLq_r, eMq_ev, isDct_r, eGet_ev, fGet_r, fDictP_l, fLenSetA_t, fLenSetA_l, eStep_ev, fStep_l, fStep_t, sForR_ev, eLcR_ev, iEnumD_ev, iZipD_ev, sAug_ev, sAugL_ev, fIxL_r, fSetL_r, fLenSet_t, fIsN_n, fIsN_i, fIsN_t, fIsN_l, fIsN_s, fIsN_r, fExt_l, fExt_t, fIx_l, fIx_t, fIx_r, fSetIx_r, new_ev, bnd_R, bndR_ok, bndR_ex, ret_ev, opt_some, hush_ev, hushR_ok, iteM, eVar_ev, lkup, eC_ev, e2_ev, e1_ev, e2D_ev, e1D_ev, e3D_ev, aNil_ev, aCons_ev, eTupN_ev, eLstN_ev, eIf_ev, eIx_ev, eCut_ev, oNone_ev, oSome_ev, eIsK_ev, eTuple_ev, eList_ev, eCall_ev, eCallL_ev, eCallT_ev, eM0_ev, eM1_ev, eM2_ev, eDict_ev, ePairs_nil, ePairs_cons, eChain_ev, tVal_ev, tAnd_ev, tOr_ev, tNot_ev, tYes_ev, eAnd_ev, eOr_ev, eNot_ev, eFrz_ev, iVal_ev, iRange_ev, iRange2_ev, sNil_ev, kSeq_nx, kSeq_rt, kSeq_bk, kSeq_ct, sCons_ev, sExpr_ev, sSet_ev, gSub_ev, sAsg_ev, sRet_ev, sRetN_ev, sIf_ev, sRaise_ev, sBreak_ev, sCont_ev, sPar2_ev, sPar3_ev, gName_ev, gTup_ev, gsFill_nil, gsFill_cons, sFor_ev, sWhile_ev, lcT_ev, eLc_ev, kBody_nx, kBody_rt, DL.start, see_p, List.set_cons_zero, List.set_cons_succ, List.map_cons, List.map_nil, List.cons_append, List.nil_append, List.length_cons, List.length_nil, List.replicate, Nat.reduceAdd, Nat.reduceSub, Nat.reduceEqDiff, if_true, if_false, Bool.false_eq_true, reduceIte, fAdd_i, fAdd_s, fAdd_t, fAdd_l, fSub_i, fMul_i, fMul_t, fMul_l, fDiv_i, fMod_i, fPow_i, fShr_i, fCmp_i, fNeg_i, fEq_i, fEq_s, fNe_i, fNe_s, fLen_l, fLen_t, fMax2_i, fMin2_i, fInt_i, fInt_b, fCut_l, fCut_t, mkP_t, mkP_f, mkL_f, mkL_t, toPs_nil, toPs_p, toPs_map, toPs_mapf, toP_p, fAll_l, fAny_l, fAll_m, fAny_m, all_true, fSum_l, fSum_t, fTuple_l, fTuple_t, fTuple_r, fList_l, fList_t, fList_r, fIsK_p, fRepr_ev, fApp_r, fPop_r, fIns_r, isL_r, items_t, elems_t, elems_l, mkTup, Option.map_some, ok_among, pure1]
theorem dist_nodup : ∀ {xs : List Int}, xs.Nodup → dist xs = xs
  | [], _ => rfl
  | x :: xs, h => by
    have h2 := List.nodup_cons.mp h
    have e := dist_nodup h2.2
    show (if x ∈ dist xs then dist xs else x :: dist xs) = x :: xs
    rw [e, if_neg h2.1]
/-- threads, no two alike -/
def GoodO (xs : List Int) : Prop := xs.length ≤ 60 ∧ (∀ x ∈ xs, 0 ≤ x ∧ x ≤ 99) ∧ xs.Nodup
theorem lc_threads (xs : List Int) (w : Option D) (S : Sto) (h : ∀ x ∈ xs, 0 ≤ x ∧ x ≤ 99) (o : Option D) : lcL (gName 1) tYes c1_is_order [o, none] ((xs.map PyData.int).map .p) S = .ok (xs.map fun _ => .p (.bool true)) S := by
  have := lc_map (g := gName 1) (t := tYes) (e := c1_is_order) (env := [o, none]) (S := S) (f := fun x : Int => D.p (.int x)) (h := fun _ => some (.p (.bool true))) xs (fun x hx => by
    obtain ⟨a, b⟩ := h x hx
    simp only [body_ev, fInT_t, eIdxT_ev, isTq_t, fStrT_t, fNeN_l, fNeU_d, fNeU_t, fNeU_l, fNeU_i, fNeU_s, fNeU_b, fNeU_n, fEqU_d, fEqU_t, fEqU_l, fEqU_i, fEqU_s, fEqU_b, fEqU_n, isU_n, isU_c, fLeS_s, eD0_ev, fLen_s, fMul_s, fIx_s, eCutA_ev, fCutA_s, fCutA_l, fCutA_t, iStr_ev, iRangeD_ev, fLenD_r, gSl_ev, fSetSl_r, eDict0_ev, eMd1_ev, fUpd_r, Bool.false_xor, Bool.true_xor, Bool.not_true, Bool.not_false, eIsX_ev, fIsX_e, fIsX_n, eIsF_ev, fIsF_e, fIsF_n, eFld_ev, fIsN_x, eLam_ev, gTupQ_ev, e2V_ev, fEq_in, fPopAt_r, fSorted_l, fSorted_t, fMaxL_l, fMinL_l, eListRg_ev, eTupRg_ev, rgP_ev, iRange3_ev, fIsB_b, fIndex_l, fCount_l, isLq_l, isLq_r, eMq_ev, isDct_r, eGet_ev, fGet_r, fDictP_l, fLenSetA_t, fLenSetA_l, eStep_ev, fStep_l, fStep_t, sForR_ev, eLcR_ev, iEnumD_ev, iZipD_ev, sAug_ev, sAugL_ev, fIxL_r, fSetL_r, fLenSet_t, fIsN_n, fIsN_i, fIsN_t, fIsN_l, fIsN_s, fIsN_r, fExt_l, fExt_t, fIx_l, fIx_t, fIx_r, fSetIx_r, new_ev, bnd_R, bndR_ok, bndR_ex, ret_ev, opt_some, hush_ev, hushR_ok, iteM, eVar_ev, lkup, eC_ev, e2_ev, e1_ev, e2D_ev, e1D_ev, e3D_ev, aNil_ev, aCons_ev, eTupN_ev, eLstN_ev, eIf_ev, eIx_ev, eCut_ev, oNone_ev, oSome_ev, eIsK_ev, eTuple_ev, eList_ev, eCall_ev, eCallL_ev, eCallT_ev, eM0_ev, eM1_ev, eM2_ev, eDict_ev, ePairs_nil, ePairs_cons, eChain_ev, tVal_ev, tAnd_ev, tOr_ev, tNot_ev, tYes_ev, eAnd_ev, eOr_ev, eNot_ev, eFrz_ev, iVal_ev, iRange_ev, iRange2_ev, sNil_ev, kSeq_nx, kSeq_rt, kSeq_bk, kSeq_ct, sCons_ev, sExpr_ev, sSet_ev, gSub_ev, sAsg_ev, sRet_ev, sRetN_ev, sIf_ev, sRaise_ev, sBreak_ev, sCont_ev, sPar2_ev, sPar3_ev, gName_ev, gTup_ev, gsFill_nil, gsFill_cons, sFor_ev, sWhile_ev, lcT_ev, eLc_ev, kBody_nx, kBody_rt, DL.start, see_p, List.set_cons_zero, List.set_cons_succ, List.map_cons, List.map_nil, List.cons_append, List.nil_append, List.length_cons, List.length_nil, List.replicate, Nat.reduceAdd, Nat.reduceSub, Nat.reduceEqDiff, if_true, if_false, Bool.false_eq_true, reduceIte, fAdd_i, fAdd_s, fAdd_t, fAdd_l, fSub_i, fMul_i, fMul_t, fMul_l, fDiv_i, fMod_i, fPow_i, fShr_i, fCmp_i, fNeg_i, fEq_i, fEq_s, fNe_i, fNe_s, fLen_l, fLen_t, fMax2_i, fMin2_i, fInt_i, fInt_b, fCut_l, fCut_t, mkP_t, mkP_f, mkL_f, mkL_t, toPs_nil, toPs_p, toPs_map, toPs_mapf, toP_p, fAll_l, fAny_l, fAll_m, fAny_m, all_true, fSum_l, fSum_t, fTuple_l, fTuple_t, fTuple_r, fList_l, fList_t, fList_r, fIsK_p, fRepr_ev, fApp_r, fPop_r, fIns_r, isL_r, items_t, elems_t, elems_l, mkTup, Option.map_some, c1_is_order_ev, ok_thread, pure1, a, b, decide_true, Bool.and_self])
  rw [List.map_map]
  rw [List.filterMap_eq_map'] at this
  exact this
theorem ok_is_order {xs : List Int} (h : GoodO xs) (S : Sto) : r_is_order [.p (.tuple (xs.map .int))] S = .ok (.p (.bool true)) S := by
  obtain ⟨h1, h2, h3⟩ := h
  have l1 : ¬ (60 : Int) < (xs.length : Int) := by omega
  have l2 : xs.length ≤ 4000 := by omega
  have e : (xs.map fun _ => D.p (.bool true)) = xs.map fun x => D.p ((fun _ : Int => PyData.bool true) x) := rfl
  unfold r_is_order
  simp only [body_ev, fInT_t, eIdxT_ev, isTq_t, fStrT_t, fNeN_l, fNeU_d, fNeU_t, fNeU_l, fNeU_i, fNeU_s, fNeU_b, fNeU_n, fEqU_d, fEqU_t, fEqU_l, fEqU_i, fEqU_s, fEqU_b, fEqU_n, isU_n, isU_c, fLeS_s, eD0_ev, fLen_s, fMul_s, fIx_s, eCutA_ev, fCutA_s, fCutA_l, fCutA_t, iStr_ev, iRangeD_ev, fLenD_r, gSl_ev, fSetSl_r, eDict0_ev, eMd1_ev, fUpd_r, Bool.false_xor, Bool.true_xor, Bool.not_true, Bool.not_false, eIsX_ev, fIsX_e, fIsX_n, eIsF_ev, fIsF_e, fIsF_n, eFld_ev, fIsN_x, eLam_ev, gTupQ_ev, e2V_ev, fEq_in, fPopAt_r, fSorted_l, fSorted_t, fMaxL_l, fMinL_l, eListRg_ev, eTupRg_ev, rgP_ev, iRange3_ev, fIsB_b, fIndex_l, fCount_l, isLq_l, isLq_r, eMq_ev, isDct_r, eGet_ev, fGet_r, fDictP_l, fLenSetA_t, fLenSetA_l, eStep_ev, fStep_l, fStep_t, sForR_ev, eLcR_ev, iEnumD_ev, iZipD_ev, sAug_ev, sAugL_ev, fIxL_r, fSetL_r, fLenSet_t, fIsN_n, fIsN_i, fIsN_t, fIsN_l, fIsN_s, fIsN_r, fExt_l, fExt_t, fIx_l, fIx_t, fIx_r, fSetIx_r, new_ev, bnd_R, bndR_ok, bndR_ex, ret_ev, opt_some, hush_ev, hushR_ok, iteM, eVar_ev, lkup, eC_ev, e2_ev, e1_ev, e2D_ev, e1D_ev, e3D_ev, aNil_ev, aCons_ev, eTupN_ev, eLstN_ev, eIf_ev, eIx_ev, eCut_ev, oNone_ev, oSome_ev, eIsK_ev, eTuple_ev, eList_ev, eCall_ev, eCallL_ev, eCallT_ev, eM0_ev, eM1_ev, eM2_ev, eDict_ev, ePairs_nil, ePairs_cons, eChain_ev, tVal_ev, tAnd_ev, tOr_ev, tNot_ev, tYes_ev, eAnd_ev, eOr_ev, eNot_ev, eFrz_ev, iVal_ev, iRange_ev, iRange2_ev, sNil_ev, kSeq_nx, kSeq_rt, kSeq_bk, kSeq_ct, sCons_ev, sExpr_ev, sSet_ev, gSub_ev, sAsg_ev, sRet_ev, sRetN_ev, sIf_ev, sRaise_ev, sBreak_ev, sCont_ev, sPar2_ev, sPar3_ev, gName_ev, gTup_ev, gsFill_nil, gsFill_cons, sFor_ev, sWhile_ev, lcT_ev, eLc_ev, kBody_nx, kBody_rt, DL.start, see_p, List.set_cons_zero, List.set_cons_succ, List.map_cons, List.map_nil, List.cons_append, List.nil_append, List.length_cons, List.length_nil, List.replicate, Nat.reduceAdd, Nat.reduceSub, Nat.reduceEqDiff, if_true, if_false, Bool.false_eq_true, reduceIte, fAdd_i, fAdd_s, fAdd_t, fAdd_l, fSub_i, fMul_i, fMul_t, fMul_l, fDiv_i, fMod_i, fPow_i, fShr_i, fCmp_i, fNeg_i, fEq_i, fEq_s, fNe_i, fNe_s, fLen_l, fLen_t, fMax2_i, fMin2_i, fInt_i, fInt_b, fCut_l, fCut_t, mkP_t, mkP_f, mkL_f, mkL_t, toPs_nil, toPs_p, toPs_map, toPs_mapf, toP_p, fAll_l, fAny_l, fAll_m, fAny_m, all_true, fSum_l, fSum_t, fTuple_l, fTuple_t, fTuple_r, fList_l, fList_t, fList_r, fIsK_p, fRepr_ev, fApp_r, fPop_r, fIns_r, isL_r, items_t, elems_t, elems_l, mkTup, Option.map_some, isK, List.length_map, l1, l2, decide_false, Bool.not_true, DL.wipe, lc_threads xs none S h2, dist_nodup h3, decide_true]
end Pk55

namespace Pk55
open PySem DL
theorem atL_mod {cs : List Int} (h : cs ≠ []) (i : Int) : ∃ x, atL (cs.map PyData.int) (i % (cs.length : Int)) = some (.int x) := by
  have hl : 0 < (cs.length : Int) := by
    have := List.length_pos_iff.mpr h
    omega
  have h1 := Int.emod_nonneg i (show (cs.length : Int) ≠ 0 by omega)
  have h2 := Int.emod_lt_of_pos i hl
  have := atL_in (cs.map PyData.int) (i % (cs.length : Int)) h1 (by simpa using h2)
  rw [this]
  exact ⟨_, by rw [List.getElem_map]⟩
theorem for_own (e0 e1 e2 e3 : Option D) (S : Sto) : ∀ (ts : List D) (x : Int) (w : Option D), ∃ y w', forL (gName 5) b1__law_cell ts [e0, e1, e2, e3, some (.p (.int x)), w] S = .ok (.nx [e0, e1, e2, e3, some (.p (.int y)), w']) S := by
  intro ts
  induction ts with
  | nil => intro x w; exact ⟨x, w, rfl⟩
  | cons t ts ih =>
    intro x w
    obtain ⟨y, w', q⟩ := ih (x / 306783379) (some t)
    have hd : (0 : Int) < 306783379 ∧ (306783379 : Int).natAbs.log2 < 9000 := by decide
    refine ⟨y, w', ?_⟩
    simp only [body_ev, fInT_t, eIdxT_ev, isTq_t, fStrT_t, fNeN_l, fNeU_d, fNeU_t, fNeU_l, fNeU_i, fNeU_s, fNeU_b, fNeU_n, fEqU_d, fEqU_t, fEqU_l, fEqU_i, fEqU_s, fEqU_b, fEqU_n, isU_n, isU_c, fLeS_s, eD0_ev, fLen_s, fMul_s, fIx_s, eCutA_ev, fCutA_s, fCutA_l, fCutA_t, iStr_ev, iRangeD_ev, fLenD_r, gSl_ev, fSetSl_r, eDict0_ev, eMd1_ev, fUpd_r, Bool.false_xor, Bool.true_xor, Bool.not_true, Bool.not_false, eIsX_ev, fIsX_e, fIsX_n, eIsF_ev, fIsF_e, fIsF_n, eFld_ev, fIsN_x, eLam_ev, gTupQ_ev, e2V_ev, fEq_in, fPopAt_r, fSorted_l, fSorted_t, fMaxL_l, fMinL_l, eListRg_ev, eTupRg_ev, rgP_ev, iRange3_ev, fIsB_b, fIndex_l, fCount_l, isLq_l, isLq_r, eMq_ev, isDct_r, eGet_ev, fGet_r, fDictP_l, fLenSetA_t, fLenSetA_l, eStep_ev, fStep_l, fStep_t, sForR_ev, eLcR_ev, iEnumD_ev, iZipD_ev, sAug_ev, sAugL_ev, fIxL_r, fSetL_r, fLenSet_t, fIsN_n, fIsN_i, fIsN_t, fIsN_l, fIsN_s, fIsN_r, fExt_l, fExt_t, fIx_l, fIx_t, fIx_r, fSetIx_r, new_ev, bnd_R, bndR_ok, bndR_ex, ret_ev, opt_some, hush_ev, hushR_ok, iteM, eVar_ev, lkup, eC_ev, e2_ev, e1_ev, e2D_ev, e1D_ev, e3D_ev, aNil_ev, aCons_ev, eTupN_ev, eLstN_ev, eIf_ev, eIx_ev, eCut_ev, oNone_ev, oSome_ev, eIsK_ev, eTuple_ev, eList_ev, eCall_ev, eCallL_ev, eCallT_ev, eM0_ev, eM1_ev, eM2_ev, eDict_ev, ePairs_nil, ePairs_cons, eChain_ev, tVal_ev, tAnd_ev, tOr_ev, tNot_ev, tYes_ev, eAnd_ev, eOr_ev, eNot_ev, eFrz_ev, iVal_ev, iRange_ev, iRange2_ev, sNil_ev, kSeq_nx, kSeq_rt, kSeq_bk, kSeq_ct, sCons_ev, sExpr_ev, sSet_ev, gSub_ev, sAsg_ev, sRet_ev, sRetN_ev, sIf_ev, sRaise_ev, sBreak_ev, sCont_ev, sPar2_ev, sPar3_ev, gName_ev, gTup_ev, gsFill_nil, gsFill_cons, sFor_ev, sWhile_ev, lcT_ev, eLc_ev, kBody_nx, kBody_rt, DL.start, see_p, List.set_cons_zero, List.set_cons_succ, List.map_cons, List.map_nil, List.cons_append, List.nil_append, List.length_cons, List.length_nil, List.replicate, Nat.reduceAdd, Nat.reduceSub, Nat.reduceEqDiff, if_true, if_false, Bool.false_eq_true, reduceIte, fAdd_i, fAdd_s, fAdd_t, fAdd_l, fSub_i, fMul_i, fMul_t, fMul_l, fDiv_i, fMod_i, fPow_i, fShr_i, fCmp_i, fNeg_i, fEq_i, fEq_s, fNe_i, fNe_s, fLen_l, fLen_t, fMax2_i, fMin2_i, fInt_i, fInt_b, fCut_l, fCut_t, mkP_t, mkP_f, mkL_f, mkL_t, toPs_nil, toPs_p, toPs_map, toPs_mapf, toP_p, fAll_l, fAny_l, fAll_m, fAny_m, all_true, fSum_l, fSum_t, fTuple_l, fTuple_t, fTuple_r, fList_l, fList_t, fList_r, fIsK_p, fRepr_ev, fApp_r, fPop_r, fIns_r, isL_r, items_t, elems_t, elems_l, mkTup, Option.map_some, forL_cons, b1__law_cell_ev, hd, and_self, kFor_nx]
    exact q
/-- the spot lies at n, drawn at most c times -/
def Sp (n : Nat) (c : Int) (S : Sto) : Prop := ∃ k : Int, S[n]? = some (.lst [.p (.int k)]) ∧ 0 ≤ k ∧ k ≤ c
theorem Sp.mono {n : Nat} {c d : Int} {S : Sto} (h : Sp n c S) (l : c ≤ d) : Sp n d S := let ⟨k, e, a, b⟩ := h; ⟨k, e, a, by omega⟩
structure Nx (n : Nat) (c : Int) (S S' : Sto) : Prop where
  sp : Sp n c S'
  len : S'.length = S.length
  oth : ∀ m, m ≠ n → S'[m]? = S[m]?
theorem ok_cell {n : Nat} {c : Int} {S : Sto} (cs : List Int) (h : Sp n c S) (hc : c ≤ 2 ^ 30) (hl : cs.length ≤ 63) : ∃ r S', 0 ≤ r ∧ r < 306783379 ∧ Nx n (c + 1) S S' ∧ r__law_cell [.p (.list (cs.map .int)), .ref n] S = .ok (.p (.int r)) S' := by
  obtain ⟨k, e, k0, k1⟩ := h
  have hn : n < S.length := (List.getElem?_eq_some_iff.mp e).1
  have e2 : (S.set n (.lst [.p (.int (k + 1))]))[n]? = some (.lst [.p (.int (k + 1))]) := List.getElem?_set_self hn
  have nxt : Nx n (c + 1) S (S.set n (.lst [.p (.int (k + 1))])) := ⟨⟨k + 1, e2, by omega, by omega⟩, by simp, fun m hm => List.getElem?_set_ne (fun z => hm z.symm)⟩
  have a0 : atL [D.p (.int k)] 0 = some (.p (.int k)) := rfl
  have a1 : atL [D.p (.int (k + 1))] 0 = some (.p (.int (k + 1))) := rfl
  have ix0 : ixI 1 0 = some 0 := rfl
  have m1 : mulOk 31 (k + 1) = true := mulOk_s (by decide) (by omega)
  have m2 : mulOk (31 * (k + 1)) (k + 1) = true := mulOk_s (by omega) (by omega)
  have m3 : mulOk 7919 (k + 1) = true := mulOk_s (by decide) (by omega)
  have hpow : (10 : Int) ^ (18 : Int).toNat = 1000000000000000000 := by decide
  have hpow2 : (0 : Int) ≤ 18 ∧ (18 : Int) ≤ 1000000 ∧ (10 : Int).natAbs < 2 ^ 64 := by decide
  have d7 : (0 : Int) < 7 ∧ (7 : Int).natAbs.log2 < 9000 := by decide
  have dm : (0 : Int) < 2147483647 := by decide
  have dm2 : (0 : Int) < 2147483629 := by decide
  have dm3 : (0 : Int) < 306783379 := by decide
  have hp5 : ∀ b : Int, (0 : Int) ≤ 5 ∧ (5 : Int) ≤ 1000000 ∧ (b % 2147483647).natAbs < 2 ^ 64 := fun b => ⟨by decide, by decide, by omega⟩
  -- the end
  have fin : ∀ b : Int, 0 ≤ (b % 2147483647) ^ (5 : Int).toNat % 2147483647 / 7 ∧ (b % 2147483647) ^ (5 : Int).toNat % 2147483647 / 7 < 306783379 := fun b => by omega
  obtain ⟨b0, hb0⟩ : ∃ b0, b0 = 31 * (k + 1) * (k + 1) + 7919 * (k + 1) := ⟨_, rfl⟩
  have useB : ∀ b : Int, r__law_cell [.p (.list (cs.map .int)), .ref n] S = .ok (.p (.int ((b % 2147483647) ^ (5 : Int).toNat % 2147483647 / 7))) (S.set n (.lst [.p (.int (k + 1))])) →
      ∃ r S', 0 ≤ r ∧ r < 306783379 ∧ Nx n (c + 1) S S' ∧ r__law_cell [.p (.list (cs.map .int)), .ref n] S = .ok (.p (.int r)) S' := fun b h => ⟨_, _, (fin b).1, (fin b).2, nxt, h⟩
  by_cases hcs : cs = []
  · subst hcs
    have hl0 : decide ((0 : Int) < ((0 : Nat) : Int)) = false := rfl
    refine useB b0 ?_
    unfold r__law_cell
    simp only [body_ev, fInT_t, eIdxT_ev, isTq_t, fStrT_t, fNeN_l, fNeU_d, fNeU_t, fNeU_l, fNeU_i, fNeU_s, fNeU_b, fNeU_n, fEqU_d, fEqU_t, fEqU_l, fEqU_i, fEqU_s, fEqU_b, fEqU_n, isU_n, isU_c, fLeS_s, eD0_ev, fLen_s, fMul_s, fIx_s, eCutA_ev, fCutA_s, fCutA_l, fCutA_t, iStr_ev, iRangeD_ev, fLenD_r, gSl_ev, fSetSl_r, eDict0_ev, eMd1_ev, fUpd_r, Bool.false_xor, Bool.true_xor, Bool.not_true, Bool.not_false, eIsX_ev, fIsX_e, fIsX_n, eIsF_ev, fIsF_e, fIsF_n, eFld_ev, fIsN_x, eLam_ev, gTupQ_ev, e2V_ev, fEq_in, fPopAt_r, fSorted_l, fSorted_t, fMaxL_l, fMinL_l, eListRg_ev, eTupRg_ev, rgP_ev, iRange3_ev, fIsB_b, fIndex_l, fCount_l, isLq_l, isLq_r, eMq_ev, isDct_r, eGet_ev, fGet_r, fDictP_l, fLenSetA_t, fLenSetA_l, eStep_ev, fStep_l, fStep_t, sForR_ev, eLcR_ev, iEnumD_ev, iZipD_ev, sAug_ev, sAugL_ev, fIxL_r, fSetL_r, fLenSet_t, fIsN_n, fIsN_i, fIsN_t, fIsN_l, fIsN_s, fIsN_r, fExt_l, fExt_t, fIx_l, fIx_t, fIx_r, fSetIx_r, new_ev, bnd_R, bndR_ok, bndR_ex, ret_ev, opt_some, hush_ev, hushR_ok, iteM, eVar_ev, lkup, eC_ev, e2_ev, e1_ev, e2D_ev, e1D_ev, e3D_ev, aNil_ev, aCons_ev, eTupN_ev, eLstN_ev, eIf_ev, eIx_ev, eCut_ev, oNone_ev, oSome_ev, eIsK_ev, eTuple_ev, eList_ev, eCall_ev, eCallL_ev, eCallT_ev, eM0_ev, eM1_ev, eM2_ev, eDict_ev, ePairs_nil, ePairs_cons, eChain_ev, tVal_ev, tAnd_ev, tOr_ev, tNot_ev, tYes_ev, eAnd_ev, eOr_ev, eNot_ev, eFrz_ev, iVal_ev, iRange_ev, iRange2_ev, sNil_ev, kSeq_nx, kSeq_rt, kSeq_bk, kSeq_ct, sCons_ev, sExpr_ev, sSet_ev, gSub_ev, sAsg_ev, sRet_ev, sRetN_ev, sIf_ev, sRaise_ev, sBreak_ev, sCont_ev, sPar2_ev, sPar3_ev, gName_ev, gTup_ev, gsFill_nil, gsFill_cons, sFor_ev, sWhile_ev, lcT_ev, eLc_ev, kBody_nx, kBody_rt, DL.start, see_p, List.set_cons_zero, List.set_cons_succ, List.map_cons, List.map_nil, List.cons_append, List.nil_append, List.length_cons, List.length_nil, List.replicate, Nat.reduceAdd, Nat.reduceSub, Nat.reduceEqDiff, if_true, if_false, Bool.false_eq_true, reduceIte, fAdd_i, fAdd_s, fAdd_t, fAdd_l, fSub_i, fMul_i, fMul_t, fMul_l, fDiv_i, fMod_i, fPow_i, fShr_i, fCmp_i, fNeg_i, fEq_i, fEq_s, fNe_i, fNe_s, fLen_l, fLen_t, fMax2_i, fMin2_i, fInt_i, fInt_b, fCut_l, fCut_t, mkP_t, mkP_f, mkL_f, mkL_t, toPs_nil, toPs_p, toPs_map, toPs_mapf, toP_p, fAll_l, fAny_l, fAll_m, fAny_m, all_true, fSum_l, fSum_t, fTuple_l, fTuple_t, fTuple_r, fList_l, fList_t, fList_r, fIsK_p, fRepr_ev, fApp_r, fPop_r, fIns_r, isL_r, items_t, elems_t, elems_l, mkTup, Option.map_some, e, e2, a0, a1, ix0, m1, m2, m3, ← hb0, hl0, decide_false, dm, d7, hp5, and_self, Int.reduceLT, Int.reduceLE]
  · have hl0 : (0 : Int) < (cs.length : Int) := by
      have := List.length_pos_iff.mpr hcs
      omega
    have hlog : (cs.length : Int).natAbs.log2 < 9000 := log_lt (Nat.lt_of_lt_of_le (by omega : (cs.length : Int).natAbs < 2 ^ 60) (Nat.pow_le_pow_right (by decide) (by decide))) (by decide)
    obtain ⟨x, hx⟩ := atL_mod hcs (k + 1)
    obtain ⟨q, hq⟩ : ∃ q, q = (k + 1) / (cs.length : Int) := ⟨_, rfl⟩
    have hq0 : 0 ≤ q := by rw [hq]; exact Int.ediv_nonneg (by omega) (by omega)
    have hq1 : q ≤ k + 1 := by rw [hq]; exact Int.ediv_le_self _ (by omega)
    have m4 : mulOk (x % 2147483629) (1 + q) = true := mulOk_s (by omega) (by omega)
    have hqr : q ≤ 16777216 ∧ -16777216 ≤ q ∨ ¬ q < 60 := by omega
    by_cases c1 : 1000000000000000000 ≤ x
    · by_cases c2 : q < 60
      · have hr : q ≤ 16777216 ∧ -16777216 ≤ q := by omega
        obtain ⟨y, w', hf⟩ := for_own (some (.p (.list (cs.map .int)))) (some (.ref n)) (some (.p (.int (k + 1)))) (some (.p (.int b0))) (S.set n (.lst [.p (.int (k + 1))])) ((List.range q.toNat).map fun i => .p (.int (i : Nat))) x none
        by_cases c3 : 0 < y
        · refine ⟨y % 306783379, _, Int.emod_nonneg _ (by decide), Int.emod_lt_of_pos _ (by decide), nxt, ?_⟩
          unfold r__law_cell
          simp only [body_ev, fInT_t, eIdxT_ev, isTq_t, fStrT_t, fNeN_l, fNeU_d, fNeU_t, fNeU_l, fNeU_i, fNeU_s, fNeU_b, fNeU_n, fEqU_d, fEqU_t, fEqU_l, fEqU_i, fEqU_s, fEqU_b, fEqU_n, isU_n, isU_c, fLeS_s, eD0_ev, fLen_s, fMul_s, fIx_s, eCutA_ev, fCutA_s, fCutA_l, fCutA_t, iStr_ev, iRangeD_ev, fLenD_r, gSl_ev, fSetSl_r, eDict0_ev, eMd1_ev, fUpd_r, Bool.false_xor, Bool.true_xor, Bool.not_true, Bool.not_false, eIsX_ev, fIsX_e, fIsX_n, eIsF_ev, fIsF_e, fIsF_n, eFld_ev, fIsN_x, eLam_ev, gTupQ_ev, e2V_ev, fEq_in, fPopAt_r, fSorted_l, fSorted_t, fMaxL_l, fMinL_l, eListRg_ev, eTupRg_ev, rgP_ev, iRange3_ev, fIsB_b, fIndex_l, fCount_l, isLq_l, isLq_r, eMq_ev, isDct_r, eGet_ev, fGet_r, fDictP_l, fLenSetA_t, fLenSetA_l, eStep_ev, fStep_l, fStep_t, sForR_ev, eLcR_ev, iEnumD_ev, iZipD_ev, sAug_ev, sAugL_ev, fIxL_r, fSetL_r, fLenSet_t, fIsN_n, fIsN_i, fIsN_t, fIsN_l, fIsN_s, fIsN_r, fExt_l, fExt_t, fIx_l, fIx_t, fIx_r, fSetIx_r, new_ev, bnd_R, bndR_ok, bndR_ex, ret_ev, opt_some, hush_ev, hushR_ok, iteM, eVar_ev, lkup, eC_ev, e2_ev, e1_ev, e2D_ev, e1D_ev, e3D_ev, aNil_ev, aCons_ev, eTupN_ev, eLstN_ev, eIf_ev, eIx_ev, eCut_ev, oNone_ev, oSome_ev, eIsK_ev, eTuple_ev, eList_ev, eCall_ev, eCallL_ev, eCallT_ev, eM0_ev, eM1_ev, eM2_ev, eDict_ev, ePairs_nil, ePairs_cons, eChain_ev, tVal_ev, tAnd_ev, tOr_ev, tNot_ev, tYes_ev, eAnd_ev, eOr_ev, eNot_ev, eFrz_ev, iVal_ev, iRange_ev, iRange2_ev, sNil_ev, kSeq_nx, kSeq_rt, kSeq_bk, kSeq_ct, sCons_ev, sExpr_ev, sSet_ev, gSub_ev, sAsg_ev, sRet_ev, sRetN_ev, sIf_ev, sRaise_ev, sBreak_ev, sCont_ev, sPar2_ev, sPar3_ev, gName_ev, gTup_ev, gsFill_nil, gsFill_cons, sFor_ev, sWhile_ev, lcT_ev, eLc_ev, kBody_nx, kBody_rt, DL.start, see_p, List.set_cons_zero, List.set_cons_succ, List.map_cons, List.map_nil, List.cons_append, List.nil_append, List.length_cons, List.length_nil, List.replicate, Nat.reduceAdd, Nat.reduceSub, Nat.reduceEqDiff, if_true, if_false, Bool.false_eq_true, reduceIte, fAdd_i, fAdd_s, fAdd_t, fAdd_l, fSub_i, fMul_i, fMul_t, fMul_l, fDiv_i, fMod_i, fPow_i, fShr_i, fCmp_i, fNeg_i, fEq_i, fEq_s, fNe_i, fNe_s, fLen_l, fLen_t, fMax2_i, fMin2_i, fInt_i, fInt_b, fCut_l, fCut_t, mkP_t, mkP_f, mkL_f, mkL_t, toPs_nil, toPs_p, toPs_map, toPs_mapf, toP_p, fAll_l, fAny_l, fAll_m, fAny_m, all_true, fSum_l, fSum_t, fTuple_l, fTuple_t, fTuple_r, fList_l, fList_t, fList_r, fIsK_p, fRepr_ev, fApp_r, fPop_r, fIns_r, isL_r, items_t, elems_t, elems_l, mkTup, Option.map_some, e, e2, a0, a1, ix0, m1, m2, m3, ← hb0, List.length_map, hl0, hlog, decide_true, dm3, hx, hpow, hpow2, and_self, ← hq, c1, c2, hr, hf, c3]
        · refine useB (b0 + x % 2147483629 * (1 + q)) ?_
          unfold r__law_cell
          simp only [body_ev, fInT_t, eIdxT_ev, isTq_t, fStrT_t, fNeN_l, fNeU_d, fNeU_t, fNeU_l, fNeU_i, fNeU_s, fNeU_b, fNeU_n, fEqU_d, fEqU_t, fEqU_l, fEqU_i, fEqU_s, fEqU_b, fEqU_n, isU_n, isU_c, fLeS_s, eD0_ev, fLen_s, fMul_s, fIx_s, eCutA_ev, fCutA_s, fCutA_l, fCutA_t, iStr_ev, iRangeD_ev, fLenD_r, gSl_ev, fSetSl_r, eDict0_ev, eMd1_ev, fUpd_r, Bool.false_xor, Bool.true_xor, Bool.not_true, Bool.not_false, eIsX_ev, fIsX_e, fIsX_n, eIsF_ev, fIsF_e, fIsF_n, eFld_ev, fIsN_x, eLam_ev, gTupQ_ev, e2V_ev, fEq_in, fPopAt_r, fSorted_l, fSorted_t, fMaxL_l, fMinL_l, eListRg_ev, eTupRg_ev, rgP_ev, iRange3_ev, fIsB_b, fIndex_l, fCount_l, isLq_l, isLq_r, eMq_ev, isDct_r, eGet_ev, fGet_r, fDictP_l, fLenSetA_t, fLenSetA_l, eStep_ev, fStep_l, fStep_t, sForR_ev, eLcR_ev, iEnumD_ev, iZipD_ev, sAug_ev, sAugL_ev, fIxL_r, fSetL_r, fLenSet_t, fIsN_n, fIsN_i, fIsN_t, fIsN_l, fIsN_s, fIsN_r, fExt_l, fExt_t, fIx_l, fIx_t, fIx_r, fSetIx_r, new_ev, bnd_R, bndR_ok, bndR_ex, ret_ev, opt_some, hush_ev, hushR_ok, iteM, eVar_ev, lkup, eC_ev, e2_ev, e1_ev, e2D_ev, e1D_ev, e3D_ev, aNil_ev, aCons_ev, eTupN_ev, eLstN_ev, eIf_ev, eIx_ev, eCut_ev, oNone_ev, oSome_ev, eIsK_ev, eTuple_ev, eList_ev, eCall_ev, eCallL_ev, eCallT_ev, eM0_ev, eM1_ev, eM2_ev, eDict_ev, ePairs_nil, ePairs_cons, eChain_ev, tVal_ev, tAnd_ev, tOr_ev, tNot_ev, tYes_ev, eAnd_ev, eOr_ev, eNot_ev, eFrz_ev, iVal_ev, iRange_ev, iRange2_ev, sNil_ev, kSeq_nx, kSeq_rt, kSeq_bk, kSeq_ct, sCons_ev, sExpr_ev, sSet_ev, gSub_ev, sAsg_ev, sRet_ev, sRetN_ev, sIf_ev, sRaise_ev, sBreak_ev, sCont_ev, sPar2_ev, sPar3_ev, gName_ev, gTup_ev, gsFill_nil, gsFill_cons, sFor_ev, sWhile_ev, lcT_ev, eLc_ev, kBody_nx, kBody_rt, DL.start, see_p, List.set_cons_zero, List.set_cons_succ, List.map_cons, List.map_nil, List.cons_append, List.nil_append, List.length_cons, List.length_nil, List.replicate, Nat.reduceAdd, Nat.reduceSub, Nat.reduceEqDiff, if_true, if_false, Bool.false_eq_true, reduceIte, fAdd_i, fAdd_s, fAdd_t, fAdd_l, fSub_i, fMul_i, fMul_t, fMul_l, fDiv_i, fMod_i, fPow_i, fShr_i, fCmp_i, fNeg_i, fEq_i, fEq_s, fNe_i, fNe_s, fLen_l, fLen_t, fMax2_i, fMin2_i, fInt_i, fInt_b, fCut_l, fCut_t, mkP_t, mkP_f, mkL_f, mkL_t, toPs_nil, toPs_p, toPs_map, toPs_mapf, toP_p, fAll_l, fAny_l, fAll_m, fAny_m, all_true, fSum_l, fSum_t, fTuple_l, fTuple_t, fTuple_r, fList_l, fList_t, fList_r, fIsK_p, fRepr_ev, fApp_r, fPop_r, fIns_r, isL_r, items_t, elems_t, elems_l, mkTup, Option.map_some, e, e2, a0, a1, ix0, m1, m2, m3, ← hb0, List.length_map, hl0, hlog, decide_true, decide_false, dm, dm2, dm3, d7, hp5, hx, hpow, hpow2, and_self, ← hq, c1, c2, hr, hf, c3, m4, Int.reduceLE]
      · refine useB (b0 + x % 2147483629 * (1 + q)) ?_
        unfold r__law_cell
        simp only [body_ev, fInT_t, eIdxT_ev, isTq_t, fStrT_t, fNeN_l, fNeU_d, fNeU_t, fNeU_l, fNeU_i, fNeU_s, fNeU_b, fNeU_n, fEqU_d, fEqU_t, fEqU_l, fEqU_i, fEqU_s, fEqU_b, fEqU_n, isU_n, isU_c, fLeS_s, eD0_ev, fLen_s, fMul_s, fIx_s, eCutA_ev, fCutA_s, fCutA_l, fCutA_t, iStr_ev, iRangeD_ev, fLenD_r, gSl_ev, fSetSl_r, eDict0_ev, eMd1_ev, fUpd_r, Bool.false_xor, Bool.true_xor, Bool.not_true, Bool.not_false, eIsX_ev, fIsX_e, fIsX_n, eIsF_ev, fIsF_e, fIsF_n, eFld_ev, fIsN_x, eLam_ev, gTupQ_ev, e2V_ev, fEq_in, fPopAt_r, fSorted_l, fSorted_t, fMaxL_l, fMinL_l, eListRg_ev, eTupRg_ev, rgP_ev, iRange3_ev, fIsB_b, fIndex_l, fCount_l, isLq_l, isLq_r, eMq_ev, isDct_r, eGet_ev, fGet_r, fDictP_l, fLenSetA_t, fLenSetA_l, eStep_ev, fStep_l, fStep_t, sForR_ev, eLcR_ev, iEnumD_ev, iZipD_ev, sAug_ev, sAugL_ev, fIxL_r, fSetL_r, fLenSet_t, fIsN_n, fIsN_i, fIsN_t, fIsN_l, fIsN_s, fIsN_r, fExt_l, fExt_t, fIx_l, fIx_t, fIx_r, fSetIx_r, new_ev, bnd_R, bndR_ok, bndR_ex, ret_ev, opt_some, hush_ev, hushR_ok, iteM, eVar_ev, lkup, eC_ev, e2_ev, e1_ev, e2D_ev, e1D_ev, e3D_ev, aNil_ev, aCons_ev, eTupN_ev, eLstN_ev, eIf_ev, eIx_ev, eCut_ev, oNone_ev, oSome_ev, eIsK_ev, eTuple_ev, eList_ev, eCall_ev, eCallL_ev, eCallT_ev, eM0_ev, eM1_ev, eM2_ev, eDict_ev, ePairs_nil, ePairs_cons, eChain_ev, tVal_ev, tAnd_ev, tOr_ev, tNot_ev, tYes_ev, eAnd_ev, eOr_ev, eNot_ev, eFrz_ev, iVal_ev, iRange_ev, iRange2_ev, sNil_ev, kSeq_nx, kSeq_rt, kSeq_bk, kSeq_ct, sCons_ev, sExpr_ev, sSet_ev, gSub_ev, sAsg_ev, sRet_ev, sRetN_ev, sIf_ev, sRaise_ev, sBreak_ev, sCont_ev, sPar2_ev, sPar3_ev, gName_ev, gTup_ev, gsFill_nil, gsFill_cons, sFor_ev, sWhile_ev, lcT_ev, eLc_ev, kBody_nx, kBody_rt, DL.start, see_p, List.set_cons_zero, List.set_cons_succ, List.map_cons, List.map_nil, List.cons_append, List.nil_append, List.length_cons, List.length_nil, List.replicate, Nat.reduceAdd, Nat.reduceSub, Nat.reduceEqDiff, if_true, if_false, Bool.false_eq_true, reduceIte, fAdd_i, fAdd_s, fAdd_t, fAdd_l, fSub_i, fMul_i, fMul_t, fMul_l, fDiv_i, fMod_i, fPow_i, fShr_i, fCmp_i, fNeg_i, fEq_i, fEq_s, fNe_i, fNe_s, fLen_l, fLen_t, fMax2_i, fMin2_i, fInt_i, fInt_b, fCut_l, fCut_t, mkP_t, mkP_f, mkL_f, mkL_t, toPs_nil, toPs_p, toPs_map, toPs_mapf, toP_p, fAll_l, fAny_l, fAll_m, fAny_m, all_true, fSum_l, fSum_t, fTuple_l, fTuple_t, fTuple_r, fList_l, fList_t, fList_r, fIsK_p, fRepr_ev, fApp_r, fPop_r, fIns_r, isL_r, items_t, elems_t, elems_l, mkTup, Option.map_some, e, e2, a0, a1, ix0, m1, m2, m3, ← hb0, List.length_map, hl0, hlog, decide_true, decide_false, dm, dm2, d7, hp5, hx, hpow, hpow2, and_self, ← hq, c1, c2, m4, Int.reduceLE]
    · refine useB (b0 + x % 2147483629 * (1 + q)) ?_
      unfold r__law_cell
      simp only [body_ev, fInT_t, eIdxT_ev, isTq_t, fStrT_t, fNeN_l, fNeU_d, fNeU_t, fNeU_l, fNeU_i, fNeU_s, fNeU_b, fNeU_n, fEqU_d, fEqU_t, fEqU_l, fEqU_i, fEqU_s, fEqU_b, fEqU_n, isU_n, isU_c, fLeS_s, eD0_ev, fLen_s, fMul_s, fIx_s, eCutA_ev, fCutA_s, fCutA_l, fCutA_t, iStr_ev, iRangeD_ev, fLenD_r, gSl_ev, fSetSl_r, eDict0_ev, eMd1_ev, fUpd_r, Bool.false_xor, Bool.true_xor, Bool.not_true, Bool.not_false, eIsX_ev, fIsX_e, fIsX_n, eIsF_ev, fIsF_e, fIsF_n, eFld_ev, fIsN_x, eLam_ev, gTupQ_ev, e2V_ev, fEq_in, fPopAt_r, fSorted_l, fSorted_t, fMaxL_l, fMinL_l, eListRg_ev, eTupRg_ev, rgP_ev, iRange3_ev, fIsB_b, fIndex_l, fCount_l, isLq_l, isLq_r, eMq_ev, isDct_r, eGet_ev, fGet_r, fDictP_l, fLenSetA_t, fLenSetA_l, eStep_ev, fStep_l, fStep_t, sForR_ev, eLcR_ev, iEnumD_ev, iZipD_ev, sAug_ev, sAugL_ev, fIxL_r, fSetL_r, fLenSet_t, fIsN_n, fIsN_i, fIsN_t, fIsN_l, fIsN_s, fIsN_r, fExt_l, fExt_t, fIx_l, fIx_t, fIx_r, fSetIx_r, new_ev, bnd_R, bndR_ok, bndR_ex, ret_ev, opt_some, hush_ev, hushR_ok, iteM, eVar_ev, lkup, eC_ev, e2_ev, e1_ev, e2D_ev, e1D_ev, e3D_ev, aNil_ev, aCons_ev, eTupN_ev, eLstN_ev, eIf_ev, eIx_ev, eCut_ev, oNone_ev, oSome_ev, eIsK_ev, eTuple_ev, eList_ev, eCall_ev, eCallL_ev, eCallT_ev, eM0_ev, eM1_ev, eM2_ev, eDict_ev, ePairs_nil, ePairs_cons, eChain_ev, tVal_ev, tAnd_ev, tOr_ev, tNot_ev, tYes_ev, eAnd_ev, eOr_ev, eNot_ev, eFrz_ev, iVal_ev, iRange_ev, iRange2_ev, sNil_ev, kSeq_nx, kSeq_rt, kSeq_bk, kSeq_ct, sCons_ev, sExpr_ev, sSet_ev, gSub_ev, sAsg_ev, sRet_ev, sRetN_ev, sIf_ev, sRaise_ev, sBreak_ev, sCont_ev, sPar2_ev, sPar3_ev, gName_ev, gTup_ev, gsFill_nil, gsFill_cons, sFor_ev, sWhile_ev, lcT_ev, eLc_ev, kBody_nx, kBody_rt, DL.start, see_p, List.set_cons_zero, List.set_cons_succ, List.map_cons, List.map_nil, List.cons_append, List.nil_append, List.length_cons, List.length_nil, List.replicate, Nat.reduceAdd, Nat.reduceSub, Nat.reduceEqDiff, if_true, if_false, Bool.false_eq_true, reduceIte, fAdd_i, fAdd_s, fAdd_t, fAdd_l, fSub_i, fMul_i, fMul_t, fMul_l, fDiv_i, fMod_i, fPow_i, fShr_i, fCmp_i, fNeg_i, fEq_i, fEq_s, fNe_i, fNe_s, fLen_l, fLen_t, fMax2_i, fMin2_i, fInt_i, fInt_b, fCut_l, fCut_t, mkP_t, mkP_f, mkL_f, mkL_t, toPs_nil, toPs_p, toPs_map, toPs_mapf, toP_p, fAll_l, fAny_l, fAll_m, fAny_m, all_true, fSum_l, fSum_t, fTuple_l, fTuple_t, fTuple_r, fList_l, fList_t, fList_r, fIsK_p, fRepr_ev, fApp_r, fPop_r, fIns_r, isL_r, items_t, elems_t, elems_l, mkTup, Option.map_some, e, e2, a0, a1, ix0, m1, m2, m3, ← hb0, List.length_map, hl0, hlog, decide_true, decide_false, dm, dm2, d7, hp5, hx, hpow, hpow2, and_self, ← hq, c1, m4, Int.reduceLE]
end Pk55

namespace Pk55
open PySem DL
theorem div6 : (0 : Int) < 6 ∧ (6 : Int).natAbs.log2 < 9000 := by decide
theorem ok_many {n : Nat} {c : Int} {S : Sto} (cs : List Int) (h : Sp n c S) (hc : c ≤ 2 ^ 30) (hl : cs.length ≤ 63) : ∃ m S', 0 ≤ m ∧ m ≤ 60 ∧ Nx n (c + 1) S S' ∧ r__law_many [.p (.list (cs.map .int)), .ref n] S = .ok (.p (.int m)) S' := by
  obtain ⟨r, S1, a1, b1, N1, q1⟩ := ok_cell cs h hc hl
  obtain ⟨m, hm, m0, m1⟩ : ∃ m, atL [PyData.int (r / 6 % 13), .int (r / 6 % 61), .int 60, .int (r / 6 % 30), .int 0, .int (1 + r / 6 % 5)] (r % 6) = some (.int m) ∧ 0 ≤ m ∧ m ≤ 60 := by
    have : r % 6 = 0 ∨ r % 6 = 1 ∨ r % 6 = 2 ∨ r % 6 = 3 ∨ r % 6 = 4 ∨ r % 6 = 5 := by omega
    rcases this with e | e | e | e | e | e <;> rw [e]
    · exact ⟨r / 6 % 13, rfl, by omega, by omega⟩
    · exact ⟨r / 6 % 61, rfl, by omega, by omega⟩
    · exact ⟨60, rfl, by omega, by omega⟩
    · exact ⟨r / 6 % 30, rfl, by omega, by omega⟩
    · exact ⟨0, rfl, by omega, by omega⟩
    · exact ⟨1 + r / 6 % 5, rfl, by omega, by omega⟩
  refine ⟨m, S1, m0, m1, N1, ?_⟩
  have d6 := div6
  unfold r__law_many
  simp only [body_ev, fInT_t, eIdxT_ev, isTq_t, fStrT_t, fNeN_l, fNeU_d, fNeU_t, fNeU_l, fNeU_i, fNeU_s, fNeU_b, fNeU_n, fEqU_d, fEqU_t, fEqU_l, fEqU_i, fEqU_s, fEqU_b, fEqU_n, isU_n, isU_c, fLeS_s, eD0_ev, fLen_s, fMul_s, fIx_s, eCutA_ev, fCutA_s, fCutA_l, fCutA_t, iStr_ev, iRangeD_ev, fLenD_r, gSl_ev, fSetSl_r, eDict0_ev, eMd1_ev, fUpd_r, Bool.false_xor, Bool.true_xor, Bool.not_true, Bool.not_false, eIsX_ev, fIsX_e, fIsX_n, eIsF_ev, fIsF_e, fIsF_n, eFld_ev, fIsN_x, eLam_ev, gTupQ_ev, e2V_ev, fEq_in, fPopAt_r, fSorted_l, fSorted_t, fMaxL_l, fMinL_l, eListRg_ev, eTupRg_ev, rgP_ev, iRange3_ev, fIsB_b, fIndex_l, fCount_l, isLq_l, isLq_r, eMq_ev, isDct_r, eGet_ev, fGet_r, fDictP_l, fLenSetA_t, fLenSetA_l, eStep_ev, fStep_l, fStep_t, sForR_ev, eLcR_ev, iEnumD_ev, iZipD_ev, sAug_ev, sAugL_ev, fIxL_r, fSetL_r, fLenSet_t, fIsN_n, fIsN_i, fIsN_t, fIsN_l, fIsN_s, fIsN_r, fExt_l, fExt_t, fIx_l, fIx_t, fIx_r, fSetIx_r, new_ev, bnd_R, bndR_ok, bndR_ex, ret_ev, opt_some, hush_ev, hushR_ok, iteM, eVar_ev, lkup, eC_ev, e2_ev, e1_ev, e2D_ev, e1D_ev, e3D_ev, aNil_ev, aCons_ev, eTupN_ev, eLstN_ev, eIf_ev, eIx_ev, eCut_ev, oNone_ev, oSome_ev, eIsK_ev, eTuple_ev, eList_ev, eCall_ev, eCallL_ev, eCallT_ev, eM0_ev, eM1_ev, eM2_ev, eDict_ev, ePairs_nil, ePairs_cons, eChain_ev, tVal_ev, tAnd_ev, tOr_ev, tNot_ev, tYes_ev, eAnd_ev, eOr_ev, eNot_ev, eFrz_ev, iVal_ev, iRange_ev, iRange2_ev, sNil_ev, kSeq_nx, kSeq_rt, kSeq_bk, kSeq_ct, sCons_ev, sExpr_ev, sSet_ev, gSub_ev, sAsg_ev, sRet_ev, sRetN_ev, sIf_ev, sRaise_ev, sBreak_ev, sCont_ev, sPar2_ev, sPar3_ev, gName_ev, gTup_ev, gsFill_nil, gsFill_cons, sFor_ev, sWhile_ev, lcT_ev, eLc_ev, kBody_nx, kBody_rt, DL.start, see_p, List.set_cons_zero, List.set_cons_succ, List.map_cons, List.map_nil, List.cons_append, List.nil_append, List.length_cons, List.length_nil, List.replicate, Nat.reduceAdd, Nat.reduceSub, Nat.reduceEqDiff, if_true, if_false, Bool.false_eq_true, reduceIte, fAdd_i, fAdd_s, fAdd_t, fAdd_l, fSub_i, fMul_i, fMul_t, fMul_l, fDiv_i, fMod_i, fPow_i, fShr_i, fCmp_i, fNeg_i, fEq_i, fEq_s, fNe_i, fNe_s, fLen_l, fLen_t, fMax2_i, fMin2_i, fInt_i, fInt_b, fCut_l, fCut_t, mkP_t, mkP_f, mkL_f, mkL_t, toPs_nil, toPs_p, toPs_map, toPs_mapf, toP_p, fAll_l, fAny_l, fAll_m, fAny_m, all_true, fSum_l, fSum_t, fTuple_l, fTuple_t, fTuple_r, fList_l, fList_t, fList_r, fIsK_p, fRepr_ev, fApp_r, fPop_r, fIns_r, isL_r, items_t, elems_t, elems_l, mkTup, Option.map_some, q1, d6, and_self, Int.reduceLT, hm]
def steps : List Int := [3, 7, 9, 11, 13, 17, 19, 21, 23, 27, 29, 31, 33, 37, 39, 41, 99, 1]
theorem step_inj (s : Int) (hs : s ∈ steps) (r : Int) (i j : Nat) (hi : i < 60) (hj : j < 60) (h : (r + s * (i : Int)) % 100 = (r + s * (j : Int)) % 100) : i = j := by
  simp only [steps, List.mem_cons, List.mem_nil_iff, or_false] at hs
  rcases hs with rfl | rfl | rfl | rfl | rfl | rfl | rfl | rfl | rfl | rfl | rfl | rfl | rfl | rfl | rfl | rfl | rfl | rfl <;> omega
theorem ok_order {n : Nat} {c m : Int} {S : Sto} (cs : List Int) (h : Sp n c S) (hc : c ≤ 2 ^ 30) (hl : cs.length ≤ 63) (h0 : 0 ≤ m) (h1 : m ≤ 60) : ∃ xs S', GoodO xs ∧ Nx n (c + 1) S S' ∧ r__law_order [.p (.list (cs.map .int)), .ref n, .p (.int m)] S = .ok (.p (.tuple (xs.map .int))) S' := by
  obtain ⟨r, S1, a1, b1, N1, q1⟩ := ok_cell cs h hc hl
  have hst := atL_in (steps.map PyData.int) (r / 100 % 18) (by omega) (by show r / 100 % 18 < 18; omega)
  obtain ⟨s, hs, hat⟩ : ∃ s, s ∈ steps ∧ atL (steps.map PyData.int) (r / 100 % 18) = some (.int s) := by
    rw [hst]
    exact ⟨_, List.getElem_mem (l := steps) (n := (r / 100 % 18).toNat) (by show (r / 100 % 18).toNat < 18; omega), by rw [List.getElem_map]⟩
  have hat' : atL [PyData.int 3, .int 7, .int 9, .int 11, .int 13, .int 17, .int 19, .int 21, .int 23, .int 27, .int 29, .int 31, .int 33, .int 37, .int 39, .int 41, .int 99, .int 1] (r / 100 % 18) = some (.int s) := hat
  have hm : m ≤ 16777216 ∧ -16777216 ≤ m := by omega
  have sb : 1 ≤ s ∧ s ≤ 99 := by
    simp only [steps, List.mem_cons, List.mem_nil_iff, or_false] at hs
    omega
  have d100 : (0 : Int) < 100 ∧ (100 : Int).natAbs.log2 < 9000 := by decide
  have lc := lc_map (g := gName 5) (t := tYes) (e := c1__law_order) (env := [some (.p (.list (cs.map .int))), some (.ref n), some (.p (.int m)), some (.p (.int r)), some (.p (.int s)), none]) (S := S1) (f := fun i : Nat => D.p (.int (i : Nat))) (h := fun i => some (.p (.int ((r + s * (i : Nat)) % 100)))) (List.range m.toNat) (fun x hx => by
    have hx2 : x < m.toNat := List.mem_range.mp hx
    have mo : mulOk s (x : Int) = true := mulOk_s (by omega) (by omega)
    simp only [body_ev, fInT_t, eIdxT_ev, isTq_t, fStrT_t, fNeN_l, fNeU_d, fNeU_t, fNeU_l, fNeU_i, fNeU_s, fNeU_b, fNeU_n, fEqU_d, fEqU_t, fEqU_l, fEqU_i, fEqU_s, fEqU_b, fEqU_n, isU_n, isU_c, fLeS_s, eD0_ev, fLen_s, fMul_s, fIx_s, eCutA_ev, fCutA_s, fCutA_l, fCutA_t, iStr_ev, iRangeD_ev, fLenD_r, gSl_ev, fSetSl_r, eDict0_ev, eMd1_ev, fUpd_r, Bool.false_xor, Bool.true_xor, Bool.not_true, Bool.not_false, eIsX_ev, fIsX_e, fIsX_n, eIsF_ev, fIsF_e, fIsF_n, eFld_ev, fIsN_x, eLam_ev, gTupQ_ev, e2V_ev, fEq_in, fPopAt_r, fSorted_l, fSorted_t, fMaxL_l, fMinL_l, eListRg_ev, eTupRg_ev, rgP_ev, iRange3_ev, fIsB_b, fIndex_l, fCount_l, isLq_l, isLq_r, eMq_ev, isDct_r, eGet_ev, fGet_r, fDictP_l, fLenSetA_t, fLenSetA_l, eStep_ev, fStep_l, fStep_t, sForR_ev, eLcR_ev, iEnumD_ev, iZipD_ev, sAug_ev, sAugL_ev, fIxL_r, fSetL_r, fLenSet_t, fIsN_n, fIsN_i, fIsN_t, fIsN_l, fIsN_s, fIsN_r, fExt_l, fExt_t, fIx_l, fIx_t, fIx_r, fSetIx_r, new_ev, bnd_R, bndR_ok, bndR_ex, ret_ev, opt_some, hush_ev, hushR_ok, iteM, eVar_ev, lkup, eC_ev, e2_ev, e1_ev, e2D_ev, e1D_ev, e3D_ev, aNil_ev, aCons_ev, eTupN_ev, eLstN_ev, eIf_ev, eIx_ev, eCut_ev, oNone_ev, oSome_ev, eIsK_ev, eTuple_ev, eList_ev, eCall_ev, eCallL_ev, eCallT_ev, eM0_ev, eM1_ev, eM2_ev, eDict_ev, ePairs_nil, ePairs_cons, eChain_ev, tVal_ev, tAnd_ev, tOr_ev, tNot_ev, tYes_ev, eAnd_ev, eOr_ev, eNot_ev, eFrz_ev, iVal_ev, iRange_ev, iRange2_ev, sNil_ev, kSeq_nx, kSeq_rt, kSeq_bk, kSeq_ct, sCons_ev, sExpr_ev, sSet_ev, gSub_ev, sAsg_ev, sRet_ev, sRetN_ev, sIf_ev, sRaise_ev, sBreak_ev, sCont_ev, sPar2_ev, sPar3_ev, gName_ev, gTup_ev, gsFill_nil, gsFill_cons, sFor_ev, sWhile_ev, lcT_ev, eLc_ev, kBody_nx, kBody_rt, DL.start, see_p, List.set_cons_zero, List.set_cons_succ, List.map_cons, List.map_nil, List.cons_append, List.nil_append, List.length_cons, List.length_nil, List.replicate, Nat.reduceAdd, Nat.reduceSub, Nat.reduceEqDiff, if_true, if_false, Bool.false_eq_true, reduceIte, fAdd_i, fAdd_s, fAdd_t, fAdd_l, fSub_i, fMul_i, fMul_t, fMul_l, fDiv_i, fMod_i, fPow_i, fShr_i, fCmp_i, fNeg_i, fEq_i, fEq_s, fNe_i, fNe_s, fLen_l, fLen_t, fMax2_i, fMin2_i, fInt_i, fInt_b, fCut_l, fCut_t, mkP_t, mkP_f, mkL_f, mkL_t, toPs_nil, toPs_p, toPs_map, toPs_mapf, toP_p, fAll_l, fAny_l, fAll_m, fAny_m, all_true, fSum_l, fSum_t, fTuple_l, fTuple_t, fTuple_r, fList_l, fList_t, fList_r, fIsK_p, fRepr_ev, fApp_r, fPop_r, fIns_r, isL_r, items_t, elems_t, elems_l, mkTup, Option.map_some, c1__law_order_ev, mo, d100])
  refine ⟨(List.range m.toNat).map fun i => (r + s * (i : Nat)) % 100, S1, ⟨by simp; omega, fun x hx => ?_, ?_⟩, N1, ?_⟩
  · obtain ⟨i, _, rfl⟩ := List.mem_map.mp hx
    omega
  · refine List.pairwise_map.mpr (List.Pairwise.imp_of_mem (fun {i j} hi hj hij e => hij (step_inj s hs r i j ?_ ?_ e)) List.nodup_range)
    · have := List.mem_range.mp hi; omega
    · have := List.mem_range.mp hj; omega
  · unfold r__law_order
    simp only [body_ev, fInT_t, eIdxT_ev, isTq_t, fStrT_t, fNeN_l, fNeU_d, fNeU_t, fNeU_l, fNeU_i, fNeU_s, fNeU_b, fNeU_n, fEqU_d, fEqU_t, fEqU_l, fEqU_i, fEqU_s, fEqU_b, fEqU_n, isU_n, isU_c, fLeS_s, eD0_ev, fLen_s, fMul_s, fIx_s, eCutA_ev, fCutA_s, fCutA_l, fCutA_t, iStr_ev, iRangeD_ev, fLenD_r, gSl_ev, fSetSl_r, eDict0_ev, eMd1_ev, fUpd_r, Bool.false_xor, Bool.true_xor, Bool.not_true, Bool.not_false, eIsX_ev, fIsX_e, fIsX_n, eIsF_ev, fIsF_e, fIsF_n, eFld_ev, fIsN_x, eLam_ev, gTupQ_ev, e2V_ev, fEq_in, fPopAt_r, fSorted_l, fSorted_t, fMaxL_l, fMinL_l, eListRg_ev, eTupRg_ev, rgP_ev, iRange3_ev, fIsB_b, fIndex_l, fCount_l, isLq_l, isLq_r, eMq_ev, isDct_r, eGet_ev, fGet_r, fDictP_l, fLenSetA_t, fLenSetA_l, eStep_ev, fStep_l, fStep_t, sForR_ev, eLcR_ev, iEnumD_ev, iZipD_ev, sAug_ev, sAugL_ev, fIxL_r, fSetL_r, fLenSet_t, fIsN_n, fIsN_i, fIsN_t, fIsN_l, fIsN_s, fIsN_r, fExt_l, fExt_t, fIx_l, fIx_t, fIx_r, fSetIx_r, new_ev, bnd_R, bndR_ok, bndR_ex, ret_ev, opt_some, hush_ev, hushR_ok, iteM, eVar_ev, lkup, eC_ev, e2_ev, e1_ev, e2D_ev, e1D_ev, e3D_ev, aNil_ev, aCons_ev, eTupN_ev, eLstN_ev, eIf_ev, eIx_ev, eCut_ev, oNone_ev, oSome_ev, eIsK_ev, eTuple_ev, eList_ev, eCall_ev, eCallL_ev, eCallT_ev, eM0_ev, eM1_ev, eM2_ev, eDict_ev, ePairs_nil, ePairs_cons, eChain_ev, tVal_ev, tAnd_ev, tOr_ev, tNot_ev, tYes_ev, eAnd_ev, eOr_ev, eNot_ev, eFrz_ev, iVal_ev, iRange_ev, iRange2_ev, sNil_ev, kSeq_nx, kSeq_rt, kSeq_bk, kSeq_ct, sCons_ev, sExpr_ev, sSet_ev, gSub_ev, sAsg_ev, sRet_ev, sRetN_ev, sIf_ev, sRaise_ev, sBreak_ev, sCont_ev, sPar2_ev, sPar3_ev, gName_ev, gTup_ev, gsFill_nil, gsFill_cons, sFor_ev, sWhile_ev, lcT_ev, eLc_ev, kBody_nx, kBody_rt, DL.start, see_p, List.set_cons_zero, List.set_cons_succ, List.map_cons, List.map_nil, List.cons_append, List.nil_append, List.length_cons, List.length_nil, List.replicate, Nat.reduceAdd, Nat.reduceSub, Nat.reduceEqDiff, if_true, if_false, Bool.false_eq_true, reduceIte, fAdd_i, fAdd_s, fAdd_t, fAdd_l, fSub_i, fMul_i, fMul_t, fMul_l, fDiv_i, fMod_i, fPow_i, fShr_i, fCmp_i, fNeg_i, fEq_i, fEq_s, fNe_i, fNe_s, fLen_l, fLen_t, fMax2_i, fMin2_i, fInt_i, fInt_b, fCut_l, fCut_t, mkP_t, mkP_f, mkL_f, mkL_t, toPs_nil, toPs_p, toPs_map, toPs_mapf, toP_p, fAll_l, fAny_l, fAll_m, fAny_m, all_true, fSum_l, fSum_t, fTuple_l, fTuple_t, fTuple_r, fList_l, fList_t, fList_r, fIsK_p, fRepr_ev, fApp_r, fPop_r, fIns_r, isL_r, items_t, elems_t, elems_l, mkTup, Option.map_some, q1, d100, and_self, Int.reduceLT, hat', hm, DL.wipe, lc, List.filterMap_eq_map', List.map_map, Function.comp_def]
end Pk55

namespace Pk55
open PySem DL
abbrev DI (l : List Int) : List D := l.map fun x => .p (.int x)
def GoodD (zs : List Int) : Prop := 1 ≤ zs.length ∧ zs.length ≤ 16 ∧ ∀ z ∈ zs, 0 ≤ z ∧ z ≤ 7
theorem ok_draft {n : Nat} {c : Int} {S : Sto} (cs : List Int) (h : Sp n c S) (hc : c ≤ 2 ^ 29) (hl : cs.length ≤ 63) : ∃ zs S', GoodD zs ∧ Sp n (c + 2) S' ∧ r__law_draft [.p (.list (cs.map .int)), .ref n] S = .ok (.p (.tuple (zs.map .int))) S' := by
  obtain ⟨r, S1, a1, b1, N1, q1⟩ := ok_cell cs h (by omega) hl
  obtain ⟨t, S2, a2, b2, N2, q2⟩ := ok_cell cs N1.sp (by omega) hl
  have hn : n < S2.length := by obtain ⟨k, e, _⟩ := N2.sp; exact (List.getElem?_eq_some_iff.mp e).1
  obtain ⟨m, hm⟩ : ∃ m, m = S2.length := ⟨_, rfl⟩
  obtain ⟨w, hw, w0, w1⟩ : ∃ w, atL [PyData.int (1 + r / 4 % 16), .int 16, .int 1, .int (2 + r / 4 % 7)] (r % 4) = some (.int w) ∧ 1 ≤ w ∧ w ≤ 16 := by
    have : r % 4 = 0 ∨ r % 4 = 1 ∨ r % 4 = 2 ∨ r % 4 = 3 := by omega
    rcases this with e | e | e | e <;> rw [e]
    · exact ⟨_, rfl, by omega, by omega⟩
    · exact ⟨_, rfl, by omega, by omega⟩
    · exact ⟨_, rfl, by omega, by omega⟩
    · exact ⟨_, rfl, by omega, by omega⟩
  have hwr : w ≤ 16777216 ∧ -16777216 ≤ w := by omega
  have d4 : (0 : Int) < 4 ∧ (4 : Int).natAbs.log2 < 9000 := by decide
  have d64 : (0 : Int) < 64 ∧ (64 : Int).natAbs.log2 < 9000 := by decide
  have d512 : (0 : Int) < 512 ∧ (512 : Int).natAbs.log2 < 9000 := by decide
  have d4096 : (0 : Int) < 4096 ∧ (4096 : Int).natAbs.log2 < 9000 := by decide
  have d32768 : (0 : Int) < 32768 ∧ (32768 : Int).natAbs.log2 < 9000 := by decide
  have d2 : (0 : Int) < 2 ∧ (2 : Int).natAbs.log2 < 9000 := by decide
  obtain ⟨u, hu⟩ : ∃ u, u = r / 64 % 8 := ⟨_, rfl⟩
  obtain ⟨v, hv⟩ : ∃ v, v = r / 512 % 8 := ⟨_, rfl⟩
  have hS0 : (S2 ++ [Ob.lst []])[m]? = some (.lst (DI [])) := by rw [hm]; simp
  have hsp0 : Sp n (c + 2) (S2 ++ [Ob.lst []]) := by
    obtain ⟨k, e, k0, k1⟩ := N2.sp
    exact ⟨k, by rw [List.getElem?_append_left hn]; exact e, k0, by omega⟩
  obtain ⟨env', S', q3, zs, w7, w8, hlz, hz, rfl, L, A⟩ := for_all (g := gName 7) (b := b1__law_draft) (I := fun i env S' => ∃ (zs : List Int) (w7 w8 : Option D), zs.length = i ∧ (∀ z ∈ zs, 0 ≤ z ∧ z ≤ 7) ∧ env = [some (.p (.list (cs.map .int))), some (.ref n), some (.p (.int r)), some (.p (.int t)), some (.p (.int w)), some (.p (.list [.int 0, .int 7, .int u, .int v])), some (.ref m), w7, w8] ∧ S'[m]? = some (.lst (DI zs)) ∧ Sp n (c + 2) S')
    ((List.range w.toNat).map fun i => .p (.int (i : Nat))) (env := [some (.p (.list (cs.map .int))), some (.ref n), some (.p (.int r)), some (.p (.int t)), some (.p (.int w)), some (.p (.list [.int 0, .int 7, .int u, .int v])), some (.ref m), none, none]) (S := S2 ++ [.lst []]) ⟨[], none, none, rfl, (fun z hz => by simp at hz), rfl, hS0, hsp0⟩ (fun i x env S' hx hi => by
      obtain ⟨zs, w7, w8, hlz, hz, rfl, L, A⟩ := hi
      have hi : i < w.toNat := by
        have := (List.getElem?_eq_some_iff.mp hx).1
        simpa using this
      rw [List.getElem?_map, List.getElem?_range hi] at hx
      cases hx
      have dk : (0 : Int) < (i : Int) + 1 ∧ ((i : Int) + 1).natAbs.log2 < 9000 := ⟨by omega, log_lt (Nat.lt_of_lt_of_le (by omega : ((i : Int) + 1).natAbs < 2 ^ 60) (Nat.pow_le_pow_right (by decide) (by decide))) (by decide)⟩
      have mo : mulOk (i : Int) (r / 4096 % 8) = true := mulOk_s (by omega) (by omega)
      obtain ⟨o, ho⟩ : ∃ o, o = (t / ((i : Int) + 1) + (i : Int) * (r / 4096 % 8)) % 8 := ⟨_, rfl⟩
      obtain ⟨y, hy, y0, y1⟩ : ∃ y, atL [PyData.int 0, .int 7, .int u, .int v] (o / 2) = some (.int y) ∧ 0 ≤ y ∧ y ≤ 7 := by
        have : o / 2 = 0 ∨ o / 2 = 1 ∨ o / 2 = 2 ∨ o / 2 = 3 := by omega
        rcases this with e | e | e | e <;> rw [e]
        · exact ⟨0, rfl, by omega, by omega⟩
        · exact ⟨7, rfl, by omega, by omega⟩
        · exact ⟨u, rfl, by omega, by omega⟩
        · exact ⟨v, rfl, by omega, by omega⟩
      obtain ⟨z, hzz, z0, z1⟩ : ∃ z, atL [PyData.int o, .int o, .int y, .int ((i : Int) % 8)] (r / 32768 % 4) = some (.int z) ∧ 0 ≤ z ∧ z ≤ 7 := by
        have : r / 32768 % 4 = 0 ∨ r / 32768 % 4 = 1 ∨ r / 32768 % 4 = 2 ∨ r / 32768 % 4 = 3 := by omega
        rcases this with e | e | e | e <;> rw [e]
        · exact ⟨o, rfl, by omega, by omega⟩
        · exact ⟨o, rfl, by omega, by omega⟩
        · exact ⟨y, rfl, by omega, by omega⟩
        · exact ⟨(i : Int) % 8, rfl, by omega, by omega⟩
      have hb : zs.length < big := by unfold big; omega
      have hmS : m < S'.length := (List.getElem?_eq_some_iff.mp L).1
      have hmn : m ≠ n := by omega
      have e9 : DI zs ++ [D.p (.int z)] = DI (zs ++ [z]) := by simp [DI]
      have i8 : (0 : Int) < 8 := by decide
      refine ⟨_, S'.set m (.lst (DI (zs ++ [z]))), ?_, zs ++ [z], some (.p (.int (i : Nat))), some (.p (.int o)), by simp [hlz], fun q hq => ?_, rfl, List.getElem?_set_self hmS, ?_⟩
      · simp only [body_ev, fInT_t, eIdxT_ev, isTq_t, fStrT_t, fNeN_l, fNeU_d, fNeU_t, fNeU_l, fNeU_i, fNeU_s, fNeU_b, fNeU_n, fEqU_d, fEqU_t, fEqU_l, fEqU_i, fEqU_s, fEqU_b, fEqU_n, isU_n, isU_c, fLeS_s, eD0_ev, fLen_s, fMul_s, fIx_s, eCutA_ev, fCutA_s, fCutA_l, fCutA_t, iStr_ev, iRangeD_ev, fLenD_r, gSl_ev, fSetSl_r, eDict0_ev, eMd1_ev, fUpd_r, Bool.false_xor, Bool.true_xor, Bool.not_true, Bool.not_false, eIsX_ev, fIsX_e, fIsX_n, eIsF_ev, fIsF_e, fIsF_n, eFld_ev, fIsN_x, eLam_ev, gTupQ_ev, e2V_ev, fEq_in, fPopAt_r, fSorted_l, fSorted_t, fMaxL_l, fMinL_l, eListRg_ev, eTupRg_ev, rgP_ev, iRange3_ev, fIsB_b, fIndex_l, fCount_l, isLq_l, isLq_r, eMq_ev, isDct_r, eGet_ev, fGet_r, fDictP_l, fLenSetA_t, fLenSetA_l, eStep_ev, fStep_l, fStep_t, sForR_ev, eLcR_ev, iEnumD_ev, iZipD_ev, sAug_ev, sAugL_ev, fIxL_r, fSetL_r, fLenSet_t, fIsN_n, fIsN_i, fIsN_t, fIsN_l, fIsN_s, fIsN_r, fExt_l, fExt_t, fIx_l, fIx_t, fIx_r, fSetIx_r, new_ev, bnd_R, bndR_ok, bndR_ex, ret_ev, opt_some, hush_ev, hushR_ok, iteM, eVar_ev, lkup, eC_ev, e2_ev, e1_ev, e2D_ev, e1D_ev, e3D_ev, aNil_ev, aCons_ev, eTupN_ev, eLstN_ev, eIf_ev, eIx_ev, eCut_ev, oNone_ev, oSome_ev, eIsK_ev, eTuple_ev, eList_ev, eCall_ev, eCallL_ev, eCallT_ev, eM0_ev, eM1_ev, eM2_ev, eDict_ev, ePairs_nil, ePairs_cons, eChain_ev, tVal_ev, tAnd_ev, tOr_ev, tNot_ev, tYes_ev, eAnd_ev, eOr_ev, eNot_ev, eFrz_ev, iVal_ev, iRange_ev, iRange2_ev, sNil_ev, kSeq_nx, kSeq_rt, kSeq_bk, kSeq_ct, sCons_ev, sExpr_ev, sSet_ev, gSub_ev, sAsg_ev, sRet_ev, sRetN_ev, sIf_ev, sRaise_ev, sBreak_ev, sCont_ev, sPar2_ev, sPar3_ev, gName_ev, gTup_ev, gsFill_nil, gsFill_cons, sFor_ev, sWhile_ev, lcT_ev, eLc_ev, kBody_nx, kBody_rt, DL.start, see_p, List.set_cons_zero, List.set_cons_succ, List.map_cons, List.map_nil, List.cons_append, List.nil_append, List.length_cons, List.length_nil, List.replicate, Nat.reduceAdd, Nat.reduceSub, Nat.reduceEqDiff, if_true, if_false, Bool.false_eq_true, reduceIte, fAdd_i, fAdd_s, fAdd_t, fAdd_l, fSub_i, fMul_i, fMul_t, fMul_l, fDiv_i, fMod_i, fPow_i, fShr_i, fCmp_i, fNeg_i, fEq_i, fEq_s, fNe_i, fNe_s, fLen_l, fLen_t, fMax2_i, fMin2_i, fInt_i, fInt_b, fCut_l, fCut_t, mkP_t, mkP_f, mkL_f, mkL_t, toPs_nil, toPs_p, toPs_map, toPs_mapf, toP_p, fAll_l, fAny_l, fAll_m, fAny_m, all_true, fSum_l, fSum_t, fTuple_l, fTuple_t, fTuple_r, fList_l, fList_t, fList_r, fIsK_p, fRepr_ev, fApp_r, fPop_r, fIns_r, isL_r, items_t, elems_t, elems_l, mkTup, Option.map_some, b1__law_draft_ev, dk, mo, d4096, d32768, d2, i8, d4, and_self, Int.reduceLT, ← ho, hy, hzz, L, List.length_map, hb, e9]
      · rcases List.mem_append.mp hq with w | w
        · exact hz q w
        · rw [List.mem_singleton] at w; omega
      · obtain ⟨k, e, k0, k1⟩ := A
        exact ⟨k, by rw [List.getElem?_set_ne hmn]; exact e, k0, k1⟩)
  rw [List.length_map, List.length_range] at hlz
  refine ⟨zs, S', ⟨by omega, by omega, hz⟩, A, ?_⟩
  unfold r__law_draft
  simp only [body_ev, fInT_t, eIdxT_ev, isTq_t, fStrT_t, fNeN_l, fNeU_d, fNeU_t, fNeU_l, fNeU_i, fNeU_s, fNeU_b, fNeU_n, fEqU_d, fEqU_t, fEqU_l, fEqU_i, fEqU_s, fEqU_b, fEqU_n, isU_n, isU_c, fLeS_s, eD0_ev, fLen_s, fMul_s, fIx_s, eCutA_ev, fCutA_s, fCutA_l, fCutA_t, iStr_ev, iRangeD_ev, fLenD_r, gSl_ev, fSetSl_r, eDict0_ev, eMd1_ev, fUpd_r, Bool.false_xor, Bool.true_xor, Bool.not_true, Bool.not_false, eIsX_ev, fIsX_e, fIsX_n, eIsF_ev, fIsF_e, fIsF_n, eFld_ev, fIsN_x, eLam_ev, gTupQ_ev, e2V_ev, fEq_in, fPopAt_r, fSorted_l, fSorted_t, fMaxL_l, fMinL_l, eListRg_ev, eTupRg_ev, rgP_ev, iRange3_ev, fIsB_b, fIndex_l, fCount_l, isLq_l, isLq_r, eMq_ev, isDct_r, eGet_ev, fGet_r, fDictP_l, fLenSetA_t, fLenSetA_l, eStep_ev, fStep_l, fStep_t, sForR_ev, eLcR_ev, iEnumD_ev, iZipD_ev, sAug_ev, sAugL_ev, fIxL_r, fSetL_r, fLenSet_t, fIsN_n, fIsN_i, fIsN_t, fIsN_l, fIsN_s, fIsN_r, fExt_l, fExt_t, fIx_l, fIx_t, fIx_r, fSetIx_r, new_ev, bnd_R, bndR_ok, bndR_ex, ret_ev, opt_some, hush_ev, hushR_ok, iteM, eVar_ev, lkup, eC_ev, e2_ev, e1_ev, e2D_ev, e1D_ev, e3D_ev, aNil_ev, aCons_ev, eTupN_ev, eLstN_ev, eIf_ev, eIx_ev, eCut_ev, oNone_ev, oSome_ev, eIsK_ev, eTuple_ev, eList_ev, eCall_ev, eCallL_ev, eCallT_ev, eM0_ev, eM1_ev, eM2_ev, eDict_ev, ePairs_nil, ePairs_cons, eChain_ev, tVal_ev, tAnd_ev, tOr_ev, tNot_ev, tYes_ev, eAnd_ev, eOr_ev, eNot_ev, eFrz_ev, iVal_ev, iRange_ev, iRange2_ev, sNil_ev, kSeq_nx, kSeq_rt, kSeq_bk, kSeq_ct, sCons_ev, sExpr_ev, sSet_ev, gSub_ev, sAsg_ev, sRet_ev, sRetN_ev, sIf_ev, sRaise_ev, sBreak_ev, sCont_ev, sPar2_ev, sPar3_ev, gName_ev, gTup_ev, gsFill_nil, gsFill_cons, sFor_ev, sWhile_ev, lcT_ev, eLc_ev, kBody_nx, kBody_rt, DL.start, see_p, List.set_cons_zero, List.set_cons_succ, List.map_cons, List.map_nil, List.cons_append, List.nil_append, List.length_cons, List.length_nil, List.replicate, Nat.reduceAdd, Nat.reduceSub, Nat.reduceEqDiff, if_true, if_false, Bool.false_eq_true, reduceIte, fAdd_i, fAdd_s, fAdd_t, fAdd_l, fSub_i, fMul_i, fMul_t, fMul_l, fDiv_i, fMod_i, fPow_i, fShr_i, fCmp_i, fNeg_i, fEq_i, fEq_s, fNe_i, fNe_s, fLen_l, fLen_t, fMax2_i, fMin2_i, fInt_i, fInt_b, fCut_l, fCut_t, mkP_t, mkP_f, mkL_f, mkL_t, toPs_nil, toPs_p, toPs_map, toPs_mapf, toP_p, fAll_l, fAny_l, fAll_m, fAny_m, all_true, fSum_l, fSum_t, fTuple_l, fTuple_t, fTuple_r, fList_l, fList_t, fList_r, fIsK_p, fRepr_ev, fApp_r, fPop_r, fIns_r, isL_r, items_t, elems_t, elems_l, mkTup, Option.map_some, q1, q2, d4, d64, d512, and_self, Int.reduceLT, hw, ← hu, ← hv, ← hm, hwr, q3, L]
end Pk55

namespace Pk55
open PySem DL
/-- the shaft of the i-th place -/
def sh (zs : List Int) (b : Int) (i : Nat) : Int := (zs[((b + (i : Int)) % (zs.length : Int)).toNat]?).getD 0
theorem sh_at {zs : List Int} (h : GoodD zs) (b : Int) (i : Nat) : atL (zs.map PyData.int) ((b + (i : Int)) % (zs.length : Int)) = some (.int (sh zs b i)) ∧ 0 ≤ sh zs b i ∧ sh zs b i ≤ 7 := by
  obtain ⟨h1, _, h2⟩ := h
  have a := Int.emod_nonneg (b + (i : Int)) (show (zs.length : Int) ≠ 0 by omega)
  have c := Int.emod_lt_of_pos (b + (i : Int)) (show (0 : Int) < zs.length by omega)
  have lt : ((b + (i : Int)) % (zs.length : Int)).toNat < zs.length := by omega
  have e : sh zs b i = zs[((b + (i : Int)) % (zs.length : Int)).toNat] := by unfold sh; rw [List.getElem?_eq_getElem lt]; rfl
  refine ⟨?_, ?_⟩
  · rw [atL_in _ _ a (by simpa using c), List.getElem_map, e]
  · rw [e]
    exact h2 _ (List.getElem_mem lt)
def num (f : Nat → Int) (i : Nat) (s : Int) : Nat := ((List.range i).filter fun j => decide (f j = s)).length
theorem num_succ (f : Nat → Int) (i : Nat) (s : Int) : num f (i + 1) s = num f i s + (if f i = s then 1 else 0) := by
  unfold num
  rw [List.range_succ, List.filter_append, List.length_append]
  by_cases h : f i = s
  · simp [h]
  · simp [h]
theorem num_le (f : Nat → Int) (i : Nat) (s : Int) : num f i s ≤ i := by
  unfold num
  have := List.length_filter_le (fun j => decide (f j = s)) (List.range i)
  rwa [List.length_range] at this
abbrev DE (f : Nat → Int) (n : Nat) : List D := (List.range n).map fun i => .p (.tuple [.int (f i), .int (num f i (f i))])
abbrev DH (f : Nat → Int) (i : Nat) : List D := (List.range 8).map fun s : Nat => .p (.int (num f i ((s : Nat) : Int)))
theorem dh_get (f : Nat → Int) (i : Nat) (s : Int) (h0 : 0 ≤ s) (h1 : s ≤ 7) : atL (DH f i) s = some (.p (.int (num f i s))) := by
  rw [atL_in _ _ h0 (by simp; omega), List.getElem_map, List.getElem_range]
  have : ((s.toNat : Nat) : Int) = s := by omega
  rw [this]
theorem dh_set (f : Nat → Int) (i : Nat) (h0 : 0 ≤ f i) (h1 : f i ≤ 7) : (DH f i).set (f i).toNat (.p (.int ((num f i (f i) : Nat) + 1))) = DH f (i + 1) := by
  apply List.ext_getElem?
  intro j
  by_cases hj : j < 8
  · by_cases e : (f i).toNat = j
    · rw [e, List.getElem?_set_self (by simpa using hj), List.getElem?_map, List.getElem?_range hj]
      have e2 : ((j : Nat) : Int) = f i := by omega
      show some _ = some (D.p (.int (num f (i + 1) (j : Int))))
      rw [num_succ, e2, if_pos rfl]
      rfl
    · rw [List.getElem?_set_ne e, List.getElem?_map, List.getElem?_map, List.getElem?_range hj]
      show some (D.p (.int (num f i (j : Int)))) = some (D.p (.int (num f (i + 1) (j : Int))))
      rw [num_succ, if_neg (by omega)]
      rfl
  · rw [List.getElem?_eq_none (by simp; omega), List.getElem?_eq_none (by simp; omega)]
end Pk55

namespace Pk55
open PySem DL
/-- what is due -/
def led (os zs : List Int) (b : Int) (i : Nat) : PyData := .tuple [.int (os.getD i 0), .int (sh zs b i), .int (num (sh zs b) i (sh zs b i))]
theorem while_at (e0 e2 e3 e4 e5 e7 e8 : Option D) (zs : List Int) (S : Sto) (h : 1 ≤ zs.length) : ∀ (n : Nat) (a : Int), 0 ≤ a → a < n →
    whileN (tVal (DL.e2 (fCmp fun i j => decide (j ≤ i)) (eVar 6) (e1 fLen (eVar 1)))) b1__law_eyes n [e0, some (.p (.tuple (zs.map .int))), e2, e3, e4, e5, some (.p (.int a)), e7, e8] S = .ok (.nx [e0, some (.p (.tuple (zs.map .int))), e2, e3, e4, e5, some (.p (.int (a % (zs.length : Int)))), e7, e8]) S := by
  intro n
  induction n with
  | zero => intro a h0 h1; exact absurd h1 (by omega)
  | succ n ih =>
    intro a h0 h1
    have hl : (0 : Int) < (zs.length : Int) := by omega
    by_cases hc : (zs.length : Int) ≤ a
    · have q := ih (a - (zs.length : Int)) (by omega) (by omega)
      rw [Int.sub_emod_right] at q
      simp only [body_ev, fInT_t, eIdxT_ev, isTq_t, fStrT_t, fNeN_l, fNeU_d, fNeU_t, fNeU_l, fNeU_i, fNeU_s, fNeU_b, fNeU_n, fEqU_d, fEqU_t, fEqU_l, fEqU_i, fEqU_s, fEqU_b, fEqU_n, isU_n, isU_c, fLeS_s, eD0_ev, fLen_s, fMul_s, fIx_s, eCutA_ev, fCutA_s, fCutA_l, fCutA_t, iStr_ev, iRangeD_ev, fLenD_r, gSl_ev, fSetSl_r, eDict0_ev, eMd1_ev, fUpd_r, Bool.false_xor, Bool.true_xor, Bool.not_true, Bool.not_false, eIsX_ev, fIsX_e, fIsX_n, eIsF_ev, fIsF_e, fIsF_n, eFld_ev, fIsN_x, eLam_ev, gTupQ_ev, e2V_ev, fEq_in, fPopAt_r, fSorted_l, fSorted_t, fMaxL_l, fMinL_l, eListRg_ev, eTupRg_ev, rgP_ev, iRange3_ev, fIsB_b, fIndex_l, fCount_l, isLq_l, isLq_r, eMq_ev, isDct_r, eGet_ev, fGet_r, fDictP_l, fLenSetA_t, fLenSetA_l, eStep_ev, fStep_l, fStep_t, sForR_ev, eLcR_ev, iEnumD_ev, iZipD_ev, sAug_ev, sAugL_ev, fIxL_r, fSetL_r, fLenSet_t, fIsN_n, fIsN_i, fIsN_t, fIsN_l, fIsN_s, fIsN_r, fExt_l, fExt_t, fIx_l, fIx_t, fIx_r, fSetIx_r, new_ev, bnd_R, bndR_ok, bndR_ex, ret_ev, opt_some, hush_ev, hushR_ok, iteM, eVar_ev, lkup, eC_ev, e2_ev, e1_ev, e2D_ev, e1D_ev, e3D_ev, aNil_ev, aCons_ev, eTupN_ev, eLstN_ev, eIf_ev, eIx_ev, eCut_ev, oNone_ev, oSome_ev, eIsK_ev, eTuple_ev, eList_ev, eCall_ev, eCallL_ev, eCallT_ev, eM0_ev, eM1_ev, eM2_ev, eDict_ev, ePairs_nil, ePairs_cons, eChain_ev, tVal_ev, tAnd_ev, tOr_ev, tNot_ev, tYes_ev, eAnd_ev, eOr_ev, eNot_ev, eFrz_ev, iVal_ev, iRange_ev, iRange2_ev, sNil_ev, kSeq_nx, kSeq_rt, kSeq_bk, kSeq_ct, sCons_ev, sExpr_ev, sSet_ev, gSub_ev, sAsg_ev, sRet_ev, sRetN_ev, sIf_ev, sRaise_ev, sBreak_ev, sCont_ev, sPar2_ev, sPar3_ev, gName_ev, gTup_ev, gsFill_nil, gsFill_cons, sFor_ev, sWhile_ev, lcT_ev, eLc_ev, kBody_nx, kBody_rt, DL.start, see_p, List.set_cons_zero, List.set_cons_succ, List.map_cons, List.map_nil, List.cons_append, List.nil_append, List.length_cons, List.length_nil, List.replicate, Nat.reduceAdd, Nat.reduceSub, Nat.reduceEqDiff, if_true, if_false, Bool.false_eq_true, reduceIte, fAdd_i, fAdd_s, fAdd_t, fAdd_l, fSub_i, fMul_i, fMul_t, fMul_l, fDiv_i, fMod_i, fPow_i, fShr_i, fCmp_i, fNeg_i, fEq_i, fEq_s, fNe_i, fNe_s, fLen_l, fLen_t, fMax2_i, fMin2_i, fInt_i, fInt_b, fCut_l, fCut_t, mkP_t, mkP_f, mkL_f, mkL_t, toPs_nil, toPs_p, toPs_map, toPs_mapf, toP_p, fAll_l, fAny_l, fAll_m, fAny_m, all_true, fSum_l, fSum_t, fTuple_l, fTuple_t, fTuple_r, fList_l, fList_t, fList_r, fIsK_p, fRepr_ev, fApp_r, fPop_r, fIns_r, isL_r, items_t, elems_t, elems_l, mkTup, Option.map_some, whileN_succ, List.length_map, hc, decide_true, b1__law_eyes_ev, kWhile_nx]
      exact q
    · rw [Int.emod_eq_of_lt h0 (by omega)]
      simp only [body_ev, fInT_t, eIdxT_ev, isTq_t, fStrT_t, fNeN_l, fNeU_d, fNeU_t, fNeU_l, fNeU_i, fNeU_s, fNeU_b, fNeU_n, fEqU_d, fEqU_t, fEqU_l, fEqU_i, fEqU_s, fEqU_b, fEqU_n, isU_n, isU_c, fLeS_s, eD0_ev, fLen_s, fMul_s, fIx_s, eCutA_ev, fCutA_s, fCutA_l, fCutA_t, iStr_ev, iRangeD_ev, fLenD_r, gSl_ev, fSetSl_r, eDict0_ev, eMd1_ev, fUpd_r, Bool.false_xor, Bool.true_xor, Bool.not_true, Bool.not_false, eIsX_ev, fIsX_e, fIsX_n, eIsF_ev, fIsF_e, fIsF_n, eFld_ev, fIsN_x, eLam_ev, gTupQ_ev, e2V_ev, fEq_in, fPopAt_r, fSorted_l, fSorted_t, fMaxL_l, fMinL_l, eListRg_ev, eTupRg_ev, rgP_ev, iRange3_ev, fIsB_b, fIndex_l, fCount_l, isLq_l, isLq_r, eMq_ev, isDct_r, eGet_ev, fGet_r, fDictP_l, fLenSetA_t, fLenSetA_l, eStep_ev, fStep_l, fStep_t, sForR_ev, eLcR_ev, iEnumD_ev, iZipD_ev, sAug_ev, sAugL_ev, fIxL_r, fSetL_r, fLenSet_t, fIsN_n, fIsN_i, fIsN_t, fIsN_l, fIsN_s, fIsN_r, fExt_l, fExt_t, fIx_l, fIx_t, fIx_r, fSetIx_r, new_ev, bnd_R, bndR_ok, bndR_ex, ret_ev, opt_some, hush_ev, hushR_ok, iteM, eVar_ev, lkup, eC_ev, e2_ev, e1_ev, e2D_ev, e1D_ev, e3D_ev, aNil_ev, aCons_ev, eTupN_ev, eLstN_ev, eIf_ev, eIx_ev, eCut_ev, oNone_ev, oSome_ev, eIsK_ev, eTuple_ev, eList_ev, eCall_ev, eCallL_ev, eCallT_ev, eM0_ev, eM1_ev, eM2_ev, eDict_ev, ePairs_nil, ePairs_cons, eChain_ev, tVal_ev, tAnd_ev, tOr_ev, tNot_ev, tYes_ev, eAnd_ev, eOr_ev, eNot_ev, eFrz_ev, iVal_ev, iRange_ev, iRange2_ev, sNil_ev, kSeq_nx, kSeq_rt, kSeq_bk, kSeq_ct, sCons_ev, sExpr_ev, sSet_ev, gSub_ev, sAsg_ev, sRet_ev, sRetN_ev, sIf_ev, sRaise_ev, sBreak_ev, sCont_ev, sPar2_ev, sPar3_ev, gName_ev, gTup_ev, gsFill_nil, gsFill_cons, sFor_ev, sWhile_ev, lcT_ev, eLc_ev, kBody_nx, kBody_rt, DL.start, see_p, List.set_cons_zero, List.set_cons_succ, List.map_cons, List.map_nil, List.cons_append, List.nil_append, List.length_cons, List.length_nil, List.replicate, Nat.reduceAdd, Nat.reduceSub, Nat.reduceEqDiff, if_true, if_false, Bool.false_eq_true, reduceIte, fAdd_i, fAdd_s, fAdd_t, fAdd_l, fSub_i, fMul_i, fMul_t, fMul_l, fDiv_i, fMod_i, fPow_i, fShr_i, fCmp_i, fNeg_i, fEq_i, fEq_s, fNe_i, fNe_s, fLen_l, fLen_t, fMax2_i, fMin2_i, fInt_i, fInt_b, fCut_l, fCut_t, mkP_t, mkP_f, mkL_f, mkL_t, toPs_nil, toPs_p, toPs_map, toPs_mapf, toP_p, fAll_l, fAny_l, fAll_m, fAny_m, all_true, fSum_l, fSum_t, fTuple_l, fTuple_t, fTuple_r, fList_l, fList_t, fList_r, fIsK_p, fRepr_ev, fApp_r, fPop_r, fIns_r, isL_r, items_t, elems_t, elems_l, mkTup, Option.map_some, whileN_succ, List.length_map, hc, decide_false]
theorem ok_eyes {os zs : List Int} {b : Int} {S : Sto} (ho : os.length ≤ 60) (hz : GoodD zs) (hb : 0 ≤ b) (hb2 : b ≤ 99) : ∃ S', r__law_eyes [.p (.tuple (os.map .int)), .p (.tuple (zs.map .int)), .p (.int b)] S = .ok (.p (.tuple ((List.range os.length).map (led os zs b)))) S' := by
  obtain ⟨m, hm⟩ : ∃ m, m = S.length := ⟨_, rfl⟩
  have hl0 : (0 : Int) < (zs.length : Int) := by have := hz.1; omega
  obtain ⟨env', S', q, w4, w5, w6, w7, rfl, L⟩ := for_all (g := gTup [gName 4, gName 5]) (b := b3__law_eyes) (I := fun i env S' => ∃ (w4 w5 w6 w7 : Option D), env = [some (.p (.tuple (os.map .int))), some (.p (.tuple (zs.map .int))), some (.p (.int b)), some (.ref m), w4, w5, w6, w7, none] ∧ S'[m]? = some (.lst ((List.range i).map fun j => .p (led os zs b j))))
    (enumD 0 ((os.map PyData.int).map .p)) (env := [some (.p (.tuple (os.map .int))), some (.p (.tuple (zs.map .int))), some (.p (.int b)), some (.ref m), none, none, none, none, none]) (S := S ++ [.lst []]) ⟨none, none, none, none, rfl, by rw [hm]; simp⟩ (fun i x env S' hx hi => by
      obtain ⟨w4, w5, w6, w7, rfl, L⟩ := hi
      have hi : i < os.length := by
        have := (List.getElem?_eq_some_iff.mp hx).1
        rw [enumP_len] at this
        simpa using this
      rw [enumP_get, Nat.zero_add, List.getElem?_map, List.getElem?_map, List.getElem?_eq_getElem hi] at hx
      cases hx
      obtain ⟨s1, s2, s3⟩ := sh_at hz b i
      have wl := while_at (some (.p (.tuple (os.map .int)))) (some (.p (.int b))) (some (.ref m)) (some (.p (.int (i : Nat)))) (some (.p (.int os[i]))) w7 none zs S' hz.1 200 (b + (i : Int)) (by omega) (by omega)
      obtain ⟨a, ha⟩ : ∃ a, a = (b + (i : Int)) % (zs.length : Int) := ⟨_, rfl⟩
      rw [← ha] at wl s1
      have lc := lcR_map (g := gName 8) (t := t2__law_eyes) (e := eVar 8) (env := [some (.p (.tuple (os.map .int))), some (.p (.tuple (zs.map .int))), some (.p (.int b)), some (.ref m), some (.p (.int (i : Nat))), some (.p (.int os[i])), some (.p (.int a)), w7, none]) (S := S') (n := m) (f := fun j => D.p (led os zs b j)) (h := fun j => if sh zs b j = sh zs b i then some (D.p (led os zs b j)) else none) (xs := List.range i) L (fun j hj => by
        have at1 : ∀ x y z : Int, atL [PyData.int x, PyData.int y, PyData.int z] 1 = some (.int y) := fun _ _ _ => rfl
        by_cases hs : sh zs b j = sh zs b i
        · simp only [body_ev, fInT_t, eIdxT_ev, isTq_t, fStrT_t, fNeN_l, fNeU_d, fNeU_t, fNeU_l, fNeU_i, fNeU_s, fNeU_b, fNeU_n, fEqU_d, fEqU_t, fEqU_l, fEqU_i, fEqU_s, fEqU_b, fEqU_n, isU_n, isU_c, fLeS_s, eD0_ev, fLen_s, fMul_s, fIx_s, eCutA_ev, fCutA_s, fCutA_l, fCutA_t, iStr_ev, iRangeD_ev, fLenD_r, gSl_ev, fSetSl_r, eDict0_ev, eMd1_ev, fUpd_r, Bool.false_xor, Bool.true_xor, Bool.not_true, Bool.not_false, eIsX_ev, fIsX_e, fIsX_n, eIsF_ev, fIsF_e, fIsF_n, eFld_ev, fIsN_x, eLam_ev, gTupQ_ev, e2V_ev, fEq_in, fPopAt_r, fSorted_l, fSorted_t, fMaxL_l, fMinL_l, eListRg_ev, eTupRg_ev, rgP_ev, iRange3_ev, fIsB_b, fIndex_l, fCount_l, isLq_l, isLq_r, eMq_ev, isDct_r, eGet_ev, fGet_r, fDictP_l, fLenSetA_t, fLenSetA_l, eStep_ev, fStep_l, fStep_t, sForR_ev, eLcR_ev, iEnumD_ev, iZipD_ev, sAug_ev, sAugL_ev, fIxL_r, fSetL_r, fLenSet_t, fIsN_n, fIsN_i, fIsN_t, fIsN_l, fIsN_s, fIsN_r, fExt_l, fExt_t, fIx_l, fIx_t, fIx_r, fSetIx_r, new_ev, bnd_R, bndR_ok, bndR_ex, ret_ev, opt_some, hush_ev, hushR_ok, iteM, eVar_ev, lkup, eC_ev, e2_ev, e1_ev, e2D_ev, e1D_ev, e3D_ev, aNil_ev, aCons_ev, eTupN_ev, eLstN_ev, eIf_ev, eIx_ev, eCut_ev, oNone_ev, oSome_ev, eIsK_ev, eTuple_ev, eList_ev, eCall_ev, eCallL_ev, eCallT_ev, eM0_ev, eM1_ev, eM2_ev, eDict_ev, ePairs_nil, ePairs_cons, eChain_ev, tVal_ev, tAnd_ev, tOr_ev, tNot_ev, tYes_ev, eAnd_ev, eOr_ev, eNot_ev, eFrz_ev, iVal_ev, iRange_ev, iRange2_ev, sNil_ev, kSeq_nx, kSeq_rt, kSeq_bk, kSeq_ct, sCons_ev, sExpr_ev, sSet_ev, gSub_ev, sAsg_ev, sRet_ev, sRetN_ev, sIf_ev, sRaise_ev, sBreak_ev, sCont_ev, sPar2_ev, sPar3_ev, gName_ev, gTup_ev, gsFill_nil, gsFill_cons, sFor_ev, sWhile_ev, lcT_ev, eLc_ev, kBody_nx, kBody_rt, DL.start, see_p, List.set_cons_zero, List.set_cons_succ, List.map_cons, List.map_nil, List.cons_append, List.nil_append, List.length_cons, List.length_nil, List.replicate, Nat.reduceAdd, Nat.reduceSub, Nat.reduceEqDiff, if_true, if_false, Bool.false_eq_true, reduceIte, fAdd_i, fAdd_s, fAdd_t, fAdd_l, fSub_i, fMul_i, fMul_t, fMul_l, fDiv_i, fMod_i, fPow_i, fShr_i, fCmp_i, fNeg_i, fEq_i, fEq_s, fNe_i, fNe_s, fLen_l, fLen_t, fMax2_i, fMin2_i, fInt_i, fInt_b, fCut_l, fCut_t, mkP_t, mkP_f, mkL_f, mkL_t, toPs_nil, toPs_p, toPs_map, toPs_mapf, toP_p, fAll_l, fAny_l, fAll_m, fAny_m, all_true, fSum_l, fSum_t, fTuple_l, fTuple_t, fTuple_r, fList_l, fList_t, fList_r, fIsK_p, fRepr_ev, fApp_r, fPop_r, fIns_r, isL_r, items_t, elems_t, elems_l, mkTup, Option.map_some, t2__law_eyes_ev, led, at1, s1, hs, decide_true]
        · simp only [body_ev, fInT_t, eIdxT_ev, isTq_t, fStrT_t, fNeN_l, fNeU_d, fNeU_t, fNeU_l, fNeU_i, fNeU_s, fNeU_b, fNeU_n, fEqU_d, fEqU_t, fEqU_l, fEqU_i, fEqU_s, fEqU_b, fEqU_n, isU_n, isU_c, fLeS_s, eD0_ev, fLen_s, fMul_s, fIx_s, eCutA_ev, fCutA_s, fCutA_l, fCutA_t, iStr_ev, iRangeD_ev, fLenD_r, gSl_ev, fSetSl_r, eDict0_ev, eMd1_ev, fUpd_r, Bool.false_xor, Bool.true_xor, Bool.not_true, Bool.not_false, eIsX_ev, fIsX_e, fIsX_n, eIsF_ev, fIsF_e, fIsF_n, eFld_ev, fIsN_x, eLam_ev, gTupQ_ev, e2V_ev, fEq_in, fPopAt_r, fSorted_l, fSorted_t, fMaxL_l, fMinL_l, eListRg_ev, eTupRg_ev, rgP_ev, iRange3_ev, fIsB_b, fIndex_l, fCount_l, isLq_l, isLq_r, eMq_ev, isDct_r, eGet_ev, fGet_r, fDictP_l, fLenSetA_t, fLenSetA_l, eStep_ev, fStep_l, fStep_t, sForR_ev, eLcR_ev, iEnumD_ev, iZipD_ev, sAug_ev, sAugL_ev, fIxL_r, fSetL_r, fLenSet_t, fIsN_n, fIsN_i, fIsN_t, fIsN_l, fIsN_s, fIsN_r, fExt_l, fExt_t, fIx_l, fIx_t, fIx_r, fSetIx_r, new_ev, bnd_R, bndR_ok, bndR_ex, ret_ev, opt_some, hush_ev, hushR_ok, iteM, eVar_ev, lkup, eC_ev, e2_ev, e1_ev, e2D_ev, e1D_ev, e3D_ev, aNil_ev, aCons_ev, eTupN_ev, eLstN_ev, eIf_ev, eIx_ev, eCut_ev, oNone_ev, oSome_ev, eIsK_ev, eTuple_ev, eList_ev, eCall_ev, eCallL_ev, eCallT_ev, eM0_ev, eM1_ev, eM2_ev, eDict_ev, ePairs_nil, ePairs_cons, eChain_ev, tVal_ev, tAnd_ev, tOr_ev, tNot_ev, tYes_ev, eAnd_ev, eOr_ev, eNot_ev, eFrz_ev, iVal_ev, iRange_ev, iRange2_ev, sNil_ev, kSeq_nx, kSeq_rt, kSeq_bk, kSeq_ct, sCons_ev, sExpr_ev, sSet_ev, gSub_ev, sAsg_ev, sRet_ev, sRetN_ev, sIf_ev, sRaise_ev, sBreak_ev, sCont_ev, sPar2_ev, sPar3_ev, gName_ev, gTup_ev, gsFill_nil, gsFill_cons, sFor_ev, sWhile_ev, lcT_ev, eLc_ev, kBody_nx, kBody_rt, DL.start, see_p, List.set_cons_zero, List.set_cons_succ, List.map_cons, List.map_nil, List.cons_append, List.nil_append, List.length_cons, List.length_nil, List.replicate, Nat.reduceAdd, Nat.reduceSub, Nat.reduceEqDiff, if_true, if_false, Bool.false_eq_true, reduceIte, fAdd_i, fAdd_s, fAdd_t, fAdd_l, fSub_i, fMul_i, fMul_t, fMul_l, fDiv_i, fMod_i, fPow_i, fShr_i, fCmp_i, fNeg_i, fEq_i, fEq_s, fNe_i, fNe_s, fLen_l, fLen_t, fMax2_i, fMin2_i, fInt_i, fInt_b, fCut_l, fCut_t, mkP_t, mkP_f, mkL_f, mkL_t, toPs_nil, toPs_p, toPs_map, toPs_mapf, toP_p, fAll_l, fAny_l, fAll_m, fAny_m, all_true, fSum_l, fSum_t, fTuple_l, fTuple_t, fTuple_r, fList_l, fList_t, fList_r, fIsK_p, fRepr_ev, fApp_r, fPop_r, fIns_r, isL_r, items_t, elems_t, elems_l, mkTup, Option.map_some, t2__law_eyes_ev, led, at1, s1, hs, decide_false]) (i + 1) 0 (by rw [List.length_range]; omega)
      rw [List.drop_zero, filterMap_ite] at lc
      have tp : toPs (((List.range i).filter fun j => decide (sh zs b j = sh zs b i)).map fun j => D.p (led os zs b j)) = some (((List.range i).filter fun j => decide (sh zs b j = sh zs b i)).map (led os zs b)) := toPs_mapf _ _
      have hS : m < S'.length := (List.getElem?_eq_some_iff.mp L).1
      have hbg : i < big := by unfold big; omega
      have eD : ((List.range i).map fun j => D.p (led os zs b j)) ++ [D.p (.tuple [.int os[i], .int (sh zs b i), .int (((List.range i).filter fun j => decide (sh zs b j = sh zs b i)).length : Nat)])] = (List.range (i + 1)).map fun j => D.p (led os zs b j) := by
        rw [List.range_succ, List.map_append]
        have : os.getD i 0 = os[i] := by rw [List.getD_eq_getElem?_getD, List.getElem?_eq_getElem hi]; rfl
        simp only [List.map_cons, List.map_nil, led, num, this]
      refine ⟨_, S'.set m (.lst ((List.range (i + 1)).map fun j => .p (led os zs b j))), ?_, some (.p (.int (i : Nat))), some (.p (.int os[i])), some (.p (.int a)), some (.p (.list (((List.range i).filter fun j => decide (sh zs b j = sh zs b i)).map (led os zs b)))), rfl, List.getElem?_set_self hS⟩
      simp only [body_ev, fInT_t, eIdxT_ev, isTq_t, fStrT_t, fNeN_l, fNeU_d, fNeU_t, fNeU_l, fNeU_i, fNeU_s, fNeU_b, fNeU_n, fEqU_d, fEqU_t, fEqU_l, fEqU_i, fEqU_s, fEqU_b, fEqU_n, isU_n, isU_c, fLeS_s, eD0_ev, fLen_s, fMul_s, fIx_s, eCutA_ev, fCutA_s, fCutA_l, fCutA_t, iStr_ev, iRangeD_ev, fLenD_r, gSl_ev, fSetSl_r, eDict0_ev, eMd1_ev, fUpd_r, Bool.false_xor, Bool.true_xor, Bool.not_true, Bool.not_false, eIsX_ev, fIsX_e, fIsX_n, eIsF_ev, fIsF_e, fIsF_n, eFld_ev, fIsN_x, eLam_ev, gTupQ_ev, e2V_ev, fEq_in, fPopAt_r, fSorted_l, fSorted_t, fMaxL_l, fMinL_l, eListRg_ev, eTupRg_ev, rgP_ev, iRange3_ev, fIsB_b, fIndex_l, fCount_l, isLq_l, isLq_r, eMq_ev, isDct_r, eGet_ev, fGet_r, fDictP_l, fLenSetA_t, fLenSetA_l, eStep_ev, fStep_l, fStep_t, sForR_ev, eLcR_ev, iEnumD_ev, iZipD_ev, sAug_ev, sAugL_ev, fIxL_r, fSetL_r, fLenSet_t, fIsN_n, fIsN_i, fIsN_t, fIsN_l, fIsN_s, fIsN_r, fExt_l, fExt_t, fIx_l, fIx_t, fIx_r, fSetIx_r, new_ev, bnd_R, bndR_ok, bndR_ex, ret_ev, opt_some, hush_ev, hushR_ok, iteM, eVar_ev, lkup, eC_ev, e2_ev, e1_ev, e2D_ev, e1D_ev, e3D_ev, aNil_ev, aCons_ev, eTupN_ev, eLstN_ev, eIf_ev, eIx_ev, eCut_ev, oNone_ev, oSome_ev, eIsK_ev, eTuple_ev, eList_ev, eCall_ev, eCallL_ev, eCallT_ev, eM0_ev, eM1_ev, eM2_ev, eDict_ev, ePairs_nil, ePairs_cons, eChain_ev, tVal_ev, tAnd_ev, tOr_ev, tNot_ev, tYes_ev, eAnd_ev, eOr_ev, eNot_ev, eFrz_ev, iVal_ev, iRange_ev, iRange2_ev, sNil_ev, kSeq_nx, kSeq_rt, kSeq_bk, kSeq_ct, sCons_ev, sExpr_ev, sSet_ev, gSub_ev, sAsg_ev, sRet_ev, sRetN_ev, sIf_ev, sRaise_ev, sBreak_ev, sCont_ev, sPar2_ev, sPar3_ev, gName_ev, gTup_ev, gsFill_nil, gsFill_cons, sFor_ev, sWhile_ev, lcT_ev, eLc_ev, kBody_nx, kBody_rt, DL.start, see_p, List.set_cons_zero, List.set_cons_succ, List.map_cons, List.map_nil, List.cons_append, List.nil_append, List.length_cons, List.length_nil, List.replicate, Nat.reduceAdd, Nat.reduceSub, Nat.reduceEqDiff, if_true, if_false, Bool.false_eq_true, reduceIte, fAdd_i, fAdd_s, fAdd_t, fAdd_l, fSub_i, fMul_i, fMul_t, fMul_l, fDiv_i, fMod_i, fPow_i, fShr_i, fCmp_i, fNeg_i, fEq_i, fEq_s, fNe_i, fNe_s, fLen_l, fLen_t, fMax2_i, fMin2_i, fInt_i, fInt_b, fCut_l, fCut_t, mkP_t, mkP_f, mkL_f, mkL_t, toPs_nil, toPs_p, toPs_map, toPs_mapf, toP_p, fAll_l, fAny_l, fAll_m, fAny_m, all_true, fSum_l, fSum_t, fTuple_l, fTuple_t, fTuple_r, fList_l, fList_t, fList_r, fIsK_p, fRepr_ev, fApp_r, fPop_r, fIns_r, isL_r, items_t, elems_t, elems_l, mkTup, Option.map_some, mkTup2, b3__law_eyes_ev, wl, L, List.length_map, List.length_range, hbg, DL.wipe, lc, tp, s1, eD])
  rw [enumP_len, List.length_map, List.length_map] at L
  refine ⟨S', ?_⟩
  unfold r__law_eyes
  simp only [body_ev, fInT_t, eIdxT_ev, isTq_t, fStrT_t, fNeN_l, fNeU_d, fNeU_t, fNeU_l, fNeU_i, fNeU_s, fNeU_b, fNeU_n, fEqU_d, fEqU_t, fEqU_l, fEqU_i, fEqU_s, fEqU_b, fEqU_n, isU_n, isU_c, fLeS_s, eD0_ev, fLen_s, fMul_s, fIx_s, eCutA_ev, fCutA_s, fCutA_l, fCutA_t, iStr_ev, iRangeD_ev, fLenD_r, gSl_ev, fSetSl_r, eDict0_ev, eMd1_ev, fUpd_r, Bool.false_xor, Bool.true_xor, Bool.not_true, Bool.not_false, eIsX_ev, fIsX_e, fIsX_n, eIsF_ev, fIsF_e, fIsF_n, eFld_ev, fIsN_x, eLam_ev, gTupQ_ev, e2V_ev, fEq_in, fPopAt_r, fSorted_l, fSorted_t, fMaxL_l, fMinL_l, eListRg_ev, eTupRg_ev, rgP_ev, iRange3_ev, fIsB_b, fIndex_l, fCount_l, isLq_l, isLq_r, eMq_ev, isDct_r, eGet_ev, fGet_r, fDictP_l, fLenSetA_t, fLenSetA_l, eStep_ev, fStep_l, fStep_t, sForR_ev, eLcR_ev, iEnumD_ev, iZipD_ev, sAug_ev, sAugL_ev, fIxL_r, fSetL_r, fLenSet_t, fIsN_n, fIsN_i, fIsN_t, fIsN_l, fIsN_s, fIsN_r, fExt_l, fExt_t, fIx_l, fIx_t, fIx_r, fSetIx_r, new_ev, bnd_R, bndR_ok, bndR_ex, ret_ev, opt_some, hush_ev, hushR_ok, iteM, eVar_ev, lkup, eC_ev, e2_ev, e1_ev, e2D_ev, e1D_ev, e3D_ev, aNil_ev, aCons_ev, eTupN_ev, eLstN_ev, eIf_ev, eIx_ev, eCut_ev, oNone_ev, oSome_ev, eIsK_ev, eTuple_ev, eList_ev, eCall_ev, eCallL_ev, eCallT_ev, eM0_ev, eM1_ev, eM2_ev, eDict_ev, ePairs_nil, ePairs_cons, eChain_ev, tVal_ev, tAnd_ev, tOr_ev, tNot_ev, tYes_ev, eAnd_ev, eOr_ev, eNot_ev, eFrz_ev, iVal_ev, iRange_ev, iRange2_ev, sNil_ev, kSeq_nx, kSeq_rt, kSeq_bk, kSeq_ct, sCons_ev, sExpr_ev, sSet_ev, gSub_ev, sAsg_ev, sRet_ev, sRetN_ev, sIf_ev, sRaise_ev, sBreak_ev, sCont_ev, sPar2_ev, sPar3_ev, gName_ev, gTup_ev, gsFill_nil, gsFill_cons, sFor_ev, sWhile_ev, lcT_ev, eLc_ev, kBody_nx, kBody_rt, DL.start, see_p, List.set_cons_zero, List.set_cons_succ, List.map_cons, List.map_nil, List.cons_append, List.nil_append, List.length_cons, List.length_nil, List.replicate, Nat.reduceAdd, Nat.reduceSub, Nat.reduceEqDiff, if_true, if_false, Bool.false_eq_true, reduceIte, fAdd_i, fAdd_s, fAdd_t, fAdd_l, fSub_i, fMul_i, fMul_t, fMul_l, fDiv_i, fMod_i, fPow_i, fShr_i, fCmp_i, fNeg_i, fEq_i, fEq_s, fNe_i, fNe_s, fLen_l, fLen_t, fMax2_i, fMin2_i, fInt_i, fInt_b, fCut_l, fCut_t, mkP_t, mkP_f, mkL_f, mkL_t, toPs_nil, toPs_p, toPs_map, toPs_mapf, toP_p, fAll_l, fAny_l, fAll_m, fAny_m, all_true, fSum_l, fSum_t, fTuple_l, fTuple_t, fTuple_r, fList_l, fList_t, fList_r, fIsK_p, fRepr_ev, fApp_r, fPop_r, fIns_r, isL_r, items_t, elems_t, elems_l, mkTup, Option.map_some, ← hm, q, L]
end Pk55

namespace Pk55
open PySem DL
/-! good drafts, good threads with eyes -/
/-- a thread, its shaft, its eye -/
def GoodL (e : Int × Int × Int) : Prop := (0 ≤ e.1 ∧ e.1 ≤ 99) ∧ (0 ≤ e.2.1 ∧ e.2.1 ≤ 7) ∧ 0 ≤ e.2.2 ∧ e.2.2 ≤ 59
abbrev ledT (e : Int × Int × Int) : PyData := .tuple [.int e.1, .int e.2.1, .int e.2.2]
theorem ok_is_led {e : Int × Int × Int} (h : GoodL e) (S : Sto) : r_is_led [.p (ledT e)] S = .ok (.p (.bool true)) S := by
  obtain ⟨⟨a1, a2⟩, ⟨b1, b2⟩, c1, c2⟩ := h
  have io : r_is_order [.p (.tuple [PyData.int e.1])] [] = .ok (.p (.bool true)) [] := ok_is_order (xs := [e.1]) ⟨by simp, by simpa using ⟨a1, a2⟩, by simp⟩ []
  have ct : cutL [PyData.int e.1, .int e.2.1, .int e.2.2] none (some 1) = [PyData.int e.1] := rfl
  have at1 : atL [PyData.int e.1, .int e.2.1, .int e.2.2] 1 = some (.int e.2.1) := rfl
  have at2 : atL [PyData.int e.1, .int e.2.1, .int e.2.2] 2 = some (.int e.2.2) := rfl
  have l3 : decide ((((0 + 1 + 1 + 1 : Nat) : Nat) : Int) = 3) = true := rfl
  have l3' : decide (((3 : Nat) : Int) = 3) = true := rfl
  unfold r_is_led
  simp only [body_ev, fInT_t, eIdxT_ev, isTq_t, fStrT_t, fNeN_l, fNeU_d, fNeU_t, fNeU_l, fNeU_i, fNeU_s, fNeU_b, fNeU_n, fEqU_d, fEqU_t, fEqU_l, fEqU_i, fEqU_s, fEqU_b, fEqU_n, isU_n, isU_c, fLeS_s, eD0_ev, fLen_s, fMul_s, fIx_s, eCutA_ev, fCutA_s, fCutA_l, fCutA_t, iStr_ev, iRangeD_ev, fLenD_r, gSl_ev, fSetSl_r, eDict0_ev, eMd1_ev, fUpd_r, Bool.false_xor, Bool.true_xor, Bool.not_true, Bool.not_false, eIsX_ev, fIsX_e, fIsX_n, eIsF_ev, fIsF_e, fIsF_n, eFld_ev, fIsN_x, eLam_ev, gTupQ_ev, e2V_ev, fEq_in, fPopAt_r, fSorted_l, fSorted_t, fMaxL_l, fMinL_l, eListRg_ev, eTupRg_ev, rgP_ev, iRange3_ev, fIsB_b, fIndex_l, fCount_l, isLq_l, isLq_r, eMq_ev, isDct_r, eGet_ev, fGet_r, fDictP_l, fLenSetA_t, fLenSetA_l, eStep_ev, fStep_l, fStep_t, sForR_ev, eLcR_ev, iEnumD_ev, iZipD_ev, sAug_ev, sAugL_ev, fIxL_r, fSetL_r, fLenSet_t, fIsN_n, fIsN_i, fIsN_t, fIsN_l, fIsN_s, fIsN_r, fExt_l, fExt_t, fIx_l, fIx_t, fIx_r, fSetIx_r, new_ev, bnd_R, bndR_ok, bndR_ex, ret_ev, opt_some, hush_ev, hushR_ok, iteM, eVar_ev, lkup, eC_ev, e2_ev, e1_ev, e2D_ev, e1D_ev, e3D_ev, aNil_ev, aCons_ev, eTupN_ev, eLstN_ev, eIf_ev, eIx_ev, eCut_ev, oNone_ev, oSome_ev, eIsK_ev, eTuple_ev, eList_ev, eCall_ev, eCallL_ev, eCallT_ev, eM0_ev, eM1_ev, eM2_ev, eDict_ev, ePairs_nil, ePairs_cons, eChain_ev, tVal_ev, tAnd_ev, tOr_ev, tNot_ev, tYes_ev, eAnd_ev, eOr_ev, eNot_ev, eFrz_ev, iVal_ev, iRange_ev, iRange2_ev, sNil_ev, kSeq_nx, kSeq_rt, kSeq_bk, kSeq_ct, sCons_ev, sExpr_ev, sSet_ev, gSub_ev, sAsg_ev, sRet_ev, sRetN_ev, sIf_ev, sRaise_ev, sBreak_ev, sCont_ev, sPar2_ev, sPar3_ev, gName_ev, gTup_ev, gsFill_nil, gsFill_cons, sFor_ev, sWhile_ev, lcT_ev, eLc_ev, kBody_nx, kBody_rt, DL.start, see_p, List.set_cons_zero, List.set_cons_succ, List.map_cons, List.map_nil, List.cons_append, List.nil_append, List.length_cons, List.length_nil, List.replicate, Nat.reduceAdd, Nat.reduceSub, Nat.reduceEqDiff, if_true, if_false, Bool.false_eq_true, reduceIte, fAdd_i, fAdd_s, fAdd_t, fAdd_l, fSub_i, fMul_i, fMul_t, fMul_l, fDiv_i, fMod_i, fPow_i, fShr_i, fCmp_i, fNeg_i, fEq_i, fEq_s, fNe_i, fNe_s, fLen_l, fLen_t, fMax2_i, fMin2_i, fInt_i, fInt_b, fCut_l, fCut_t, mkP_t, mkP_f, mkL_f, mkL_t, toPs_nil, toPs_p, toPs_map, toPs_mapf, toP_p, fAll_l, fAny_l, fAll_m, fAny_m, all_true, fSum_l, fSum_t, fTuple_l, fTuple_t, fTuple_r, fList_l, fList_t, fList_r, fIsK_p, fRepr_ev, fApp_r, fPop_r, fIns_r, isL_r, items_t, elems_t, elems_l, mkTup, Option.map_some, isK, l3, l3', Bool.not_true, ct, io, pure1, at1, at2, ok_among, b1, b2, c1, c2, decide_true, Bool.and_self]
def GoodLs (es : List (Int × Int × Int)) : Prop := es.length ≤ 60 ∧ (∀ e ∈ es, GoodL e) ∧ (es.map (·.1)).Nodup
theorem ok_is_threaded {es : List (Int × Int × Int)} (h : GoodLs es) (S : Sto) : r_is_threaded [.p (.tuple (es.map ledT))] S = .ok (.p (.bool true)) S := by
  obtain ⟨h1, h2, h3⟩ := h
  have l1 : ¬ (60 : Int) < (es.length : Int) := by omega
  have lc := lc_map (g := gName 1) (t := tYes) (e := c1_is_threaded) (env := [some (.p (.tuple (es.map ledT))), none]) (S := S) (f := fun x : Int × Int × Int => D.p (ledT x)) (h := fun _ => some (.p (.bool true))) es (fun x hx => by
    simp only [body_ev, fInT_t, eIdxT_ev, isTq_t, fStrT_t, fNeN_l, fNeU_d, fNeU_t, fNeU_l, fNeU_i, fNeU_s, fNeU_b, fNeU_n, fEqU_d, fEqU_t, fEqU_l, fEqU_i, fEqU_s, fEqU_b, fEqU_n, isU_n, isU_c, fLeS_s, eD0_ev, fLen_s, fMul_s, fIx_s, eCutA_ev, fCutA_s, fCutA_l, fCutA_t, iStr_ev, iRangeD_ev, fLenD_r, gSl_ev, fSetSl_r, eDict0_ev, eMd1_ev, fUpd_r, Bool.false_xor, Bool.true_xor, Bool.not_true, Bool.not_false, eIsX_ev, fIsX_e, fIsX_n, eIsF_ev, fIsF_e, fIsF_n, eFld_ev, fIsN_x, eLam_ev, gTupQ_ev, e2V_ev, fEq_in, fPopAt_r, fSorted_l, fSorted_t, fMaxL_l, fMinL_l, eListRg_ev, eTupRg_ev, rgP_ev, iRange3_ev, fIsB_b, fIndex_l, fCount_l, isLq_l, isLq_r, eMq_ev, isDct_r, eGet_ev, fGet_r, fDictP_l, fLenSetA_t, fLenSetA_l, eStep_ev, fStep_l, fStep_t, sForR_ev, eLcR_ev, iEnumD_ev, iZipD_ev, sAug_ev, sAugL_ev, fIxL_r, fSetL_r, fLenSet_t, fIsN_n, fIsN_i, fIsN_t, fIsN_l, fIsN_s, fIsN_r, fExt_l, fExt_t, fIx_l, fIx_t, fIx_r, fSetIx_r, new_ev, bnd_R, bndR_ok, bndR_ex, ret_ev, opt_some, hush_ev, hushR_ok, iteM, eVar_ev, lkup, eC_ev, e2_ev, e1_ev, e2D_ev, e1D_ev, e3D_ev, aNil_ev, aCons_ev, eTupN_ev, eLstN_ev, eIf_ev, eIx_ev, eCut_ev, oNone_ev, oSome_ev, eIsK_ev, eTuple_ev, eList_ev, eCall_ev, eCallL_ev, eCallT_ev, eM0_ev, eM1_ev, eM2_ev, eDict_ev, ePairs_nil, ePairs_cons, eChain_ev, tVal_ev, tAnd_ev, tOr_ev, tNot_ev, tYes_ev, eAnd_ev, eOr_ev, eNot_ev, eFrz_ev, iVal_ev, iRange_ev, iRange2_ev, sNil_ev, kSeq_nx, kSeq_rt, kSeq_bk, kSeq_ct, sCons_ev, sExpr_ev, sSet_ev, gSub_ev, sAsg_ev, sRet_ev, sRetN_ev, sIf_ev, sRaise_ev, sBreak_ev, sCont_ev, sPar2_ev, sPar3_ev, gName_ev, gTup_ev, gsFill_nil, gsFill_cons, sFor_ev, sWhile_ev, lcT_ev, eLc_ev, kBody_nx, kBody_rt, DL.start, see_p, List.set_cons_zero, List.set_cons_succ, List.map_cons, List.map_nil, List.cons_append, List.nil_append, List.length_cons, List.length_nil, List.replicate, Nat.reduceAdd, Nat.reduceSub, Nat.reduceEqDiff, if_true, if_false, Bool.false_eq_true, reduceIte, fAdd_i, fAdd_s, fAdd_t, fAdd_l, fSub_i, fMul_i, fMul_t, fMul_l, fDiv_i, fMod_i, fPow_i, fShr_i, fCmp_i, fNeg_i, fEq_i, fEq_s, fNe_i, fNe_s, fLen_l, fLen_t, fMax2_i, fMin2_i, fInt_i, fInt_b, fCut_l, fCut_t, mkP_t, mkP_f, mkL_f, mkL_t, toPs_nil, toPs_p, toPs_map, toPs_mapf, toP_p, fAll_l, fAny_l, fAll_m, fAny_m, all_true, fSum_l, fSum_t, fTuple_l, fTuple_t, fTuple_r, fList_l, fList_t, fList_r, fIsK_p, fRepr_ev, fApp_r, fPop_r, fIns_r, isL_r, items_t, elems_t, elems_l, mkTup, Option.map_some, c1_is_threaded_ev, ok_is_led (h2 x hx), pure1])
  have lc2 := lc_map (g := gName 1) (t := tYes) (e := c2_is_threaded) (env := [some (.p (.tuple (es.map ledT))), none]) (S := S) (f := fun x : Int × Int × Int => D.p (ledT x)) (h := fun e => some (.p (.int e.1))) es (fun x hx => by
    have at0 : atL [PyData.int x.1, .int x.2.1, .int x.2.2] 0 = some (.int x.1) := rfl
    simp only [body_ev, fInT_t, eIdxT_ev, isTq_t, fStrT_t, fNeN_l, fNeU_d, fNeU_t, fNeU_l, fNeU_i, fNeU_s, fNeU_b, fNeU_n, fEqU_d, fEqU_t, fEqU_l, fEqU_i, fEqU_s, fEqU_b, fEqU_n, isU_n, isU_c, fLeS_s, eD0_ev, fLen_s, fMul_s, fIx_s, eCutA_ev, fCutA_s, fCutA_l, fCutA_t, iStr_ev, iRangeD_ev, fLenD_r, gSl_ev, fSetSl_r, eDict0_ev, eMd1_ev, fUpd_r, Bool.false_xor, Bool.true_xor, Bool.not_true, Bool.not_false, eIsX_ev, fIsX_e, fIsX_n, eIsF_ev, fIsF_e, fIsF_n, eFld_ev, fIsN_x, eLam_ev, gTupQ_ev, e2V_ev, fEq_in, fPopAt_r, fSorted_l, fSorted_t, fMaxL_l, fMinL_l, eListRg_ev, eTupRg_ev, rgP_ev, iRange3_ev, fIsB_b, fIndex_l, fCount_l, isLq_l, isLq_r, eMq_ev, isDct_r, eGet_ev, fGet_r, fDictP_l, fLenSetA_t, fLenSetA_l, eStep_ev, fStep_l, fStep_t, sForR_ev, eLcR_ev, iEnumD_ev, iZipD_ev, sAug_ev, sAugL_ev, fIxL_r, fSetL_r, fLenSet_t, fIsN_n, fIsN_i, fIsN_t, fIsN_l, fIsN_s, fIsN_r, fExt_l, fExt_t, fIx_l, fIx_t, fIx_r, fSetIx_r, new_ev, bnd_R, bndR_ok, bndR_ex, ret_ev, opt_some, hush_ev, hushR_ok, iteM, eVar_ev, lkup, eC_ev, e2_ev, e1_ev, e2D_ev, e1D_ev, e3D_ev, aNil_ev, aCons_ev, eTupN_ev, eLstN_ev, eIf_ev, eIx_ev, eCut_ev, oNone_ev, oSome_ev, eIsK_ev, eTuple_ev, eList_ev, eCall_ev, eCallL_ev, eCallT_ev, eM0_ev, eM1_ev, eM2_ev, eDict_ev, ePairs_nil, ePairs_cons, eChain_ev, tVal_ev, tAnd_ev, tOr_ev, tNot_ev, tYes_ev, eAnd_ev, eOr_ev, eNot_ev, eFrz_ev, iVal_ev, iRange_ev, iRange2_ev, sNil_ev, kSeq_nx, kSeq_rt, kSeq_bk, kSeq_ct, sCons_ev, sExpr_ev, sSet_ev, gSub_ev, sAsg_ev, sRet_ev, sRetN_ev, sIf_ev, sRaise_ev, sBreak_ev, sCont_ev, sPar2_ev, sPar3_ev, gName_ev, gTup_ev, gsFill_nil, gsFill_cons, sFor_ev, sWhile_ev, lcT_ev, eLc_ev, kBody_nx, kBody_rt, DL.start, see_p, List.set_cons_zero, List.set_cons_succ, List.map_cons, List.map_nil, List.cons_append, List.nil_append, List.length_cons, List.length_nil, List.replicate, Nat.reduceAdd, Nat.reduceSub, Nat.reduceEqDiff, if_true, if_false, Bool.false_eq_true, reduceIte, fAdd_i, fAdd_s, fAdd_t, fAdd_l, fSub_i, fMul_i, fMul_t, fMul_l, fDiv_i, fMod_i, fPow_i, fShr_i, fCmp_i, fNeg_i, fEq_i, fEq_s, fNe_i, fNe_s, fLen_l, fLen_t, fMax2_i, fMin2_i, fInt_i, fInt_b, fCut_l, fCut_t, mkP_t, mkP_f, mkL_f, mkL_t, toPs_nil, toPs_p, toPs_map, toPs_mapf, toP_p, fAll_l, fAny_l, fAll_m, fAny_m, all_true, fSum_l, fSum_t, fTuple_l, fTuple_t, fTuple_r, fList_l, fList_t, fList_r, fIsK_p, fRepr_ev, fApp_r, fPop_r, fIns_r, isL_r, items_t, elems_t, elems_l, mkTup, Option.map_some, c2_is_threaded_ev, at0])
  rw [List.filterMap_eq_map'] at lc lc2
  have io := ok_is_order (xs := es.map (·.1)) ⟨by simpa using h1, fun x hx => by
    obtain ⟨e, he, rfl⟩ := List.mem_map.mp hx
    exact (h2 e he).1, h3⟩ []
  rw [List.map_map] at io
  have io' : r_is_order [.p (.tuple (es.map fun e => .int e.1))] [] = .ok (.p (.bool true)) [] := io
  unfold r_is_threaded
  simp only [body_ev, fInT_t, eIdxT_ev, isTq_t, fStrT_t, fNeN_l, fNeU_d, fNeU_t, fNeU_l, fNeU_i, fNeU_s, fNeU_b, fNeU_n, fEqU_d, fEqU_t, fEqU_l, fEqU_i, fEqU_s, fEqU_b, fEqU_n, isU_n, isU_c, fLeS_s, eD0_ev, fLen_s, fMul_s, fIx_s, eCutA_ev, fCutA_s, fCutA_l, fCutA_t, iStr_ev, iRangeD_ev, fLenD_r, gSl_ev, fSetSl_r, eDict0_ev, eMd1_ev, fUpd_r, Bool.false_xor, Bool.true_xor, Bool.not_true, Bool.not_false, eIsX_ev, fIsX_e, fIsX_n, eIsF_ev, fIsF_e, fIsF_n, eFld_ev, fIsN_x, eLam_ev, gTupQ_ev, e2V_ev, fEq_in, fPopAt_r, fSorted_l, fSorted_t, fMaxL_l, fMinL_l, eListRg_ev, eTupRg_ev, rgP_ev, iRange3_ev, fIsB_b, fIndex_l, fCount_l, isLq_l, isLq_r, eMq_ev, isDct_r, eGet_ev, fGet_r, fDictP_l, fLenSetA_t, fLenSetA_l, eStep_ev, fStep_l, fStep_t, sForR_ev, eLcR_ev, iEnumD_ev, iZipD_ev, sAug_ev, sAugL_ev, fIxL_r, fSetL_r, fLenSet_t, fIsN_n, fIsN_i, fIsN_t, fIsN_l, fIsN_s, fIsN_r, fExt_l, fExt_t, fIx_l, fIx_t, fIx_r, fSetIx_r, new_ev, bnd_R, bndR_ok, bndR_ex, ret_ev, opt_some, hush_ev, hushR_ok, iteM, eVar_ev, lkup, eC_ev, e2_ev, e1_ev, e2D_ev, e1D_ev, e3D_ev, aNil_ev, aCons_ev, eTupN_ev, eLstN_ev, eIf_ev, eIx_ev, eCut_ev, oNone_ev, oSome_ev, eIsK_ev, eTuple_ev, eList_ev, eCall_ev, eCallL_ev, eCallT_ev, eM0_ev, eM1_ev, eM2_ev, eDict_ev, ePairs_nil, ePairs_cons, eChain_ev, tVal_ev, tAnd_ev, tOr_ev, tNot_ev, tYes_ev, eAnd_ev, eOr_ev, eNot_ev, eFrz_ev, iVal_ev, iRange_ev, iRange2_ev, sNil_ev, kSeq_nx, kSeq_rt, kSeq_bk, kSeq_ct, sCons_ev, sExpr_ev, sSet_ev, gSub_ev, sAsg_ev, sRet_ev, sRetN_ev, sIf_ev, sRaise_ev, sBreak_ev, sCont_ev, sPar2_ev, sPar3_ev, gName_ev, gTup_ev, gsFill_nil, gsFill_cons, sFor_ev, sWhile_ev, lcT_ev, eLc_ev, kBody_nx, kBody_rt, DL.start, see_p, List.set_cons_zero, List.set_cons_succ, List.map_cons, List.map_nil, List.cons_append, List.nil_append, List.length_cons, List.length_nil, List.replicate, Nat.reduceAdd, Nat.reduceSub, Nat.reduceEqDiff, if_true, if_false, Bool.false_eq_true, reduceIte, fAdd_i, fAdd_s, fAdd_t, fAdd_l, fSub_i, fMul_i, fMul_t, fMul_l, fDiv_i, fMod_i, fPow_i, fShr_i, fCmp_i, fNeg_i, fEq_i, fEq_s, fNe_i, fNe_s, fLen_l, fLen_t, fMax2_i, fMin2_i, fInt_i, fInt_b, fCut_l, fCut_t, mkP_t, mkP_f, mkL_f, mkL_t, toPs_nil, toPs_p, toPs_map, toPs_mapf, toP_p, fAll_l, fAny_l, fAll_m, fAny_m, all_true, fSum_l, fSum_t, fTuple_l, fTuple_t, fTuple_r, fList_l, fList_t, fList_r, fIsK_p, fRepr_ev, fApp_r, fPop_r, fIns_r, isL_r, items_t, elems_t, elems_l, mkTup, Option.map_some, isK, List.length_map, l1, decide_false, decide_true, Bool.not_true, DL.wipe, List.map_map, Function.comp_def, lc, lc2, io', pure1]
/-- the thread at place i, its shaft, its eye -/
def ledE (os zs : List Int) (b : Int) (i : Nat) : Int × Int × Int := (os.getD i 0, sh zs b i, (num (sh zs b) i (sh zs b i) : Nat))
theorem led_E (os zs : List Int) (b : Int) : led os zs b = fun i => ledT (ledE os zs b i) := rfl
theorem good_led {os zs : List Int} {b : Int} (ho : GoodO os) (hz : GoodD zs) : GoodLs ((List.range os.length).map (ledE os zs b)) := by
  obtain ⟨h1, h2, h3⟩ := ho
  refine ⟨by simpa using h1, fun e he => ?_, ?_⟩
  · obtain ⟨i, hi, rfl⟩ := List.mem_map.mp he
    have hi := List.mem_range.mp hi
    obtain ⟨_, s2, s3⟩ := sh_at hz b i
    have e : os.getD i 0 = os[i] := by rw [List.getD_eq_getElem?_getD, List.getElem?_eq_getElem hi]; rfl
    have := h2 os[i] (List.getElem_mem hi)
    have nl := num_le (sh zs b) i (sh zs b i)
    exact ⟨by show 0 ≤ os.getD i 0 ∧ os.getD i 0 ≤ 99; rw [e]; exact this, ⟨s2, s3⟩, by show (0:Int) ≤ ((num (sh zs b) i (sh zs b i) : Nat) : Int); omega, by show ((num (sh zs b) i (sh zs b i) : Nat) : Int) ≤ 59; omega⟩
  · have : (((List.range os.length).map (ledE os zs b)).map (·.1)) = os := by
      rw [List.map_map]
      apply List.ext_getElem (by simp)
      intro i a c
      have hi : i < os.length := by simpa using a
      simp [ledE, List.getElem?_eq_getElem hi]
    rw [this]
    exact h3
end Pk55

namespace Pk55
open PySem DL
/-! eyes doubled and empty: in plain lists -/
abbrev Led := Int × Int × Int
abbrev prs (es : List Led) : List (Int × Int) := es.map fun e => e.2
def hadS (es : List Led) (s : Int) : List Int := (es.filter fun e => decide (e.2.1 = s)).map fun e => e.2.2
theorem mem_hadS {es : List Led} {s y : Int} : y ∈ hadS es s ↔ (s, y) ∈ prs es := by
  unfold hadS
  simp only [List.mem_map, List.mem_filter, decide_eq_true_eq]
  constructor
  · rintro ⟨⟨t, a, b⟩, ⟨h, rfl⟩, rfl⟩
    exact ⟨_, h, rfl⟩
  · rintro ⟨⟨t, a, b⟩, h, e⟩
    cases e
    exact ⟨_, ⟨h, rfl⟩, rfl⟩
theorem count_hadS (es : List Led) (s y : Int) : (hadS es s).count y = (prs es).count (s, y) := by
  unfold hadS
  induction es with
  | nil => rfl
  | cons e es ih =>
    obtain ⟨t, a, b⟩ := e
    have e1 : prs ((t, a, b) :: es) = (a, b) :: prs es := rfl
    rw [e1, List.count_cons]
    by_cases h : a = s
    · subst h
      rw [List.filter_cons, if_pos (decide_eq_true rfl), List.map_cons, List.count_cons, ih]
      congr 1
      by_cases hb : b = y
      · simp [hb]
      · simp [hb]
    · rw [List.filter_cons, if_neg (by simpa using h), ih]
      have : ((a, b) == (s, y)) = false := by
        rw [beq_eq_false_iff_ne]
        intro z
        cases z
        exact h rfl
      rw [this]
      simp
def twS (es : List Led) (s : Nat) : List (Int × Int) := ((List.range 60).filter fun y : Nat => decide (1 < (prs es).count ((s : Int), (y : Int)))).map fun y : Nat => ((s : Int), (y : Int))
def twL (es : List Led) (n : Nat) : List (Int × Int) := ((List.range n).map (twS es)).flatten
theorem twL_succ (es : List Led) (n : Nat) : twL es (n + 1) = twL es n ++ twS es n := by
  unfold twL
  rw [List.range_succ, List.map_append, List.flatten_append]
  simp
def mx (es : List Led) (s : Int) : Nat := ((hadS es s).foldl max 0).toNat
def noS (es : List Led) (s : Nat) : List (Int × Int) := ((List.range (mx es s)).filter fun y : Nat => !decide (((s : Int), (y : Int)) ∈ prs es)).map fun y : Nat => ((s : Int), (y : Int))
def noL (es : List Led) (n : Nat) : List (Int × Int) := ((List.range n).map (noS es)).flatten
theorem noL_succ (es : List Led) (n : Nat) : noL es (n + 1) = noL es n ++ noS es n := by
  unfold noL
  rw [List.range_succ, List.map_append, List.flatten_append]
  simp
theorem fold_max_le (b : Int) : ∀ (l : List Int) (a : Int), a ≤ b → (∀ x ∈ l, x ≤ b) → l.foldl max a ≤ b
  | [], a, h, _ => h
  | x :: l, a, h, hl => fold_max_le b l (max a x) (by have := hl x List.mem_cons_self; omega) fun y hy => hl y (List.mem_cons_of_mem _ hy)
theorem fold_max_ge : ∀ (l : List Int) (a : Int), a ≤ l.foldl max a
  | [], a => Int.le_refl _
  | x :: l, a => Int.le_trans (by omega) (fold_max_ge l (max a x))
theorem had_bound {es : List Led} (h : GoodLs es) (s : Int) : ∀ y ∈ hadS es s, 0 ≤ y ∧ y ≤ 59 := fun y hy => by
  obtain ⟨e, he, rfl⟩ := List.mem_map.mp hy
  exact (h.2.1 e (List.mem_filter.mp he).1).2.2
theorem mx_le {es : List Led} (h : GoodLs es) (s : Int) : mx es s ≤ 59 := by
  have := fold_max_le 59 (hadS es s) 0 (by decide) fun y hy => (had_bound h s y hy).2
  unfold mx
  omega
theorem mx_other {es : List Led} (h : GoodLs es) (s : Int) : ((hadS es s).foldl max (-1)).toNat = mx es s ∧ -1 ≤ (hadS es s).foldl max (-1) ∧ (hadS es s).foldl max (-1) ≤ 59 ∧ 0 ≤ (hadS es s).foldl max 0 ∧ (hadS es s).foldl max 0 ≤ 59 := by
  have b := had_bound h s
  refine ⟨?_, fold_max_ge _ _, fold_max_le 59 _ _ (by decide) fun y hy => (b y hy).2, fold_max_ge _ _, fold_max_le 59 _ _ (by decide) fun y hy => (b y hy).2⟩
  unfold mx
  cases e : hadS es s with
  | nil => rfl
  | cons x l =>
    have := b x (by rw [e]; simp)
    rw [List.foldl_cons, List.foldl_cons, show max (-1) x = max 0 x by omega]
theorem tw_len {es : List Led} : ∀ n, (twL es n).length ≤ 60 * n
  | 0 => by simp [twL]
  | n + 1 => by
    have := tw_len (es := es) n
    rw [twL_succ, List.length_append]
    have : (twS es n).length ≤ 60 := by
      unfold twS
      rw [List.length_map]
      exact Nat.le_trans (List.length_filter_le _ _) (by simp)
    omega
theorem no_len {es : List Led} (h : GoodLs es) : ∀ n, (noL es n).length ≤ 60 * n
  | 0 => by simp [noL]
  | n + 1 => by
    have := no_len h n
    rw [noL_succ, List.length_append]
    have : (noS es n).length ≤ 60 := by
      unfold noS
      rw [List.length_map]
      refine Nat.le_trans (List.length_filter_le _ _) ?_
      have := mx_le h n
      simp
      omega
    omega
theorem tw_mem {es : List Led} {n : Nat} {p : Int × Int} : p ∈ twL es n ↔ ∃ s y : Nat, s < n ∧ y < 60 ∧ p = ((s : Int), (y : Int)) ∧ 1 < (prs es).count p := by
  unfold twL twS
  simp only [List.mem_flatten, List.mem_map, List.mem_range]
  constructor
  · rintro ⟨l, ⟨s, hs, rfl⟩, hp⟩
    obtain ⟨y, hy, rfl⟩ := List.mem_map.mp hp
    obtain ⟨h1, h2⟩ := List.mem_filter.mp hy
    exact ⟨s, y, hs, List.mem_range.mp h1, rfl, of_decide_eq_true h2⟩
  · rintro ⟨s, y, hs, hy, rfl, hc⟩
    exact ⟨_, ⟨s, hs, rfl⟩, List.mem_map.mpr ⟨y, List.mem_filter.mpr ⟨List.mem_range.mpr hy, decide_eq_true hc⟩, rfl⟩⟩
theorem tw_up {es : List Led} : ∀ n, (twL es n).Pairwise fun p q => prC p < prC q
  | 0 => by simp [twL]
  | n + 1 => by
    rw [twL_succ, List.pairwise_append]
    refine ⟨tw_up n, ?_, fun p hp q hq => ?_⟩
    · unfold twS
      refine List.pairwise_map.mpr ((List.pairwise_lt_range.filter _).imp fun {a b} h => ?_)
      unfold prC
      omega
    · obtain ⟨s, y, hs, hy, rfl, _⟩ := tw_mem.mp hp
      obtain ⟨z, _, rfl⟩ := List.mem_map.mp hq
      unfold prC
      show (s : Int) * 64 + y < (n : Int) * 64 + z
      omega
theorem m_dist : ∀ (ns : List Int) (x : Int), x ∈ dist ns ↔ x ∈ ns
  | [], x => Iff.rfl
  | y :: ns, x => by
    have ih := m_dist ns x
    unfold dist
    split
    · rename_i h
      rw [List.mem_cons, ih]
      constructor
      · exact .inr
      · rintro (rfl | z)
        · exact (m_dist ns _).mp (by assumption)
        · exact z
    · rw [List.mem_cons, List.mem_cons, ih]
theorem nd_dist : ∀ ns : List Int, (dist ns).Nodup
  | [] => List.nodup_nil
  | y :: ns => by
    unfold dist
    split
    · exact nd_dist ns
    · exact List.nodup_cons.mpr ⟨by assumption, nd_dist ns⟩
/-- the doubled eyes, sorted -/
theorem sort_tw {es : List Led} (h : GoodLs es) : sortP ((prs es).filter fun p => decide (1 < (prs es).count p)) = twL es 8 := by
  have bd : ∀ p ∈ prs es, 0 ≤ p.1 ∧ p.1 ≤ 7 ∧ 0 ≤ p.2 ∧ p.2 ≤ 59 := fun p hp => by
    obtain ⟨e, he, rfl⟩ := List.mem_map.mp hp
    have := h.2.1 e he
    exact ⟨this.2.1.1, this.2.1.2, this.2.2.1, this.2.2.2⟩
  have up := tw_up (es := es) 8
  have ec : (twL es 8).map prC = sortI (dist (((prs es).filter fun p => decide (1 < (prs es).count p)).map prC)) := by
    refine List.Perm.eq_of_pairwise (le := fun a b : Int => a ≤ b) (fun a b _ _ h1 h2 => by omega) (List.pairwise_map.mpr (up.imp fun h => by omega)) ?_ ?_
    · have := List.pairwise_mergeSort (le := fun a b : Int => decide (a ≤ b)) (fun a b c h1 h2 => by
        have := of_decide_eq_true h1
        have := of_decide_eq_true h2
        exact decide_eq_true (by omega)) (fun a b => by
        by_cases h : a ≤ b
        · rw [decide_eq_true h]; rfl
        · rw [decide_eq_true (by omega : b ≤ a)]; simp) (dist (((prs es).filter fun p => decide (1 < (prs es).count p)).map prC))
      exact this.imp fun h => of_decide_eq_true h
    · have n1 : ((twL es 8).map prC).Nodup := List.pairwise_map.mpr (up.imp fun h => by omega)
      have pm : (sortI (dist (((prs es).filter fun p => decide (1 < (prs es).count p)).map prC))).Perm (dist (((prs es).filter fun p => decide (1 < (prs es).count p)).map prC)) := List.mergeSort_perm ..
      refine ((List.perm_ext_iff_of_nodup n1 (nd_dist _)).mpr fun c => ?_).trans pm.symm
      rw [m_dist, List.mem_map, List.mem_map]
      constructor
      · rintro ⟨p, hp, rfl⟩
        obtain ⟨s, y, _, _, rfl, hc⟩ := tw_mem.mp hp
        exact ⟨_, List.mem_filter.mpr ⟨List.count_pos_iff.mp (by omega), decide_eq_true hc⟩, rfl⟩
      · rintro ⟨p, hp, rfl⟩
        obtain ⟨h1, h2⟩ := List.mem_filter.mp hp
        have := bd p h1
        exact ⟨p, tw_mem.mpr ⟨p.1.toNat, p.2.toNat, by omega, by omega, by ext <;> simp <;> omega, of_decide_eq_true h2⟩, rfl⟩
  unfold sortP
  rw [← ec, List.map_map]
  conv => rhs; rw [← List.map_id (twL es 8)]
  refine List.map_congr_left fun p hp => ?_
  obtain ⟨s, y, hs, hy, rfl, _⟩ := tw_mem.mp hp
  show (((s : Int) * 64 + y) / 64, ((s : Int) * 64 + y) % 64) = ((s : Int), (y : Int))
  congr 1 <;> omega
end Pk55

namespace Pk55
open PySem DL
/-! the program's looks at eyes -/
abbrev DP (L : List (Int × Int)) : List D := L.map fun p => .p (prT p)
theorem dp_map (L : List (Int × Int)) : (L.map prT).map D.p = DP L := by rw [List.map_map]; rfl
theorem filt {α : Type} (l : List α) (q : α → Bool) (g : α → D) : (l.filterMap fun x => if q x = true then some (g x) else none) = (l.filter q).map g := by
  induction l with
  | nil => rfl
  | cons x l ih => cases h : q x <;> simp [List.filterMap_cons, List.filter_cons, h, ih]
theorem eqv_pr (p q : Int × Int) : PyData.eqv (prT p) (prT q) = decide (p = q) := by
  show PyData.eqv (.tuple ([p.1, p.2].map PyData.int)) (.tuple ([q.1, q.2].map PyData.int)) = _
  rw [eqv_tt, eqvAll_ints, decide_eq_decide]
  obtain ⟨a, b⟩ := p
  obtain ⟨c, d⟩ := q
  simp
def Sm2 (L : List (Int × Int)) : Prop := ∀ p ∈ L, 0 ≤ p.1 ∧ p.1 ≤ 63 ∧ 0 ≤ p.2 ∧ p.2 ≤ 63
theorem pl_pr {p : Int × Int} (h : 0 ≤ p.1 ∧ p.1 ≤ 63 ∧ 0 ≤ p.2 ∧ p.2 ≤ 63) : Pl 1 16 (prT p) := by
  have a : Pl 0 7 (.int p.1) := pl_int (by omega) (by decide) (by decide) 0
  have b : Pl 0 7 (.int p.2) := pl_int (by omega) (by decide) (by decide) 0
  exact (pl_tup (pls_cons a (pls_cons b (pls_nil 0 0)))).mono (by decide) (by decide)
theorem pls_pr {L : List (Int × Int)} (h : Sm2 L) : Pls 1 (17 * L.length) (L.map prT) := by
  have := pls_all (d := 1) (w := 16) (xs := L.map prT) (fun x hx => by
    obtain ⟨p, hp, rfl⟩ := List.mem_map.mp hx
    exact pl_pr (h p hp))
  rw [List.length_map] at this
  exact this.mono (Nat.le_refl _) (by omega)
theorem sm_prs {es : List Led} (h : GoodLs es) : Sm2 (prs es) := fun p hp => by
  obtain ⟨e, he, rfl⟩ := List.mem_map.mp hp
  have := h.2.1 e he
  exact ⟨this.2.1.1, by have := this.2.1.2; omega, this.2.2.1, by have := this.2.2.2; omega⟩
theorem count_pr {L : List (Int × Int)} (h : Sm2 L) {p : Int × Int} (hp : p ∈ L) (S : Sto) : fCountD (.list (L.map prT)) (prT p) S = .ok (.p (.int (L.count p : Nat))) S := by
  have s1 : SeqAt.shaped (.list (L.map prT)) = true := (pl_lst (pls_pr h)).shaped (by decide)
  have s2 : SeqAt.shaped (prT p) = true := (pl_pr (h p hp)).shaped (by decide)
  have e : (L.map prT).countP (fun z => PyData.eqv z (prT p)) = L.count p := by
    rw [List.countP_map, List.count_eq_countP]
    refine List.countP_congr fun q _ => ?_
    show PyData.eqv (prT q) (prT p) = true ↔ _
    rw [eqv_pr]
    simp
  show (if (SeqAt.shaped (.list (L.map prT)) && SeqAt.shaped (prT p)) = true then ret (D.p (.int ((L.map prT).countP fun z => PyData.eqv z (prT p) : Nat))) else no : M D) S = _
  rw [s1, s2, e]
  rfl
theorem in_pr {L : List (Int × Int)} (h : Sm2 L) {p : Int × Int} (hp : 0 ≤ p.1 ∧ p.1 ≤ 63 ∧ 0 ≤ p.2 ∧ p.2 ≤ 63) (neg : Bool) (S : Sto) : fInD neg (.p (prT p)) (.p (.list (L.map prT))) S = .ok (.p (.bool (neg ^^ decide (p ∈ L)))) S := by
  have s1 : SeqAt.shaped (.list (L.map prT)) = true := (pl_lst (pls_pr h)).shaped (by decide)
  have s2 : SeqAt.shaped (prT p) = true := (pl_pr hp).shaped (by decide)
  have m : memOk (prT p) (L.map prT) = true := by
    unfold memOk
    rw [s1, s2]
    simp
  have e : (L.map prT).any (fun z => PyData.eqv z (prT p)) = decide (p ∈ L) := by
    rw [Bool.eq_iff_iff, List.any_eq_true, decide_eq_true_eq]
    constructor
    · rintro ⟨z, hz, hq⟩
      obtain ⟨q, hq', rfl⟩ := List.mem_map.mp hz
      rw [eqv_pr] at hq
      rw [← of_decide_eq_true hq]
      exact hq'
    · intro hm
      exact ⟨_, List.mem_map.mpr ⟨p, hm, rfl⟩, by rw [eqv_pr]; exact decide_eq_true rfl⟩
  show (if memOk (prT p) (L.map prT) = true then ret (D.p (.bool (neg ^^ (L.map prT).any fun z => PyData.eqv z (prT p)))) else no : M D) S = _
  rw [m, e]
  rfl
theorem ok_need_threaded {es : List Led} (h : GoodLs es) (S : Sto) : r_need_threaded [.p (.tuple (es.map ledT))] S = .ok (.p .none) S := by
  unfold r_need_threaded
  simp only [body_ev, fInT_t, eIdxT_ev, isTq_t, fStrT_t, fNeN_l, fNeU_d, fNeU_t, fNeU_l, fNeU_i, fNeU_s, fNeU_b, fNeU_n, fEqU_d, fEqU_t, fEqU_l, fEqU_i, fEqU_s, fEqU_b, fEqU_n, isU_n, isU_c, fLeS_s, eD0_ev, fLen_s, fMul_s, fIx_s, eCutA_ev, fCutA_s, fCutA_l, fCutA_t, iStr_ev, iRangeD_ev, fLenD_r, gSl_ev, fSetSl_r, eDict0_ev, eMd1_ev, fUpd_r, Bool.false_xor, Bool.true_xor, Bool.not_true, Bool.not_false, eIsX_ev, fIsX_e, fIsX_n, eIsF_ev, fIsF_e, fIsF_n, eFld_ev, fIsN_x, eLam_ev, gTupQ_ev, e2V_ev, fEq_in, fPopAt_r, fSorted_l, fSorted_t, fMaxL_l, fMinL_l, eListRg_ev, eTupRg_ev, rgP_ev, iRange3_ev, fIsB_b, fIndex_l, fCount_l, isLq_l, isLq_r, eMq_ev, isDct_r, eGet_ev, fGet_r, fDictP_l, fLenSetA_t, fLenSetA_l, eStep_ev, fStep_l, fStep_t, sForR_ev, eLcR_ev, iEnumD_ev, iZipD_ev, sAug_ev, sAugL_ev, fIxL_r, fSetL_r, fLenSet_t, fIsN_n, fIsN_i, fIsN_t, fIsN_l, fIsN_s, fIsN_r, fExt_l, fExt_t, fIx_l, fIx_t, fIx_r, fSetIx_r, new_ev, bnd_R, bndR_ok, bndR_ex, ret_ev, opt_some, hush_ev, hushR_ok, iteM, eVar_ev, lkup, eC_ev, e2_ev, e1_ev, e2D_ev, e1D_ev, e3D_ev, aNil_ev, aCons_ev, eTupN_ev, eLstN_ev, eIf_ev, eIx_ev, eCut_ev, oNone_ev, oSome_ev, eIsK_ev, eTuple_ev, eList_ev, eCall_ev, eCallL_ev, eCallT_ev, eM0_ev, eM1_ev, eM2_ev, eDict_ev, ePairs_nil, ePairs_cons, eChain_ev, tVal_ev, tAnd_ev, tOr_ev, tNot_ev, tYes_ev, eAnd_ev, eOr_ev, eNot_ev, eFrz_ev, iVal_ev, iRange_ev, iRange2_ev, sNil_ev, kSeq_nx, kSeq_rt, kSeq_bk, kSeq_ct, sCons_ev, sExpr_ev, sSet_ev, gSub_ev, sAsg_ev, sRet_ev, sRetN_ev, sIf_ev, sRaise_ev, sBreak_ev, sCont_ev, sPar2_ev, sPar3_ev, gName_ev, gTup_ev, gsFill_nil, gsFill_cons, sFor_ev, sWhile_ev, lcT_ev, eLc_ev, kBody_nx, kBody_rt, DL.start, see_p, List.set_cons_zero, List.set_cons_succ, List.map_cons, List.map_nil, List.cons_append, List.nil_append, List.length_cons, List.length_nil, List.replicate, Nat.reduceAdd, Nat.reduceSub, Nat.reduceEqDiff, if_true, if_false, Bool.false_eq_true, reduceIte, fAdd_i, fAdd_s, fAdd_t, fAdd_l, fSub_i, fMul_i, fMul_t, fMul_l, fDiv_i, fMod_i, fPow_i, fShr_i, fCmp_i, fNeg_i, fEq_i, fEq_s, fNe_i, fNe_s, fLen_l, fLen_t, fMax2_i, fMin2_i, fInt_i, fInt_b, fCut_l, fCut_t, mkP_t, mkP_f, mkL_f, mkL_t, toPs_nil, toPs_p, toPs_map, toPs_mapf, toP_p, fAll_l, fAny_l, fAll_m, fAny_m, all_true, fSum_l, fSum_t, fTuple_l, fTuple_t, fTuple_r, fList_l, fList_t, fList_r, fIsK_p, fRepr_ev, fApp_r, fPop_r, fIns_r, isL_r, items_t, elems_t, elems_l, mkTup, Option.map_some, ok_is_threaded h, pure1, Bool.not_true]
theorem ok_had {es : List Led} (S : Sto) : r_eyes_had [.p (.tuple (es.map ledT))] S = .ok (.p (.list ((prs es).map prT))) S := by
  have lc := lc_map (g := gName 1) (t := tYes) (e := c1_eyes_had) (env := [some (.p (.tuple (es.map ledT))), none]) (S := S) (f := fun e : Led => D.p (ledT e)) (h := fun e => some (.p (prT e.2))) es (fun e _ => by
    have ct : cutL [PyData.int e.1, .int e.2.1, .int e.2.2] (some 1) none = [PyData.int e.2.1, .int e.2.2] := rfl
    have pe : prT e.2 = .tuple [.int e.2.1, .int e.2.2] := rfl
    rw [pe]
    simp only [body_ev, fInT_t, eIdxT_ev, isTq_t, fStrT_t, fNeN_l, fNeU_d, fNeU_t, fNeU_l, fNeU_i, fNeU_s, fNeU_b, fNeU_n, fEqU_d, fEqU_t, fEqU_l, fEqU_i, fEqU_s, fEqU_b, fEqU_n, isU_n, isU_c, fLeS_s, eD0_ev, fLen_s, fMul_s, fIx_s, eCutA_ev, fCutA_s, fCutA_l, fCutA_t, iStr_ev, iRangeD_ev, fLenD_r, gSl_ev, fSetSl_r, eDict0_ev, eMd1_ev, fUpd_r, Bool.false_xor, Bool.true_xor, Bool.not_true, Bool.not_false, eIsX_ev, fIsX_e, fIsX_n, eIsF_ev, fIsF_e, fIsF_n, eFld_ev, fIsN_x, eLam_ev, gTupQ_ev, e2V_ev, fEq_in, fPopAt_r, fSorted_l, fSorted_t, fMaxL_l, fMinL_l, eListRg_ev, eTupRg_ev, rgP_ev, iRange3_ev, fIsB_b, fIndex_l, fCount_l, isLq_l, isLq_r, eMq_ev, isDct_r, eGet_ev, fGet_r, fDictP_l, fLenSetA_t, fLenSetA_l, eStep_ev, fStep_l, fStep_t, sForR_ev, eLcR_ev, iEnumD_ev, iZipD_ev, sAug_ev, sAugL_ev, fIxL_r, fSetL_r, fLenSet_t, fIsN_n, fIsN_i, fIsN_t, fIsN_l, fIsN_s, fIsN_r, fExt_l, fExt_t, fIx_l, fIx_t, fIx_r, fSetIx_r, new_ev, bnd_R, bndR_ok, bndR_ex, ret_ev, opt_some, hush_ev, hushR_ok, iteM, eVar_ev, lkup, eC_ev, e2_ev, e1_ev, e2D_ev, e1D_ev, e3D_ev, aNil_ev, aCons_ev, eTupN_ev, eLstN_ev, eIf_ev, eIx_ev, eCut_ev, oNone_ev, oSome_ev, eIsK_ev, eTuple_ev, eList_ev, eCall_ev, eCallL_ev, eCallT_ev, eM0_ev, eM1_ev, eM2_ev, eDict_ev, ePairs_nil, ePairs_cons, eChain_ev, tVal_ev, tAnd_ev, tOr_ev, tNot_ev, tYes_ev, eAnd_ev, eOr_ev, eNot_ev, eFrz_ev, iVal_ev, iRange_ev, iRange2_ev, sNil_ev, kSeq_nx, kSeq_rt, kSeq_bk, kSeq_ct, sCons_ev, sExpr_ev, sSet_ev, gSub_ev, sAsg_ev, sRet_ev, sRetN_ev, sIf_ev, sRaise_ev, sBreak_ev, sCont_ev, sPar2_ev, sPar3_ev, gName_ev, gTup_ev, gsFill_nil, gsFill_cons, sFor_ev, sWhile_ev, lcT_ev, eLc_ev, kBody_nx, kBody_rt, DL.start, see_p, List.set_cons_zero, List.set_cons_succ, List.map_cons, List.map_nil, List.cons_append, List.nil_append, List.length_cons, List.length_nil, List.replicate, Nat.reduceAdd, Nat.reduceSub, Nat.reduceEqDiff, if_true, if_false, Bool.false_eq_true, reduceIte, fAdd_i, fAdd_s, fAdd_t, fAdd_l, fSub_i, fMul_i, fMul_t, fMul_l, fDiv_i, fMod_i, fPow_i, fShr_i, fCmp_i, fNeg_i, fEq_i, fEq_s, fNe_i, fNe_s, fLen_l, fLen_t, fMax2_i, fMin2_i, fInt_i, fInt_b, fCut_l, fCut_t, mkP_t, mkP_f, mkL_f, mkL_t, toPs_nil, toPs_p, toPs_map, toPs_mapf, toP_p, fAll_l, fAny_l, fAll_m, fAny_m, all_true, fSum_l, fSum_t, fTuple_l, fTuple_t, fTuple_r, fList_l, fList_t, fList_r, fIsK_p, fRepr_ev, fApp_r, fPop_r, fIns_r, isL_r, items_t, elems_t, elems_l, mkTup, Option.map_some, c1_eyes_had_ev, ct])
  rw [List.filterMap_eq_map'] at lc
  have tm := toPs_mapf (fun e : Led => prT e.2) es
  unfold r_eyes_had
  simp only [body_ev, fInT_t, eIdxT_ev, isTq_t, fStrT_t, fNeN_l, fNeU_d, fNeU_t, fNeU_l, fNeU_i, fNeU_s, fNeU_b, fNeU_n, fEqU_d, fEqU_t, fEqU_l, fEqU_i, fEqU_s, fEqU_b, fEqU_n, isU_n, isU_c, fLeS_s, eD0_ev, fLen_s, fMul_s, fIx_s, eCutA_ev, fCutA_s, fCutA_l, fCutA_t, iStr_ev, iRangeD_ev, fLenD_r, gSl_ev, fSetSl_r, eDict0_ev, eMd1_ev, fUpd_r, Bool.false_xor, Bool.true_xor, Bool.not_true, Bool.not_false, eIsX_ev, fIsX_e, fIsX_n, eIsF_ev, fIsF_e, fIsF_n, eFld_ev, fIsN_x, eLam_ev, gTupQ_ev, e2V_ev, fEq_in, fPopAt_r, fSorted_l, fSorted_t, fMaxL_l, fMinL_l, eListRg_ev, eTupRg_ev, rgP_ev, iRange3_ev, fIsB_b, fIndex_l, fCount_l, isLq_l, isLq_r, eMq_ev, isDct_r, eGet_ev, fGet_r, fDictP_l, fLenSetA_t, fLenSetA_l, eStep_ev, fStep_l, fStep_t, sForR_ev, eLcR_ev, iEnumD_ev, iZipD_ev, sAug_ev, sAugL_ev, fIxL_r, fSetL_r, fLenSet_t, fIsN_n, fIsN_i, fIsN_t, fIsN_l, fIsN_s, fIsN_r, fExt_l, fExt_t, fIx_l, fIx_t, fIx_r, fSetIx_r, new_ev, bnd_R, bndR_ok, bndR_ex, ret_ev, opt_some, hush_ev, hushR_ok, iteM, eVar_ev, lkup, eC_ev, e2_ev, e1_ev, e2D_ev, e1D_ev, e3D_ev, aNil_ev, aCons_ev, eTupN_ev, eLstN_ev, eIf_ev, eIx_ev, eCut_ev, oNone_ev, oSome_ev, eIsK_ev, eTuple_ev, eList_ev, eCall_ev, eCallL_ev, eCallT_ev, eM0_ev, eM1_ev, eM2_ev, eDict_ev, ePairs_nil, ePairs_cons, eChain_ev, tVal_ev, tAnd_ev, tOr_ev, tNot_ev, tYes_ev, eAnd_ev, eOr_ev, eNot_ev, eFrz_ev, iVal_ev, iRange_ev, iRange2_ev, sNil_ev, kSeq_nx, kSeq_rt, kSeq_bk, kSeq_ct, sCons_ev, sExpr_ev, sSet_ev, gSub_ev, sAsg_ev, sRet_ev, sRetN_ev, sIf_ev, sRaise_ev, sBreak_ev, sCont_ev, sPar2_ev, sPar3_ev, gName_ev, gTup_ev, gsFill_nil, gsFill_cons, sFor_ev, sWhile_ev, lcT_ev, eLc_ev, kBody_nx, kBody_rt, DL.start, see_p, List.set_cons_zero, List.set_cons_succ, List.map_cons, List.map_nil, List.cons_append, List.nil_append, List.length_cons, List.length_nil, List.replicate, Nat.reduceAdd, Nat.reduceSub, Nat.reduceEqDiff, if_true, if_false, Bool.false_eq_true, reduceIte, fAdd_i, fAdd_s, fAdd_t, fAdd_l, fSub_i, fMul_i, fMul_t, fMul_l, fDiv_i, fMod_i, fPow_i, fShr_i, fCmp_i, fNeg_i, fEq_i, fEq_s, fNe_i, fNe_s, fLen_l, fLen_t, fMax2_i, fMin2_i, fInt_i, fInt_b, fCut_l, fCut_t, mkP_t, mkP_f, mkL_f, mkL_t, toPs_nil, toPs_p, toPs_map, toPs_mapf, toP_p, fAll_l, fAny_l, fAll_m, fAny_m, all_true, fSum_l, fSum_t, fTuple_l, fTuple_t, fTuple_r, fList_l, fList_t, fList_r, fIsK_p, fRepr_ev, fApp_r, fPop_r, fIns_r, isL_r, items_t, elems_t, elems_l, mkTup, Option.map_some, DL.wipe, List.map_map, Function.comp_def, lc, tm]
abbrev dbl (es : List Led) : List (Int × Int) := (prs es).filter fun p => decide (1 < (prs es).count p)
theorem ok_doubled {es : List Led} (h : GoodLs es) (S : Sto) : r_doubled [.p (.tuple (es.map ledT))] S = .ok (.ref S.length) (S ++ [.lst (DP (twL es 8))]) := by
  have sm := sm_prs h
  have lc := lc_map (g := gName 2) (t := t1_doubled) (e := eVar 2) (env := [some (.p (.tuple (es.map ledT))), some (.p (.list ((prs es).map prT))), none]) (S := S) (f := fun p : Int × Int => D.p (prT p)) (h := fun p => if decide (1 < (prs es).count p) = true then some (.p (prT p)) else none) (prs es) (fun p hp => by
    have c := count_pr sm hp S
    have ec : decide ((1 : Int) < ((prs es).count p : Nat)) = decide (1 < (prs es).count p) := by rw [decide_eq_decide]; omega
    cases hd : decide (1 < (prs es).count p) with
    | true => rw [hd] at ec; simp only [body_ev, fInT_t, eIdxT_ev, isTq_t, fStrT_t, fNeN_l, fNeU_d, fNeU_t, fNeU_l, fNeU_i, fNeU_s, fNeU_b, fNeU_n, fEqU_d, fEqU_t, fEqU_l, fEqU_i, fEqU_s, fEqU_b, fEqU_n, isU_n, isU_c, fLeS_s, eD0_ev, fLen_s, fMul_s, fIx_s, eCutA_ev, fCutA_s, fCutA_l, fCutA_t, iStr_ev, iRangeD_ev, fLenD_r, gSl_ev, fSetSl_r, eDict0_ev, eMd1_ev, fUpd_r, Bool.false_xor, Bool.true_xor, Bool.not_true, Bool.not_false, eIsX_ev, fIsX_e, fIsX_n, eIsF_ev, fIsF_e, fIsF_n, eFld_ev, fIsN_x, eLam_ev, gTupQ_ev, e2V_ev, fEq_in, fPopAt_r, fSorted_l, fSorted_t, fMaxL_l, fMinL_l, eListRg_ev, eTupRg_ev, rgP_ev, iRange3_ev, fIsB_b, fIndex_l, fCount_l, isLq_l, isLq_r, eMq_ev, isDct_r, eGet_ev, fGet_r, fDictP_l, fLenSetA_t, fLenSetA_l, eStep_ev, fStep_l, fStep_t, sForR_ev, eLcR_ev, iEnumD_ev, iZipD_ev, sAug_ev, sAugL_ev, fIxL_r, fSetL_r, fLenSet_t, fIsN_n, fIsN_i, fIsN_t, fIsN_l, fIsN_s, fIsN_r, fExt_l, fExt_t, fIx_l, fIx_t, fIx_r, fSetIx_r, new_ev, bnd_R, bndR_ok, bndR_ex, ret_ev, opt_some, hush_ev, hushR_ok, iteM, eVar_ev, lkup, eC_ev, e2_ev, e1_ev, e2D_ev, e1D_ev, e3D_ev, aNil_ev, aCons_ev, eTupN_ev, eLstN_ev, eIf_ev, eIx_ev, eCut_ev, oNone_ev, oSome_ev, eIsK_ev, eTuple_ev, eList_ev, eCall_ev, eCallL_ev, eCallT_ev, eM0_ev, eM1_ev, eM2_ev, eDict_ev, ePairs_nil, ePairs_cons, eChain_ev, tVal_ev, tAnd_ev, tOr_ev, tNot_ev, tYes_ev, eAnd_ev, eOr_ev, eNot_ev, eFrz_ev, iVal_ev, iRange_ev, iRange2_ev, sNil_ev, kSeq_nx, kSeq_rt, kSeq_bk, kSeq_ct, sCons_ev, sExpr_ev, sSet_ev, gSub_ev, sAsg_ev, sRet_ev, sRetN_ev, sIf_ev, sRaise_ev, sBreak_ev, sCont_ev, sPar2_ev, sPar3_ev, gName_ev, gTup_ev, gsFill_nil, gsFill_cons, sFor_ev, sWhile_ev, lcT_ev, eLc_ev, kBody_nx, kBody_rt, DL.start, see_p, List.set_cons_zero, List.set_cons_succ, List.map_cons, List.map_nil, List.cons_append, List.nil_append, List.length_cons, List.length_nil, List.replicate, Nat.reduceAdd, Nat.reduceSub, Nat.reduceEqDiff, if_true, if_false, Bool.false_eq_true, reduceIte, fAdd_i, fAdd_s, fAdd_t, fAdd_l, fSub_i, fMul_i, fMul_t, fMul_l, fDiv_i, fMod_i, fPow_i, fShr_i, fCmp_i, fNeg_i, fEq_i, fEq_s, fNe_i, fNe_s, fLen_l, fLen_t, fMax2_i, fMin2_i, fInt_i, fInt_b, fCut_l, fCut_t, mkP_t, mkP_f, mkL_f, mkL_t, toPs_nil, toPs_p, toPs_map, toPs_mapf, toP_p, fAll_l, fAny_l, fAll_m, fAny_m, all_true, fSum_l, fSum_t, fTuple_l, fTuple_t, fTuple_r, fList_l, fList_t, fList_r, fIsK_p, fRepr_ev, fApp_r, fPop_r, fIns_r, isL_r, items_t, elems_t, elems_l, mkTup, Option.map_some, t1_doubled_ev, c, ec]
    | false => rw [hd] at ec; simp only [body_ev, fInT_t, eIdxT_ev, isTq_t, fStrT_t, fNeN_l, fNeU_d, fNeU_t, fNeU_l, fNeU_i, fNeU_s, fNeU_b, fNeU_n, fEqU_d, fEqU_t, fEqU_l, fEqU_i, fEqU_s, fEqU_b, fEqU_n, isU_n, isU_c, fLeS_s, eD0_ev, fLen_s, fMul_s, fIx_s, eCutA_ev, fCutA_s, fCutA_l, fCutA_t, iStr_ev, iRangeD_ev, fLenD_r, gSl_ev, fSetSl_r, eDict0_ev, eMd1_ev, fUpd_r, Bool.false_xor, Bool.true_xor, Bool.not_true, Bool.not_false, eIsX_ev, fIsX_e, fIsX_n, eIsF_ev, fIsF_e, fIsF_n, eFld_ev, fIsN_x, eLam_ev, gTupQ_ev, e2V_ev, fEq_in, fPopAt_r, fSorted_l, fSorted_t, fMaxL_l, fMinL_l, eListRg_ev, eTupRg_ev, rgP_ev, iRange3_ev, fIsB_b, fIndex_l, fCount_l, isLq_l, isLq_r, eMq_ev, isDct_r, eGet_ev, fGet_r, fDictP_l, fLenSetA_t, fLenSetA_l, eStep_ev, fStep_l, fStep_t, sForR_ev, eLcR_ev, iEnumD_ev, iZipD_ev, sAug_ev, sAugL_ev, fIxL_r, fSetL_r, fLenSet_t, fIsN_n, fIsN_i, fIsN_t, fIsN_l, fIsN_s, fIsN_r, fExt_l, fExt_t, fIx_l, fIx_t, fIx_r, fSetIx_r, new_ev, bnd_R, bndR_ok, bndR_ex, ret_ev, opt_some, hush_ev, hushR_ok, iteM, eVar_ev, lkup, eC_ev, e2_ev, e1_ev, e2D_ev, e1D_ev, e3D_ev, aNil_ev, aCons_ev, eTupN_ev, eLstN_ev, eIf_ev, eIx_ev, eCut_ev, oNone_ev, oSome_ev, eIsK_ev, eTuple_ev, eList_ev, eCall_ev, eCallL_ev, eCallT_ev, eM0_ev, eM1_ev, eM2_ev, eDict_ev, ePairs_nil, ePairs_cons, eChain_ev, tVal_ev, tAnd_ev, tOr_ev, tNot_ev, tYes_ev, eAnd_ev, eOr_ev, eNot_ev, eFrz_ev, iVal_ev, iRange_ev, iRange2_ev, sNil_ev, kSeq_nx, kSeq_rt, kSeq_bk, kSeq_ct, sCons_ev, sExpr_ev, sSet_ev, gSub_ev, sAsg_ev, sRet_ev, sRetN_ev, sIf_ev, sRaise_ev, sBreak_ev, sCont_ev, sPar2_ev, sPar3_ev, gName_ev, gTup_ev, gsFill_nil, gsFill_cons, sFor_ev, sWhile_ev, lcT_ev, eLc_ev, kBody_nx, kBody_rt, DL.start, see_p, List.set_cons_zero, List.set_cons_succ, List.map_cons, List.map_nil, List.cons_append, List.nil_append, List.length_cons, List.length_nil, List.replicate, Nat.reduceAdd, Nat.reduceSub, Nat.reduceEqDiff, if_true, if_false, Bool.false_eq_true, reduceIte, fAdd_i, fAdd_s, fAdd_t, fAdd_l, fSub_i, fMul_i, fMul_t, fMul_l, fDiv_i, fMod_i, fPow_i, fShr_i, fCmp_i, fNeg_i, fEq_i, fEq_s, fNe_i, fNe_s, fLen_l, fLen_t, fMax2_i, fMin2_i, fInt_i, fInt_b, fCut_l, fCut_t, mkP_t, mkP_f, mkL_f, mkL_t, toPs_nil, toPs_p, toPs_map, toPs_mapf, toP_p, fAll_l, fAny_l, fAll_m, fAny_m, all_true, fSum_l, fSum_t, fTuple_l, fTuple_t, fTuple_r, fList_l, fList_t, fList_r, fIsK_p, fRepr_ev, fApp_r, fPop_r, fIns_r, isL_r, items_t, elems_t, elems_l, mkTup, Option.map_some, t1_doubled_ev, c, ec])
  rw [filt] at lc
  have tm := toPs_mapf (fun p : Int × Int => prT p) (dbl es)
  have bd : ∀ p ∈ dbl es, 0 ≤ p.1 ∧ p.1 < 64 ∧ 0 ≤ p.2 ∧ p.2 < 64 := fun p hp => by
    have := sm p (List.mem_filter.mp hp).1
    omega
  have ln : (dbl es).length < 64 := by
    have a : (dbl es).length ≤ (prs es).length := List.length_filter_le _ _
    have b := h.1
    have c : (prs es).length = es.length := List.length_map _
    omega
  have fs := fSetSort_l false (S := S) bd ln
  rw [sort_tw h] at fs
  have mk : mkP false ((twL es 8).map prT) S = .ok (.ref S.length) (S ++ [.lst (DP (twL es 8))]) := by
    show R.ok (D.ref S.length) (S ++ [.lst (((twL es 8).map prT).map D.p)]) = _
    rw [dp_map]
  rw [mk] at fs
  have md : ((prs es).map prT).map D.p = (prs es).map fun p => D.p (prT p) := by rw [List.map_map]; rfl
  unfold r_doubled
  simp only [body_ev, fInT_t, eIdxT_ev, isTq_t, fStrT_t, fNeN_l, fNeU_d, fNeU_t, fNeU_l, fNeU_i, fNeU_s, fNeU_b, fNeU_n, fEqU_d, fEqU_t, fEqU_l, fEqU_i, fEqU_s, fEqU_b, fEqU_n, isU_n, isU_c, fLeS_s, eD0_ev, fLen_s, fMul_s, fIx_s, eCutA_ev, fCutA_s, fCutA_l, fCutA_t, iStr_ev, iRangeD_ev, fLenD_r, gSl_ev, fSetSl_r, eDict0_ev, eMd1_ev, fUpd_r, Bool.false_xor, Bool.true_xor, Bool.not_true, Bool.not_false, eIsX_ev, fIsX_e, fIsX_n, eIsF_ev, fIsF_e, fIsF_n, eFld_ev, fIsN_x, eLam_ev, gTupQ_ev, e2V_ev, fEq_in, fPopAt_r, fSorted_l, fSorted_t, fMaxL_l, fMinL_l, eListRg_ev, eTupRg_ev, rgP_ev, iRange3_ev, fIsB_b, fIndex_l, fCount_l, isLq_l, isLq_r, eMq_ev, isDct_r, eGet_ev, fGet_r, fDictP_l, fLenSetA_t, fLenSetA_l, eStep_ev, fStep_l, fStep_t, sForR_ev, eLcR_ev, iEnumD_ev, iZipD_ev, sAug_ev, sAugL_ev, fIxL_r, fSetL_r, fLenSet_t, fIsN_n, fIsN_i, fIsN_t, fIsN_l, fIsN_s, fIsN_r, fExt_l, fExt_t, fIx_l, fIx_t, fIx_r, fSetIx_r, new_ev, bnd_R, bndR_ok, bndR_ex, ret_ev, opt_some, hush_ev, hushR_ok, iteM, eVar_ev, lkup, eC_ev, e2_ev, e1_ev, e2D_ev, e1D_ev, e3D_ev, aNil_ev, aCons_ev, eTupN_ev, eLstN_ev, eIf_ev, eIx_ev, eCut_ev, oNone_ev, oSome_ev, eIsK_ev, eTuple_ev, eList_ev, eCall_ev, eCallL_ev, eCallT_ev, eM0_ev, eM1_ev, eM2_ev, eDict_ev, ePairs_nil, ePairs_cons, eChain_ev, tVal_ev, tAnd_ev, tOr_ev, tNot_ev, tYes_ev, eAnd_ev, eOr_ev, eNot_ev, eFrz_ev, iVal_ev, iRange_ev, iRange2_ev, sNil_ev, kSeq_nx, kSeq_rt, kSeq_bk, kSeq_ct, sCons_ev, sExpr_ev, sSet_ev, gSub_ev, sAsg_ev, sRet_ev, sRetN_ev, sIf_ev, sRaise_ev, sBreak_ev, sCont_ev, sPar2_ev, sPar3_ev, gName_ev, gTup_ev, gsFill_nil, gsFill_cons, sFor_ev, sWhile_ev, lcT_ev, eLc_ev, kBody_nx, kBody_rt, DL.start, see_p, List.set_cons_zero, List.set_cons_succ, List.map_cons, List.map_nil, List.cons_append, List.nil_append, List.length_cons, List.length_nil, List.replicate, Nat.reduceAdd, Nat.reduceSub, Nat.reduceEqDiff, if_true, if_false, Bool.false_eq_true, reduceIte, fAdd_i, fAdd_s, fAdd_t, fAdd_l, fSub_i, fMul_i, fMul_t, fMul_l, fDiv_i, fMod_i, fPow_i, fShr_i, fCmp_i, fNeg_i, fEq_i, fEq_s, fNe_i, fNe_s, fLen_l, fLen_t, fMax2_i, fMin2_i, fInt_i, fInt_b, fCut_l, fCut_t, mkP_t, mkP_f, mkL_f, mkL_t, toPs_nil, toPs_p, toPs_map, toPs_mapf, toP_p, fAll_l, fAny_l, fAll_m, fAny_m, all_true, fSum_l, fSum_t, fTuple_l, fTuple_t, fTuple_r, fList_l, fList_t, fList_r, fIsK_p, fRepr_ev, fApp_r, fPop_r, fIns_r, isL_r, items_t, elems_t, elems_l, mkTup, Option.map_some, ok_need_threaded h, ok_had, pure1, DL.wipe, md, lc, tm, fs]
theorem had_prs (es : List Led) (s : Int) : hadS es s = ((prs es).filter fun p => decide (p.1 = s)).map fun p => p.2 := by
  unfold hadS
  rw [List.filter_map, List.map_map]
  rfl
theorem set_last (S : Sto) (x y : Ob) : (S ++ [x]).set S.length y = S ++ [y] := by
  rw [List.set_append_right _ _ (Nat.le_refl _)]
  simp
theorem ok_empty {es : List Led} (h : GoodLs es) (S : Sto) : r_empty [.p (.tuple (es.map ledT))] S = .ok (.ref S.length) (S ++ [.lst (DP (noL es 8))]) := by
  have sm := sm_prs h
  have neg1 : ∀ S, fNeg (.int 1) S = .ok (.p (.int (-1))) S := fun _ => rfl
  obtain ⟨env', S', q, w3, w4, rfl, rfl⟩ := for_all (g := gName 3) (b := b4_empty) (I := fun i env S' => ∃ w3 w4 : Option D, env = [some (.p (.tuple (es.map ledT))), some (.p (.list ((prs es).map prT))), some (.ref S.length), w3, w4, none, none] ∧ S' = S ++ [.lst (DP (noL es i))])
    ((List.range 8).map fun i => .p (.int (i : Nat))) (env := [some (.p (.tuple (es.map ledT))), some (.p (.list ((prs es).map prT))), some (.ref S.length), none, none, none, none]) (S := S ++ [.lst []]) ⟨none, none, rfl, by simp [noL]⟩ (fun i x env S' hx hi => by
      obtain ⟨w3, w4, rfl, rfl⟩ := hi
      have hi : i < 8 := by
        have := (List.getElem?_eq_some_iff.mp hx).1
        simpa using this
      rw [List.getElem?_map, List.getElem?_range hi] at hx
      cases hx
      obtain ⟨S1, hS1⟩ : ∃ S1, S1 = S ++ [Ob.lst (DP (noL es i))] := ⟨_, rfl⟩
      have L : S1[S.length]? = some (.lst (DP (noL es i))) := by rw [hS1]; simp
      have lc := lc_map (g := gTup [gName 5, gName 6]) (t := t1_empty) (e := eVar 6) (env := [some (.p (.tuple (es.map ledT))), some (.p (.list ((prs es).map prT))), some (.ref S.length), some (.p (.int (i : Nat))), w4, none, none]) (S := S1) (f := fun p : Int × Int => D.p (prT p)) (h := fun p => if decide (p.1 = (i : Int)) = true then some (.p (.int p.2)) else none) (prs es) (fun p hp => by
        have pe : prT p = .tuple [.int p.1, .int p.2] := rfl
        rw [pe]
        cases hd : decide (p.1 = (i : Int)) with
        | true => simp only [body_ev, fInT_t, eIdxT_ev, isTq_t, fStrT_t, fNeN_l, fNeU_d, fNeU_t, fNeU_l, fNeU_i, fNeU_s, fNeU_b, fNeU_n, fEqU_d, fEqU_t, fEqU_l, fEqU_i, fEqU_s, fEqU_b, fEqU_n, isU_n, isU_c, fLeS_s, eD0_ev, fLen_s, fMul_s, fIx_s, eCutA_ev, fCutA_s, fCutA_l, fCutA_t, iStr_ev, iRangeD_ev, fLenD_r, gSl_ev, fSetSl_r, eDict0_ev, eMd1_ev, fUpd_r, Bool.false_xor, Bool.true_xor, Bool.not_true, Bool.not_false, eIsX_ev, fIsX_e, fIsX_n, eIsF_ev, fIsF_e, fIsF_n, eFld_ev, fIsN_x, eLam_ev, gTupQ_ev, e2V_ev, fEq_in, fPopAt_r, fSorted_l, fSorted_t, fMaxL_l, fMinL_l, eListRg_ev, eTupRg_ev, rgP_ev, iRange3_ev, fIsB_b, fIndex_l, fCount_l, isLq_l, isLq_r, eMq_ev, isDct_r, eGet_ev, fGet_r, fDictP_l, fLenSetA_t, fLenSetA_l, eStep_ev, fStep_l, fStep_t, sForR_ev, eLcR_ev, iEnumD_ev, iZipD_ev, sAug_ev, sAugL_ev, fIxL_r, fSetL_r, fLenSet_t, fIsN_n, fIsN_i, fIsN_t, fIsN_l, fIsN_s, fIsN_r, fExt_l, fExt_t, fIx_l, fIx_t, fIx_r, fSetIx_r, new_ev, bnd_R, bndR_ok, bndR_ex, ret_ev, opt_some, hush_ev, hushR_ok, iteM, eVar_ev, lkup, eC_ev, e2_ev, e1_ev, e2D_ev, e1D_ev, e3D_ev, aNil_ev, aCons_ev, eTupN_ev, eLstN_ev, eIf_ev, eIx_ev, eCut_ev, oNone_ev, oSome_ev, eIsK_ev, eTuple_ev, eList_ev, eCall_ev, eCallL_ev, eCallT_ev, eM0_ev, eM1_ev, eM2_ev, eDict_ev, ePairs_nil, ePairs_cons, eChain_ev, tVal_ev, tAnd_ev, tOr_ev, tNot_ev, tYes_ev, eAnd_ev, eOr_ev, eNot_ev, eFrz_ev, iVal_ev, iRange_ev, iRange2_ev, sNil_ev, kSeq_nx, kSeq_rt, kSeq_bk, kSeq_ct, sCons_ev, sExpr_ev, sSet_ev, gSub_ev, sAsg_ev, sRet_ev, sRetN_ev, sIf_ev, sRaise_ev, sBreak_ev, sCont_ev, sPar2_ev, sPar3_ev, gName_ev, gTup_ev, gsFill_nil, gsFill_cons, sFor_ev, sWhile_ev, lcT_ev, eLc_ev, kBody_nx, kBody_rt, DL.start, see_p, List.set_cons_zero, List.set_cons_succ, List.map_cons, List.map_nil, List.cons_append, List.nil_append, List.length_cons, List.length_nil, List.replicate, Nat.reduceAdd, Nat.reduceSub, Nat.reduceEqDiff, if_true, if_false, Bool.false_eq_true, reduceIte, fAdd_i, fAdd_s, fAdd_t, fAdd_l, fSub_i, fMul_i, fMul_t, fMul_l, fDiv_i, fMod_i, fPow_i, fShr_i, fCmp_i, fNeg_i, fEq_i, fEq_s, fNe_i, fNe_s, fLen_l, fLen_t, fMax2_i, fMin2_i, fInt_i, fInt_b, fCut_l, fCut_t, mkP_t, mkP_f, mkL_f, mkL_t, toPs_nil, toPs_p, toPs_map, toPs_mapf, toP_p, fAll_l, fAny_l, fAll_m, fAny_m, all_true, fSum_l, fSum_t, fTuple_l, fTuple_t, fTuple_r, fList_l, fList_t, fList_r, fIsK_p, fRepr_ev, fApp_r, fPop_r, fIns_r, isL_r, items_t, elems_t, elems_l, mkTup, Option.map_some, t1_empty_ev, hd]
        | false => simp only [body_ev, fInT_t, eIdxT_ev, isTq_t, fStrT_t, fNeN_l, fNeU_d, fNeU_t, fNeU_l, fNeU_i, fNeU_s, fNeU_b, fNeU_n, fEqU_d, fEqU_t, fEqU_l, fEqU_i, fEqU_s, fEqU_b, fEqU_n, isU_n, isU_c, fLeS_s, eD0_ev, fLen_s, fMul_s, fIx_s, eCutA_ev, fCutA_s, fCutA_l, fCutA_t, iStr_ev, iRangeD_ev, fLenD_r, gSl_ev, fSetSl_r, eDict0_ev, eMd1_ev, fUpd_r, Bool.false_xor, Bool.true_xor, Bool.not_true, Bool.not_false, eIsX_ev, fIsX_e, fIsX_n, eIsF_ev, fIsF_e, fIsF_n, eFld_ev, fIsN_x, eLam_ev, gTupQ_ev, e2V_ev, fEq_in, fPopAt_r, fSorted_l, fSorted_t, fMaxL_l, fMinL_l, eListRg_ev, eTupRg_ev, rgP_ev, iRange3_ev, fIsB_b, fIndex_l, fCount_l, isLq_l, isLq_r, eMq_ev, isDct_r, eGet_ev, fGet_r, fDictP_l, fLenSetA_t, fLenSetA_l, eStep_ev, fStep_l, fStep_t, sForR_ev, eLcR_ev, iEnumD_ev, iZipD_ev, sAug_ev, sAugL_ev, fIxL_r, fSetL_r, fLenSet_t, fIsN_n, fIsN_i, fIsN_t, fIsN_l, fIsN_s, fIsN_r, fExt_l, fExt_t, fIx_l, fIx_t, fIx_r, fSetIx_r, new_ev, bnd_R, bndR_ok, bndR_ex, ret_ev, opt_some, hush_ev, hushR_ok, iteM, eVar_ev, lkup, eC_ev, e2_ev, e1_ev, e2D_ev, e1D_ev, e3D_ev, aNil_ev, aCons_ev, eTupN_ev, eLstN_ev, eIf_ev, eIx_ev, eCut_ev, oNone_ev, oSome_ev, eIsK_ev, eTuple_ev, eList_ev, eCall_ev, eCallL_ev, eCallT_ev, eM0_ev, eM1_ev, eM2_ev, eDict_ev, ePairs_nil, ePairs_cons, eChain_ev, tVal_ev, tAnd_ev, tOr_ev, tNot_ev, tYes_ev, eAnd_ev, eOr_ev, eNot_ev, eFrz_ev, iVal_ev, iRange_ev, iRange2_ev, sNil_ev, kSeq_nx, kSeq_rt, kSeq_bk, kSeq_ct, sCons_ev, sExpr_ev, sSet_ev, gSub_ev, sAsg_ev, sRet_ev, sRetN_ev, sIf_ev, sRaise_ev, sBreak_ev, sCont_ev, sPar2_ev, sPar3_ev, gName_ev, gTup_ev, gsFill_nil, gsFill_cons, sFor_ev, sWhile_ev, lcT_ev, eLc_ev, kBody_nx, kBody_rt, DL.start, see_p, List.set_cons_zero, List.set_cons_succ, List.map_cons, List.map_nil, List.cons_append, List.nil_append, List.length_cons, List.length_nil, List.replicate, Nat.reduceAdd, Nat.reduceSub, Nat.reduceEqDiff, if_true, if_false, Bool.false_eq_true, reduceIte, fAdd_i, fAdd_s, fAdd_t, fAdd_l, fSub_i, fMul_i, fMul_t, fMul_l, fDiv_i, fMod_i, fPow_i, fShr_i, fCmp_i, fNeg_i, fEq_i, fEq_s, fNe_i, fNe_s, fLen_l, fLen_t, fMax2_i, fMin2_i, fInt_i, fInt_b, fCut_l, fCut_t, mkP_t, mkP_f, mkL_f, mkL_t, toPs_nil, toPs_p, toPs_map, toPs_mapf, toP_p, fAll_l, fAny_l, fAll_m, fAny_m, all_true, fSum_l, fSum_t, fTuple_l, fTuple_t, fTuple_r, fList_l, fList_t, fList_r, fIsK_p, fRepr_ev, fApp_r, fPop_r, fIns_r, isL_r, items_t, elems_t, elems_l, mkTup, Option.map_some, t1_empty_ev, hd])
      have eh : ((prs es).filter fun p => decide (p.1 = (i : Int))).map (fun p => D.p (.int p.2)) = (hadS es (i : Int)).map fun y => D.p (.int y) := by rw [had_prs, List.map_map]; rfl
      rw [filt, eh] at lc
      have tm := toPs_mapf (fun y : Int => PyData.int y) (hadS es (i : Int))
      obtain ⟨m1, m2, m3, _⟩ := mx_other h (i : Int)
      obtain ⟨hi', hh⟩ : ∃ z, (hadS es (i : Int)).foldl max (-1) = z := ⟨_, rfl⟩
      rw [hh] at m1 m2 m3
      have fx := fMaxL_l (-1) (hadS es (i : Int)) (S := S1)
      rw [hh] at fx
      have hl : (hadS es (i : Int)).length ≤ 60 := by
        unfold hadS
        rw [List.length_map]
        exact Nat.le_trans (List.length_filter_le _ _) h.1
      have b1 : 1 + (hadS es (i : Int)).length ≤ big := by unfold big; omega
      have rg : hi' ≤ 16777216 ∧ -16777216 ≤ hi' := by omega
      have ml := mx_le h (i : Int)
      have lc2 := lc_map (g := gName 6) (t := t3_empty) (e := c2_empty) (env := [some (.p (.tuple (es.map ledT))), some (.p (.list ((prs es).map prT))), some (.ref S.length), some (.p (.int (i : Nat))), some (.p (.int hi')), none, none]) (S := S1) (f := fun y : Nat => D.p (.int (y : Nat))) (h := fun y : Nat => if (!decide (((i : Int), (y : Int)) ∈ prs es)) = true then some (.p (prT ((i : Int), (y : Int)))) else none) (List.range (mx es (i : Int))) (fun y hy => by
        have hy := List.mem_range.mp hy
        have ip := in_pr sm (p := ((i : Int), (y : Int))) (by show 0 ≤ (i : Int) ∧ (i : Int) ≤ 63 ∧ 0 ≤ (y : Int) ∧ (y : Int) ≤ 63; omega) true S1
        have pe : prT ((i : Int), (y : Int)) = .tuple [.int (i : Int), .int (y : Int)] := rfl
        rw [Bool.true_xor] at ip
        cases hd : decide (((i : Int), (y : Int)) ∈ prs es) with
        | true =>
          rw [hd, pe] at ip
          simp only [body_ev, fInT_t, eIdxT_ev, isTq_t, fStrT_t, fNeN_l, fNeU_d, fNeU_t, fNeU_l, fNeU_i, fNeU_s, fNeU_b, fNeU_n, fEqU_d, fEqU_t, fEqU_l, fEqU_i, fEqU_s, fEqU_b, fEqU_n, isU_n, isU_c, fLeS_s, eD0_ev, fLen_s, fMul_s, fIx_s, eCutA_ev, fCutA_s, fCutA_l, fCutA_t, iStr_ev, iRangeD_ev, fLenD_r, gSl_ev, fSetSl_r, eDict0_ev, eMd1_ev, fUpd_r, Bool.false_xor, Bool.true_xor, Bool.not_true, Bool.not_false, eIsX_ev, fIsX_e, fIsX_n, eIsF_ev, fIsF_e, fIsF_n, eFld_ev, fIsN_x, eLam_ev, gTupQ_ev, e2V_ev, fEq_in, fPopAt_r, fSorted_l, fSorted_t, fMaxL_l, fMinL_l, eListRg_ev, eTupRg_ev, rgP_ev, iRange3_ev, fIsB_b, fIndex_l, fCount_l, isLq_l, isLq_r, eMq_ev, isDct_r, eGet_ev, fGet_r, fDictP_l, fLenSetA_t, fLenSetA_l, eStep_ev, fStep_l, fStep_t, sForR_ev, eLcR_ev, iEnumD_ev, iZipD_ev, sAug_ev, sAugL_ev, fIxL_r, fSetL_r, fLenSet_t, fIsN_n, fIsN_i, fIsN_t, fIsN_l, fIsN_s, fIsN_r, fExt_l, fExt_t, fIx_l, fIx_t, fIx_r, fSetIx_r, new_ev, bnd_R, bndR_ok, bndR_ex, ret_ev, opt_some, hush_ev, hushR_ok, iteM, eVar_ev, lkup, eC_ev, e2_ev, e1_ev, e2D_ev, e1D_ev, e3D_ev, aNil_ev, aCons_ev, eTupN_ev, eLstN_ev, eIf_ev, eIx_ev, eCut_ev, oNone_ev, oSome_ev, eIsK_ev, eTuple_ev, eList_ev, eCall_ev, eCallL_ev, eCallT_ev, eM0_ev, eM1_ev, eM2_ev, eDict_ev, ePairs_nil, ePairs_cons, eChain_ev, tVal_ev, tAnd_ev, tOr_ev, tNot_ev, tYes_ev, eAnd_ev, eOr_ev, eNot_ev, eFrz_ev, iVal_ev, iRange_ev, iRange2_ev, sNil_ev, kSeq_nx, kSeq_rt, kSeq_bk, kSeq_ct, sCons_ev, sExpr_ev, sSet_ev, gSub_ev, sAsg_ev, sRet_ev, sRetN_ev, sIf_ev, sRaise_ev, sBreak_ev, sCont_ev, sPar2_ev, sPar3_ev, gName_ev, gTup_ev, gsFill_nil, gsFill_cons, sFor_ev, sWhile_ev, lcT_ev, eLc_ev, kBody_nx, kBody_rt, DL.start, see_p, List.set_cons_zero, List.set_cons_succ, List.map_cons, List.map_nil, List.cons_append, List.nil_append, List.length_cons, List.length_nil, List.replicate, Nat.reduceAdd, Nat.reduceSub, Nat.reduceEqDiff, if_true, if_false, Bool.false_eq_true, reduceIte, fAdd_i, fAdd_s, fAdd_t, fAdd_l, fSub_i, fMul_i, fMul_t, fMul_l, fDiv_i, fMod_i, fPow_i, fShr_i, fCmp_i, fNeg_i, fEq_i, fEq_s, fNe_i, fNe_s, fLen_l, fLen_t, fMax2_i, fMin2_i, fInt_i, fInt_b, fCut_l, fCut_t, mkP_t, mkP_f, mkL_f, mkL_t, toPs_nil, toPs_p, toPs_map, toPs_mapf, toP_p, fAll_l, fAny_l, fAll_m, fAny_m, all_true, fSum_l, fSum_t, fTuple_l, fTuple_t, fTuple_r, fList_l, fList_t, fList_r, fIsK_p, fRepr_ev, fApp_r, fPop_r, fIns_r, isL_r, items_t, elems_t, elems_l, mkTup, Option.map_some, t3_empty_ev, c2_empty_ev, ip, Bool.not_true]
        | false =>
          rw [hd, pe] at ip
          rw [pe]
          simp only [body_ev, fInT_t, eIdxT_ev, isTq_t, fStrT_t, fNeN_l, fNeU_d, fNeU_t, fNeU_l, fNeU_i, fNeU_s, fNeU_b, fNeU_n, fEqU_d, fEqU_t, fEqU_l, fEqU_i, fEqU_s, fEqU_b, fEqU_n, isU_n, isU_c, fLeS_s, eD0_ev, fLen_s, fMul_s, fIx_s, eCutA_ev, fCutA_s, fCutA_l, fCutA_t, iStr_ev, iRangeD_ev, fLenD_r, gSl_ev, fSetSl_r, eDict0_ev, eMd1_ev, fUpd_r, Bool.false_xor, Bool.true_xor, Bool.not_true, Bool.not_false, eIsX_ev, fIsX_e, fIsX_n, eIsF_ev, fIsF_e, fIsF_n, eFld_ev, fIsN_x, eLam_ev, gTupQ_ev, e2V_ev, fEq_in, fPopAt_r, fSorted_l, fSorted_t, fMaxL_l, fMinL_l, eListRg_ev, eTupRg_ev, rgP_ev, iRange3_ev, fIsB_b, fIndex_l, fCount_l, isLq_l, isLq_r, eMq_ev, isDct_r, eGet_ev, fGet_r, fDictP_l, fLenSetA_t, fLenSetA_l, eStep_ev, fStep_l, fStep_t, sForR_ev, eLcR_ev, iEnumD_ev, iZipD_ev, sAug_ev, sAugL_ev, fIxL_r, fSetL_r, fLenSet_t, fIsN_n, fIsN_i, fIsN_t, fIsN_l, fIsN_s, fIsN_r, fExt_l, fExt_t, fIx_l, fIx_t, fIx_r, fSetIx_r, new_ev, bnd_R, bndR_ok, bndR_ex, ret_ev, opt_some, hush_ev, hushR_ok, iteM, eVar_ev, lkup, eC_ev, e2_ev, e1_ev, e2D_ev, e1D_ev, e3D_ev, aNil_ev, aCons_ev, eTupN_ev, eLstN_ev, eIf_ev, eIx_ev, eCut_ev, oNone_ev, oSome_ev, eIsK_ev, eTuple_ev, eList_ev, eCall_ev, eCallL_ev, eCallT_ev, eM0_ev, eM1_ev, eM2_ev, eDict_ev, ePairs_nil, ePairs_cons, eChain_ev, tVal_ev, tAnd_ev, tOr_ev, tNot_ev, tYes_ev, eAnd_ev, eOr_ev, eNot_ev, eFrz_ev, iVal_ev, iRange_ev, iRange2_ev, sNil_ev, kSeq_nx, kSeq_rt, kSeq_bk, kSeq_ct, sCons_ev, sExpr_ev, sSet_ev, gSub_ev, sAsg_ev, sRet_ev, sRetN_ev, sIf_ev, sRaise_ev, sBreak_ev, sCont_ev, sPar2_ev, sPar3_ev, gName_ev, gTup_ev, gsFill_nil, gsFill_cons, sFor_ev, sWhile_ev, lcT_ev, eLc_ev, kBody_nx, kBody_rt, DL.start, see_p, List.set_cons_zero, List.set_cons_succ, List.map_cons, List.map_nil, List.cons_append, List.nil_append, List.length_cons, List.length_nil, List.replicate, Nat.reduceAdd, Nat.reduceSub, Nat.reduceEqDiff, if_true, if_false, Bool.false_eq_true, reduceIte, fAdd_i, fAdd_s, fAdd_t, fAdd_l, fSub_i, fMul_i, fMul_t, fMul_l, fDiv_i, fMod_i, fPow_i, fShr_i, fCmp_i, fNeg_i, fEq_i, fEq_s, fNe_i, fNe_s, fLen_l, fLen_t, fMax2_i, fMin2_i, fInt_i, fInt_b, fCut_l, fCut_t, mkP_t, mkP_f, mkL_f, mkL_t, toPs_nil, toPs_p, toPs_map, toPs_mapf, toP_p, fAll_l, fAny_l, fAll_m, fAny_m, all_true, fSum_l, fSum_t, fTuple_l, fTuple_t, fTuple_r, fList_l, fList_t, fList_r, fIsK_p, fRepr_ev, fApp_r, fPop_r, fIns_r, isL_r, items_t, elems_t, elems_l, mkTup, Option.map_some, t3_empty_ev, c2_empty_ev, ip, Bool.not_false])
      have en : ((List.range (mx es (i : Int))).filter fun y : Nat => !decide (((i : Int), (y : Int)) ∈ prs es)).map (fun y : Nat => D.p (prT ((i : Int), (y : Int)))) = DP (noS es i) := by
        unfold noS
        show _ = List.map (fun p => D.p (prT p)) (List.map _ _)
        rw [List.map_map]
        rfl
      rw [filt, en] at lc2
      have tm2 := toPs_mapf (fun p : Int × Int => prT p) (noS es i)
      have md : ((prs es).map prT).map D.p = (prs es).map fun p => D.p (prT p) := by rw [List.map_map]; rfl
      have l1 := no_len h i
      have l2 : (noS es i).length ≤ 60 := by
        have := no_len h (i + 1)
        unfold noS
        rw [List.length_map]
        refine Nat.le_trans (List.length_filter_le _ _) ?_
        simp
        omega
      have b2 : (noL es i).length + (noS es i).length ≤ big := by unfold big; omega
      have ea : DP (noL es i) ++ DP (noS es i) = DP (noL es (i + 1)) := by rw [noL_succ]; simp [DP]
      have es1 : S1.set S.length (.lst (DP (noL es (i + 1)))) = S ++ [.lst (DP (noL es (i + 1)))] := by rw [hS1, set_last]
      refine ⟨_, _, ?_, some (.p (.int (i : Nat))), some (.p (.int hi')), rfl, rfl⟩
      rw [← hS1, ← es1]
      simp only [body_ev, fInT_t, eIdxT_ev, isTq_t, fStrT_t, fNeN_l, fNeU_d, fNeU_t, fNeU_l, fNeU_i, fNeU_s, fNeU_b, fNeU_n, fEqU_d, fEqU_t, fEqU_l, fEqU_i, fEqU_s, fEqU_b, fEqU_n, isU_n, isU_c, fLeS_s, eD0_ev, fLen_s, fMul_s, fIx_s, eCutA_ev, fCutA_s, fCutA_l, fCutA_t, iStr_ev, iRangeD_ev, fLenD_r, gSl_ev, fSetSl_r, eDict0_ev, eMd1_ev, fUpd_r, Bool.false_xor, Bool.true_xor, Bool.not_true, Bool.not_false, eIsX_ev, fIsX_e, fIsX_n, eIsF_ev, fIsF_e, fIsF_n, eFld_ev, fIsN_x, eLam_ev, gTupQ_ev, e2V_ev, fEq_in, fPopAt_r, fSorted_l, fSorted_t, fMaxL_l, fMinL_l, eListRg_ev, eTupRg_ev, rgP_ev, iRange3_ev, fIsB_b, fIndex_l, fCount_l, isLq_l, isLq_r, eMq_ev, isDct_r, eGet_ev, fGet_r, fDictP_l, fLenSetA_t, fLenSetA_l, eStep_ev, fStep_l, fStep_t, sForR_ev, eLcR_ev, iEnumD_ev, iZipD_ev, sAug_ev, sAugL_ev, fIxL_r, fSetL_r, fLenSet_t, fIsN_n, fIsN_i, fIsN_t, fIsN_l, fIsN_s, fIsN_r, fExt_l, fExt_t, fIx_l, fIx_t, fIx_r, fSetIx_r, new_ev, bnd_R, bndR_ok, bndR_ex, ret_ev, opt_some, hush_ev, hushR_ok, iteM, eVar_ev, lkup, eC_ev, e2_ev, e1_ev, e2D_ev, e1D_ev, e3D_ev, aNil_ev, aCons_ev, eTupN_ev, eLstN_ev, eIf_ev, eIx_ev, eCut_ev, oNone_ev, oSome_ev, eIsK_ev, eTuple_ev, eList_ev, eCall_ev, eCallL_ev, eCallT_ev, eM0_ev, eM1_ev, eM2_ev, eDict_ev, ePairs_nil, ePairs_cons, eChain_ev, tVal_ev, tAnd_ev, tOr_ev, tNot_ev, tYes_ev, eAnd_ev, eOr_ev, eNot_ev, eFrz_ev, iVal_ev, iRange_ev, iRange2_ev, sNil_ev, kSeq_nx, kSeq_rt, kSeq_bk, kSeq_ct, sCons_ev, sExpr_ev, sSet_ev, gSub_ev, sAsg_ev, sRet_ev, sRetN_ev, sIf_ev, sRaise_ev, sBreak_ev, sCont_ev, sPar2_ev, sPar3_ev, gName_ev, gTup_ev, gsFill_nil, gsFill_cons, sFor_ev, sWhile_ev, lcT_ev, eLc_ev, kBody_nx, kBody_rt, DL.start, see_p, List.set_cons_zero, List.set_cons_succ, List.map_cons, List.map_nil, List.cons_append, List.nil_append, List.length_cons, List.length_nil, List.replicate, Nat.reduceAdd, Nat.reduceSub, Nat.reduceEqDiff, if_true, if_false, Bool.false_eq_true, reduceIte, fAdd_i, fAdd_s, fAdd_t, fAdd_l, fSub_i, fMul_i, fMul_t, fMul_l, fDiv_i, fMod_i, fPow_i, fShr_i, fCmp_i, fNeg_i, fEq_i, fEq_s, fNe_i, fNe_s, fLen_l, fLen_t, fMax2_i, fMin2_i, fInt_i, fInt_b, fCut_l, fCut_t, mkP_t, mkP_f, mkL_f, mkL_t, toPs_nil, toPs_p, toPs_map, toPs_mapf, toP_p, fAll_l, fAny_l, fAll_m, fAny_m, all_true, fSum_l, fSum_t, fTuple_l, fTuple_t, fTuple_r, fList_l, fList_t, fList_r, fIsK_p, fRepr_ev, fApp_r, fPop_r, fIns_r, isL_r, items_t, elems_t, elems_l, mkTup, Option.map_some, b4_empty_ev, neg1, DL.wipe, md, lc, tm, List.length_map, b1, fx, rg, and_self, m1, lc2, tm2, L, b2, dp_map, ea, -fMaxL_l])
  rw [List.length_map, List.length_range] at q
  have r8 : (7 + 1 : Int) ≤ 16777216 ∧ -16777216 ≤ (7 + 1 : Int) := by decide
  have t8 : (7 + 1 : Int).toNat = 8 := rfl
  unfold r_empty
  simp only [body_ev, fInT_t, eIdxT_ev, isTq_t, fStrT_t, fNeN_l, fNeU_d, fNeU_t, fNeU_l, fNeU_i, fNeU_s, fNeU_b, fNeU_n, fEqU_d, fEqU_t, fEqU_l, fEqU_i, fEqU_s, fEqU_b, fEqU_n, isU_n, isU_c, fLeS_s, eD0_ev, fLen_s, fMul_s, fIx_s, eCutA_ev, fCutA_s, fCutA_l, fCutA_t, iStr_ev, iRangeD_ev, fLenD_r, gSl_ev, fSetSl_r, eDict0_ev, eMd1_ev, fUpd_r, Bool.false_xor, Bool.true_xor, Bool.not_true, Bool.not_false, eIsX_ev, fIsX_e, fIsX_n, eIsF_ev, fIsF_e, fIsF_n, eFld_ev, fIsN_x, eLam_ev, gTupQ_ev, e2V_ev, fEq_in, fPopAt_r, fSorted_l, fSorted_t, fMaxL_l, fMinL_l, eListRg_ev, eTupRg_ev, rgP_ev, iRange3_ev, fIsB_b, fIndex_l, fCount_l, isLq_l, isLq_r, eMq_ev, isDct_r, eGet_ev, fGet_r, fDictP_l, fLenSetA_t, fLenSetA_l, eStep_ev, fStep_l, fStep_t, sForR_ev, eLcR_ev, iEnumD_ev, iZipD_ev, sAug_ev, sAugL_ev, fIxL_r, fSetL_r, fLenSet_t, fIsN_n, fIsN_i, fIsN_t, fIsN_l, fIsN_s, fIsN_r, fExt_l, fExt_t, fIx_l, fIx_t, fIx_r, fSetIx_r, new_ev, bnd_R, bndR_ok, bndR_ex, ret_ev, opt_some, hush_ev, hushR_ok, iteM, eVar_ev, lkup, eC_ev, e2_ev, e1_ev, e2D_ev, e1D_ev, e3D_ev, aNil_ev, aCons_ev, eTupN_ev, eLstN_ev, eIf_ev, eIx_ev, eCut_ev, oNone_ev, oSome_ev, eIsK_ev, eTuple_ev, eList_ev, eCall_ev, eCallL_ev, eCallT_ev, eM0_ev, eM1_ev, eM2_ev, eDict_ev, ePairs_nil, ePairs_cons, eChain_ev, tVal_ev, tAnd_ev, tOr_ev, tNot_ev, tYes_ev, eAnd_ev, eOr_ev, eNot_ev, eFrz_ev, iVal_ev, iRange_ev, iRange2_ev, sNil_ev, kSeq_nx, kSeq_rt, kSeq_bk, kSeq_ct, sCons_ev, sExpr_ev, sSet_ev, gSub_ev, sAsg_ev, sRet_ev, sRetN_ev, sIf_ev, sRaise_ev, sBreak_ev, sCont_ev, sPar2_ev, sPar3_ev, gName_ev, gTup_ev, gsFill_nil, gsFill_cons, sFor_ev, sWhile_ev, lcT_ev, eLc_ev, kBody_nx, kBody_rt, DL.start, see_p, List.set_cons_zero, List.set_cons_succ, List.map_cons, List.map_nil, List.cons_append, List.nil_append, List.length_cons, List.length_nil, List.replicate, Nat.reduceAdd, Nat.reduceSub, Nat.reduceEqDiff, if_true, if_false, Bool.false_eq_true, reduceIte, fAdd_i, fAdd_s, fAdd_t, fAdd_l, fSub_i, fMul_i, fMul_t, fMul_l, fDiv_i, fMod_i, fPow_i, fShr_i, fCmp_i, fNeg_i, fEq_i, fEq_s, fNe_i, fNe_s, fLen_l, fLen_t, fMax2_i, fMin2_i, fInt_i, fInt_b, fCut_l, fCut_t, mkP_t, mkP_f, mkL_f, mkL_t, toPs_nil, toPs_p, toPs_map, toPs_mapf, toP_p, fAll_l, fAny_l, fAll_m, fAny_m, all_true, fSum_l, fSum_t, fTuple_l, fTuple_t, fTuple_r, fList_l, fList_t, fList_r, fIsK_p, fRepr_ev, fApp_r, fPop_r, fIns_r, isL_r, items_t, elems_t, elems_l, mkTup, Option.map_some, ok_need_threaded h, ok_had, pure1, r8, and_self, t8, q]
end Pk55

namespace Pk55
open PySem DL
/-! the law's own look -/
theorem ok_due {es : List Led} (h : GoodLs es) (S : Sto) : r__law_due [.p (.tuple (es.map ledT))] S = .ok (.p (.list [.list ((twL es 8).map prT), .list ((noL es 8).map prT)])) S := by
  obtain ⟨env', S', q, w3, w4, rfl, rfl⟩ := for_all (g := gName 3) (b := b7__law_due) (I := fun i env S' => ∃ w3 w4 : Option D, env = [some (.p (.tuple (es.map ledT))), some (.p (.list ((twL es i).map prT))), some (.p (.list ((noL es i).map prT))), w3, w4, none, none] ∧ S' = S)
    ((List.range 8).map fun i => .p (.int (i : Nat))) (env := [some (.p (.tuple (es.map ledT))), some (.p (.list [])), some (.p (.list [])), none, none, none, none]) (S := S) ⟨none, none, rfl, rfl⟩ (fun i x env S' hx hi => by
      obtain ⟨w3, w4, rfl, rfl⟩ := hi
      have hi : i < 8 := by
        have := (List.getElem?_eq_some_iff.mp hx).1
        simpa using this
      rw [List.getElem?_map, List.getElem?_range hi] at hx
      cases hx
      have lc := lc_map (g := gName 5) (t := t2__law_due) (e := c1__law_due) (env := [some (.p (.tuple (es.map ledT))), some (.p (.list ((twL es i).map prT))), some (.p (.list ((noL es i).map prT))), some (.p (.int (i : Nat))), w4, none, none]) (S := S') (f := fun e : Led => D.p (ledT e)) (h := fun e => if decide (e.2.1 = (i : Int)) = true then some (.p (.int e.2.2)) else none) es (fun e he => by
        have at1 : atL [PyData.int e.1, .int e.2.1, .int e.2.2] 1 = some (.int e.2.1) := rfl
        have at2 : atL [PyData.int e.1, .int e.2.1, .int e.2.2] 2 = some (.int e.2.2) := rfl
        cases hd : decide (e.2.1 = (i : Int)) with
        | true => simp only [body_ev, fInT_t, eIdxT_ev, isTq_t, fStrT_t, fNeN_l, fNeU_d, fNeU_t, fNeU_l, fNeU_i, fNeU_s, fNeU_b, fNeU_n, fEqU_d, fEqU_t, fEqU_l, fEqU_i, fEqU_s, fEqU_b, fEqU_n, isU_n, isU_c, fLeS_s, eD0_ev, fLen_s, fMul_s, fIx_s, eCutA_ev, fCutA_s, fCutA_l, fCutA_t, iStr_ev, iRangeD_ev, fLenD_r, gSl_ev, fSetSl_r, eDict0_ev, eMd1_ev, fUpd_r, Bool.false_xor, Bool.true_xor, Bool.not_true, Bool.not_false, eIsX_ev, fIsX_e, fIsX_n, eIsF_ev, fIsF_e, fIsF_n, eFld_ev, fIsN_x, eLam_ev, gTupQ_ev, e2V_ev, fEq_in, fPopAt_r, fSorted_l, fSorted_t, fMaxL_l, fMinL_l, eListRg_ev, eTupRg_ev, rgP_ev, iRange3_ev, fIsB_b, fIndex_l, fCount_l, isLq_l, isLq_r, eMq_ev, isDct_r, eGet_ev, fGet_r, fDictP_l, fLenSetA_t, fLenSetA_l, eStep_ev, fStep_l, fStep_t, sForR_ev, eLcR_ev, iEnumD_ev, iZipD_ev, sAug_ev, sAugL_ev, fIxL_r, fSetL_r, fLenSet_t, fIsN_n, fIsN_i, fIsN_t, fIsN_l, fIsN_s, fIsN_r, fExt_l, fExt_t, fIx_l, fIx_t, fIx_r, fSetIx_r, new_ev, bnd_R, bndR_ok, bndR_ex, ret_ev, opt_some, hush_ev, hushR_ok, iteM, eVar_ev, lkup, eC_ev, e2_ev, e1_ev, e2D_ev, e1D_ev, e3D_ev, aNil_ev, aCons_ev, eTupN_ev, eLstN_ev, eIf_ev, eIx_ev, eCut_ev, oNone_ev, oSome_ev, eIsK_ev, eTuple_ev, eList_ev, eCall_ev, eCallL_ev, eCallT_ev, eM0_ev, eM1_ev, eM2_ev, eDict_ev, ePairs_nil, ePairs_cons, eChain_ev, tVal_ev, tAnd_ev, tOr_ev, tNot_ev, tYes_ev, eAnd_ev, eOr_ev, eNot_ev, eFrz_ev, iVal_ev, iRange_ev, iRange2_ev, sNil_ev, kSeq_nx, kSeq_rt, kSeq_bk, kSeq_ct, sCons_ev, sExpr_ev, sSet_ev, gSub_ev, sAsg_ev, sRet_ev, sRetN_ev, sIf_ev, sRaise_ev, sBreak_ev, sCont_ev, sPar2_ev, sPar3_ev, gName_ev, gTup_ev, gsFill_nil, gsFill_cons, sFor_ev, sWhile_ev, lcT_ev, eLc_ev, kBody_nx, kBody_rt, DL.start, see_p, List.set_cons_zero, List.set_cons_succ, List.map_cons, List.map_nil, List.cons_append, List.nil_append, List.length_cons, List.length_nil, List.replicate, Nat.reduceAdd, Nat.reduceSub, Nat.reduceEqDiff, if_true, if_false, Bool.false_eq_true, reduceIte, fAdd_i, fAdd_s, fAdd_t, fAdd_l, fSub_i, fMul_i, fMul_t, fMul_l, fDiv_i, fMod_i, fPow_i, fShr_i, fCmp_i, fNeg_i, fEq_i, fEq_s, fNe_i, fNe_s, fLen_l, fLen_t, fMax2_i, fMin2_i, fInt_i, fInt_b, fCut_l, fCut_t, mkP_t, mkP_f, mkL_f, mkL_t, toPs_nil, toPs_p, toPs_map, toPs_mapf, toP_p, fAll_l, fAny_l, fAll_m, fAny_m, all_true, fSum_l, fSum_t, fTuple_l, fTuple_t, fTuple_r, fList_l, fList_t, fList_r, fIsK_p, fRepr_ev, fApp_r, fPop_r, fIns_r, isL_r, items_t, elems_t, elems_l, mkTup, Option.map_some, t2__law_due_ev, c1__law_due_ev, at1, at2, hd]
        | false => simp only [body_ev, fInT_t, eIdxT_ev, isTq_t, fStrT_t, fNeN_l, fNeU_d, fNeU_t, fNeU_l, fNeU_i, fNeU_s, fNeU_b, fNeU_n, fEqU_d, fEqU_t, fEqU_l, fEqU_i, fEqU_s, fEqU_b, fEqU_n, isU_n, isU_c, fLeS_s, eD0_ev, fLen_s, fMul_s, fIx_s, eCutA_ev, fCutA_s, fCutA_l, fCutA_t, iStr_ev, iRangeD_ev, fLenD_r, gSl_ev, fSetSl_r, eDict0_ev, eMd1_ev, fUpd_r, Bool.false_xor, Bool.true_xor, Bool.not_true, Bool.not_false, eIsX_ev, fIsX_e, fIsX_n, eIsF_ev, fIsF_e, fIsF_n, eFld_ev, fIsN_x, eLam_ev, gTupQ_ev, e2V_ev, fEq_in, fPopAt_r, fSorted_l, fSorted_t, fMaxL_l, fMinL_l, eListRg_ev, eTupRg_ev, rgP_ev, iRange3_ev, fIsB_b, fIndex_l, fCount_l, isLq_l, isLq_r, eMq_ev, isDct_r, eGet_ev, fGet_r, fDictP_l, fLenSetA_t, fLenSetA_l, eStep_ev, fStep_l, fStep_t, sForR_ev, eLcR_ev, iEnumD_ev, iZipD_ev, sAug_ev, sAugL_ev, fIxL_r, fSetL_r, fLenSet_t, fIsN_n, fIsN_i, fIsN_t, fIsN_l, fIsN_s, fIsN_r, fExt_l, fExt_t, fIx_l, fIx_t, fIx_r, fSetIx_r, new_ev, bnd_R, bndR_ok, bndR_ex, ret_ev, opt_some, hush_ev, hushR_ok, iteM, eVar_ev, lkup, eC_ev, e2_ev, e1_ev, e2D_ev, e1D_ev, e3D_ev, aNil_ev, aCons_ev, eTupN_ev, eLstN_ev, eIf_ev, eIx_ev, eCut_ev, oNone_ev, oSome_ev, eIsK_ev, eTuple_ev, eList_ev, eCall_ev, eCallL_ev, eCallT_ev, eM0_ev, eM1_ev, eM2_ev, eDict_ev, ePairs_nil, ePairs_cons, eChain_ev, tVal_ev, tAnd_ev, tOr_ev, tNot_ev, tYes_ev, eAnd_ev, eOr_ev, eNot_ev, eFrz_ev, iVal_ev, iRange_ev, iRange2_ev, sNil_ev, kSeq_nx, kSeq_rt, kSeq_bk, kSeq_ct, sCons_ev, sExpr_ev, sSet_ev, gSub_ev, sAsg_ev, sRet_ev, sRetN_ev, sIf_ev, sRaise_ev, sBreak_ev, sCont_ev, sPar2_ev, sPar3_ev, gName_ev, gTup_ev, gsFill_nil, gsFill_cons, sFor_ev, sWhile_ev, lcT_ev, eLc_ev, kBody_nx, kBody_rt, DL.start, see_p, List.set_cons_zero, List.set_cons_succ, List.map_cons, List.map_nil, List.cons_append, List.nil_append, List.length_cons, List.length_nil, List.replicate, Nat.reduceAdd, Nat.reduceSub, Nat.reduceEqDiff, if_true, if_false, Bool.false_eq_true, reduceIte, fAdd_i, fAdd_s, fAdd_t, fAdd_l, fSub_i, fMul_i, fMul_t, fMul_l, fDiv_i, fMod_i, fPow_i, fShr_i, fCmp_i, fNeg_i, fEq_i, fEq_s, fNe_i, fNe_s, fLen_l, fLen_t, fMax2_i, fMin2_i, fInt_i, fInt_b, fCut_l, fCut_t, mkP_t, mkP_f, mkL_f, mkL_t, toPs_nil, toPs_p, toPs_map, toPs_mapf, toP_p, fAll_l, fAny_l, fAll_m, fAny_m, all_true, fSum_l, fSum_t, fTuple_l, fTuple_t, fTuple_r, fList_l, fList_t, fList_r, fIsK_p, fRepr_ev, fApp_r, fPop_r, fIns_r, isL_r, items_t, elems_t, elems_l, mkTup, Option.map_some, t2__law_due_ev, c1__law_due_ev, at1, at2, hd])
      have eh : (es.filter fun e => decide (e.2.1 = (i : Int))).map (fun e => D.p (.int e.2.2)) = (hadS es (i : Int)).map fun y => D.p (.int y) := by unfold hadS; rw [List.map_map]; rfl
      rw [filt, eh] at lc
      have tm := toPs_mapf (fun y : Int => PyData.int y) (hadS es (i : Int))
      have r60 : (60 : Int) ≤ 16777216 ∧ -16777216 ≤ (60 : Int) := by decide
      have t60 : (60 : Int).toNat = 60 := rfl
      have lc2 := lc_map (g := gName 6) (t := t4__law_due) (e := c3__law_due) (env := [some (.p (.tuple (es.map ledT))), some (.p (.list ((twL es i).map prT))), some (.p (.list ((noL es i).map prT))), some (.p (.int (i : Nat))), some (.p (.list ((hadS es (i : Int)).map .int))), none, none]) (S := S') (f := fun y : Nat => D.p (.int (y : Nat))) (h := fun y : Nat => if decide (1 < (prs es).count ((i : Int), (y : Int))) = true then some (.p (prT ((i : Int), (y : Int)))) else none) (List.range 60) (fun y hy => by
        have ec : decide ((1 : Int) < ((hadS es (i : Int)).count (y : Int) : Nat)) = decide (1 < (prs es).count ((i : Int), (y : Int))) := by rw [decide_eq_decide, count_hadS]; omega
        have pe : prT ((i : Int), (y : Int)) = .tuple [.int (i : Int), .int (y : Int)] := rfl
        cases hd : decide (1 < (prs es).count ((i : Int), (y : Int))) with
        | true => rw [hd] at ec; rw [pe]; simp only [body_ev, fInT_t, eIdxT_ev, isTq_t, fStrT_t, fNeN_l, fNeU_d, fNeU_t, fNeU_l, fNeU_i, fNeU_s, fNeU_b, fNeU_n, fEqU_d, fEqU_t, fEqU_l, fEqU_i, fEqU_s, fEqU_b, fEqU_n, isU_n, isU_c, fLeS_s, eD0_ev, fLen_s, fMul_s, fIx_s, eCutA_ev, fCutA_s, fCutA_l, fCutA_t, iStr_ev, iRangeD_ev, fLenD_r, gSl_ev, fSetSl_r, eDict0_ev, eMd1_ev, fUpd_r, Bool.false_xor, Bool.true_xor, Bool.not_true, Bool.not_false, eIsX_ev, fIsX_e, fIsX_n, eIsF_ev, fIsF_e, fIsF_n, eFld_ev, fIsN_x, eLam_ev, gTupQ_ev, e2V_ev, fEq_in, fPopAt_r, fSorted_l, fSorted_t, fMaxL_l, fMinL_l, eListRg_ev, eTupRg_ev, rgP_ev, iRange3_ev, fIsB_b, fIndex_l, fCount_l, isLq_l, isLq_r, eMq_ev, isDct_r, eGet_ev, fGet_r, fDictP_l, fLenSetA_t, fLenSetA_l, eStep_ev, fStep_l, fStep_t, sForR_ev, eLcR_ev, iEnumD_ev, iZipD_ev, sAug_ev, sAugL_ev, fIxL_r, fSetL_r, fLenSet_t, fIsN_n, fIsN_i, fIsN_t, fIsN_l, fIsN_s, fIsN_r, fExt_l, fExt_t, fIx_l, fIx_t, fIx_r, fSetIx_r, new_ev, bnd_R, bndR_ok, bndR_ex, ret_ev, opt_some, hush_ev, hushR_ok, iteM, eVar_ev, lkup, eC_ev, e2_ev, e1_ev, e2D_ev, e1D_ev, e3D_ev, aNil_ev, aCons_ev, eTupN_ev, eLstN_ev, eIf_ev, eIx_ev, eCut_ev, oNone_ev, oSome_ev, eIsK_ev, eTuple_ev, eList_ev, eCall_ev, eCallL_ev, eCallT_ev, eM0_ev, eM1_ev, eM2_ev, eDict_ev, ePairs_nil, ePairs_cons, eChain_ev, tVal_ev, tAnd_ev, tOr_ev, tNot_ev, tYes_ev, eAnd_ev, eOr_ev, eNot_ev, eFrz_ev, iVal_ev, iRange_ev, iRange2_ev, sNil_ev, kSeq_nx, kSeq_rt, kSeq_bk, kSeq_ct, sCons_ev, sExpr_ev, sSet_ev, gSub_ev, sAsg_ev, sRet_ev, sRetN_ev, sIf_ev, sRaise_ev, sBreak_ev, sCont_ev, sPar2_ev, sPar3_ev, gName_ev, gTup_ev, gsFill_nil, gsFill_cons, sFor_ev, sWhile_ev, lcT_ev, eLc_ev, kBody_nx, kBody_rt, DL.start, see_p, List.set_cons_zero, List.set_cons_succ, List.map_cons, List.map_nil, List.cons_append, List.nil_append, List.length_cons, List.length_nil, List.replicate, Nat.reduceAdd, Nat.reduceSub, Nat.reduceEqDiff, if_true, if_false, Bool.false_eq_true, reduceIte, fAdd_i, fAdd_s, fAdd_t, fAdd_l, fSub_i, fMul_i, fMul_t, fMul_l, fDiv_i, fMod_i, fPow_i, fShr_i, fCmp_i, fNeg_i, fEq_i, fEq_s, fNe_i, fNe_s, fLen_l, fLen_t, fMax2_i, fMin2_i, fInt_i, fInt_b, fCut_l, fCut_t, mkP_t, mkP_f, mkL_f, mkL_t, toPs_nil, toPs_p, toPs_map, toPs_mapf, toP_p, fAll_l, fAny_l, fAll_m, fAny_m, all_true, fSum_l, fSum_t, fTuple_l, fTuple_t, fTuple_r, fList_l, fList_t, fList_r, fIsK_p, fRepr_ev, fApp_r, fPop_r, fIns_r, isL_r, items_t, elems_t, elems_l, mkTup, Option.map_some, t4__law_due_ev, c3__law_due_ev, ec]
        | false => rw [hd] at ec; simp only [body_ev, fInT_t, eIdxT_ev, isTq_t, fStrT_t, fNeN_l, fNeU_d, fNeU_t, fNeU_l, fNeU_i, fNeU_s, fNeU_b, fNeU_n, fEqU_d, fEqU_t, fEqU_l, fEqU_i, fEqU_s, fEqU_b, fEqU_n, isU_n, isU_c, fLeS_s, eD0_ev, fLen_s, fMul_s, fIx_s, eCutA_ev, fCutA_s, fCutA_l, fCutA_t, iStr_ev, iRangeD_ev, fLenD_r, gSl_ev, fSetSl_r, eDict0_ev, eMd1_ev, fUpd_r, Bool.false_xor, Bool.true_xor, Bool.not_true, Bool.not_false, eIsX_ev, fIsX_e, fIsX_n, eIsF_ev, fIsF_e, fIsF_n, eFld_ev, fIsN_x, eLam_ev, gTupQ_ev, e2V_ev, fEq_in, fPopAt_r, fSorted_l, fSorted_t, fMaxL_l, fMinL_l, eListRg_ev, eTupRg_ev, rgP_ev, iRange3_ev, fIsB_b, fIndex_l, fCount_l, isLq_l, isLq_r, eMq_ev, isDct_r, eGet_ev, fGet_r, fDictP_l, fLenSetA_t, fLenSetA_l, eStep_ev, fStep_l, fStep_t, sForR_ev, eLcR_ev, iEnumD_ev, iZipD_ev, sAug_ev, sAugL_ev, fIxL_r, fSetL_r, fLenSet_t, fIsN_n, fIsN_i, fIsN_t, fIsN_l, fIsN_s, fIsN_r, fExt_l, fExt_t, fIx_l, fIx_t, fIx_r, fSetIx_r, new_ev, bnd_R, bndR_ok, bndR_ex, ret_ev, opt_some, hush_ev, hushR_ok, iteM, eVar_ev, lkup, eC_ev, e2_ev, e1_ev, e2D_ev, e1D_ev, e3D_ev, aNil_ev, aCons_ev, eTupN_ev, eLstN_ev, eIf_ev, eIx_ev, eCut_ev, oNone_ev, oSome_ev, eIsK_ev, eTuple_ev, eList_ev, eCall_ev, eCallL_ev, eCallT_ev, eM0_ev, eM1_ev, eM2_ev, eDict_ev, ePairs_nil, ePairs_cons, eChain_ev, tVal_ev, tAnd_ev, tOr_ev, tNot_ev, tYes_ev, eAnd_ev, eOr_ev, eNot_ev, eFrz_ev, iVal_ev, iRange_ev, iRange2_ev, sNil_ev, kSeq_nx, kSeq_rt, kSeq_bk, kSeq_ct, sCons_ev, sExpr_ev, sSet_ev, gSub_ev, sAsg_ev, sRet_ev, sRetN_ev, sIf_ev, sRaise_ev, sBreak_ev, sCont_ev, sPar2_ev, sPar3_ev, gName_ev, gTup_ev, gsFill_nil, gsFill_cons, sFor_ev, sWhile_ev, lcT_ev, eLc_ev, kBody_nx, kBody_rt, DL.start, see_p, List.set_cons_zero, List.set_cons_succ, List.map_cons, List.map_nil, List.cons_append, List.nil_append, List.length_cons, List.length_nil, List.replicate, Nat.reduceAdd, Nat.reduceSub, Nat.reduceEqDiff, if_true, if_false, Bool.false_eq_true, reduceIte, fAdd_i, fAdd_s, fAdd_t, fAdd_l, fSub_i, fMul_i, fMul_t, fMul_l, fDiv_i, fMod_i, fPow_i, fShr_i, fCmp_i, fNeg_i, fEq_i, fEq_s, fNe_i, fNe_s, fLen_l, fLen_t, fMax2_i, fMin2_i, fInt_i, fInt_b, fCut_l, fCut_t, mkP_t, mkP_f, mkL_f, mkL_t, toPs_nil, toPs_p, toPs_map, toPs_mapf, toP_p, fAll_l, fAny_l, fAll_m, fAny_m, all_true, fSum_l, fSum_t, fTuple_l, fTuple_t, fTuple_r, fList_l, fList_t, fList_r, fIsK_p, fRepr_ev, fApp_r, fPop_r, fIns_r, isL_r, items_t, elems_t, elems_l, mkTup, Option.map_some, t4__law_due_ev, c3__law_due_ev, ec])
      have et : ((List.range 60).filter fun y : Nat => decide (1 < (prs es).count ((i : Int), (y : Int)))).map (fun y : Nat => D.p (prT ((i : Int), (y : Int)))) = (twS es i).map fun p => D.p (prT p) := by
        unfold twS
        rw [List.map_map]
        rfl
      rw [filt, et] at lc2
      have tm2 := toPs_mapf (fun p : Int × Int => prT p) (twS es i)
      have b2 : (twL es i).length + (twS es i).length ≤ big := by
        have := tw_len (es := es) (i + 1)
        rw [twL_succ, List.length_append] at this
        unfold big
        omega
      have e2 : (twL es i).map prT ++ (twS es i).map prT = (twL es (i + 1)).map prT := by rw [twL_succ, List.map_append]
      obtain ⟨_, _, _, m4, m5⟩ := mx_other h (i : Int)
      obtain ⟨hi', hh⟩ : ∃ z, (hadS es (i : Int)).foldl max 0 = z := ⟨_, rfl⟩
      have m1 : hi'.toNat = mx es (i : Int) := by unfold mx; rw [hh]
      rw [hh] at m4 m5
      have fx := fMaxL_l 0 (hadS es (i : Int)) (S := S')
      rw [hh] at fx
      have hl : (hadS es (i : Int)).length ≤ 60 := by
        unfold hadS
        rw [List.length_map]
        exact Nat.le_trans (List.length_filter_le _ _) h.1
      have b1 : 1 + (hadS es (i : Int)).length ≤ big := by unfold big; omega
      have rg : hi' ≤ 16777216 ∧ -16777216 ≤ hi' := by omega
      have lc3 := lc_map (g := gName 6) (t := t6__law_due) (e := c5__law_due) (env := [some (.p (.tuple (es.map ledT))), some (.p (.list ((twL es (i + 1)).map prT))), some (.p (.list ((noL es i).map prT))), some (.p (.int (i : Nat))), some (.p (.list ((hadS es (i : Int)).map .int))), none, none]) (S := S') (f := fun y : Nat => D.p (.int (y : Nat))) (h := fun y : Nat => if (!decide (((i : Int), (y : Int)) ∈ prs es)) = true then some (.p (prT ((i : Int), (y : Int)))) else none) (List.range (mx es (i : Int))) (fun y hy => by
        have ip := fIn_ints true (y : Int) (hadS es (i : Int)) S'
        have ed : decide ((y : Int) ∈ hadS es (i : Int)) = decide (((i : Int), (y : Int)) ∈ prs es) := by rw [decide_eq_decide]; exact mem_hadS
        rw [Bool.true_xor, ed] at ip
        have pe : prT ((i : Int), (y : Int)) = .tuple [.int (i : Int), .int (y : Int)] := rfl
        cases hd : decide (((i : Int), (y : Int)) ∈ prs es) with
        | true => rw [hd] at ip; simp only [body_ev, fInT_t, eIdxT_ev, isTq_t, fStrT_t, fNeN_l, fNeU_d, fNeU_t, fNeU_l, fNeU_i, fNeU_s, fNeU_b, fNeU_n, fEqU_d, fEqU_t, fEqU_l, fEqU_i, fEqU_s, fEqU_b, fEqU_n, isU_n, isU_c, fLeS_s, eD0_ev, fLen_s, fMul_s, fIx_s, eCutA_ev, fCutA_s, fCutA_l, fCutA_t, iStr_ev, iRangeD_ev, fLenD_r, gSl_ev, fSetSl_r, eDict0_ev, eMd1_ev, fUpd_r, Bool.false_xor, Bool.true_xor, Bool.not_true, Bool.not_false, eIsX_ev, fIsX_e, fIsX_n, eIsF_ev, fIsF_e, fIsF_n, eFld_ev, fIsN_x, eLam_ev, gTupQ_ev, e2V_ev, fEq_in, fPopAt_r, fSorted_l, fSorted_t, fMaxL_l, fMinL_l, eListRg_ev, eTupRg_ev, rgP_ev, iRange3_ev, fIsB_b, fIndex_l, fCount_l, isLq_l, isLq_r, eMq_ev, isDct_r, eGet_ev, fGet_r, fDictP_l, fLenSetA_t, fLenSetA_l, eStep_ev, fStep_l, fStep_t, sForR_ev, eLcR_ev, iEnumD_ev, iZipD_ev, sAug_ev, sAugL_ev, fIxL_r, fSetL_r, fLenSet_t, fIsN_n, fIsN_i, fIsN_t, fIsN_l, fIsN_s, fIsN_r, fExt_l, fExt_t, fIx_l, fIx_t, fIx_r, fSetIx_r, new_ev, bnd_R, bndR_ok, bndR_ex, ret_ev, opt_some, hush_ev, hushR_ok, iteM, eVar_ev, lkup, eC_ev, e2_ev, e1_ev, e2D_ev, e1D_ev, e3D_ev, aNil_ev, aCons_ev, eTupN_ev, eLstN_ev, eIf_ev, eIx_ev, eCut_ev, oNone_ev, oSome_ev, eIsK_ev, eTuple_ev, eList_ev, eCall_ev, eCallL_ev, eCallT_ev, eM0_ev, eM1_ev, eM2_ev, eDict_ev, ePairs_nil, ePairs_cons, eChain_ev, tVal_ev, tAnd_ev, tOr_ev, tNot_ev, tYes_ev, eAnd_ev, eOr_ev, eNot_ev, eFrz_ev, iVal_ev, iRange_ev, iRange2_ev, sNil_ev, kSeq_nx, kSeq_rt, kSeq_bk, kSeq_ct, sCons_ev, sExpr_ev, sSet_ev, gSub_ev, sAsg_ev, sRet_ev, sRetN_ev, sIf_ev, sRaise_ev, sBreak_ev, sCont_ev, sPar2_ev, sPar3_ev, gName_ev, gTup_ev, gsFill_nil, gsFill_cons, sFor_ev, sWhile_ev, lcT_ev, eLc_ev, kBody_nx, kBody_rt, DL.start, see_p, List.set_cons_zero, List.set_cons_succ, List.map_cons, List.map_nil, List.cons_append, List.nil_append, List.length_cons, List.length_nil, List.replicate, Nat.reduceAdd, Nat.reduceSub, Nat.reduceEqDiff, if_true, if_false, Bool.false_eq_true, reduceIte, fAdd_i, fAdd_s, fAdd_t, fAdd_l, fSub_i, fMul_i, fMul_t, fMul_l, fDiv_i, fMod_i, fPow_i, fShr_i, fCmp_i, fNeg_i, fEq_i, fEq_s, fNe_i, fNe_s, fLen_l, fLen_t, fMax2_i, fMin2_i, fInt_i, fInt_b, fCut_l, fCut_t, mkP_t, mkP_f, mkL_f, mkL_t, toPs_nil, toPs_p, toPs_map, toPs_mapf, toP_p, fAll_l, fAny_l, fAll_m, fAny_m, all_true, fSum_l, fSum_t, fTuple_l, fTuple_t, fTuple_r, fList_l, fList_t, fList_r, fIsK_p, fRepr_ev, fApp_r, fPop_r, fIns_r, isL_r, items_t, elems_t, elems_l, mkTup, Option.map_some, t6__law_due_ev, c5__law_due_ev, ip, Bool.not_true]
        | false => rw [hd] at ip; rw [pe]; simp only [body_ev, fInT_t, eIdxT_ev, isTq_t, fStrT_t, fNeN_l, fNeU_d, fNeU_t, fNeU_l, fNeU_i, fNeU_s, fNeU_b, fNeU_n, fEqU_d, fEqU_t, fEqU_l, fEqU_i, fEqU_s, fEqU_b, fEqU_n, isU_n, isU_c, fLeS_s, eD0_ev, fLen_s, fMul_s, fIx_s, eCutA_ev, fCutA_s, fCutA_l, fCutA_t, iStr_ev, iRangeD_ev, fLenD_r, gSl_ev, fSetSl_r, eDict0_ev, eMd1_ev, fUpd_r, Bool.false_xor, Bool.true_xor, Bool.not_true, Bool.not_false, eIsX_ev, fIsX_e, fIsX_n, eIsF_ev, fIsF_e, fIsF_n, eFld_ev, fIsN_x, eLam_ev, gTupQ_ev, e2V_ev, fEq_in, fPopAt_r, fSorted_l, fSorted_t, fMaxL_l, fMinL_l, eListRg_ev, eTupRg_ev, rgP_ev, iRange3_ev, fIsB_b, fIndex_l, fCount_l, isLq_l, isLq_r, eMq_ev, isDct_r, eGet_ev, fGet_r, fDictP_l, fLenSetA_t, fLenSetA_l, eStep_ev, fStep_l, fStep_t, sForR_ev, eLcR_ev, iEnumD_ev, iZipD_ev, sAug_ev, sAugL_ev, fIxL_r, fSetL_r, fLenSet_t, fIsN_n, fIsN_i, fIsN_t, fIsN_l, fIsN_s, fIsN_r, fExt_l, fExt_t, fIx_l, fIx_t, fIx_r, fSetIx_r, new_ev, bnd_R, bndR_ok, bndR_ex, ret_ev, opt_some, hush_ev, hushR_ok, iteM, eVar_ev, lkup, eC_ev, e2_ev, e1_ev, e2D_ev, e1D_ev, e3D_ev, aNil_ev, aCons_ev, eTupN_ev, eLstN_ev, eIf_ev, eIx_ev, eCut_ev, oNone_ev, oSome_ev, eIsK_ev, eTuple_ev, eList_ev, eCall_ev, eCallL_ev, eCallT_ev, eM0_ev, eM1_ev, eM2_ev, eDict_ev, ePairs_nil, ePairs_cons, eChain_ev, tVal_ev, tAnd_ev, tOr_ev, tNot_ev, tYes_ev, eAnd_ev, eOr_ev, eNot_ev, eFrz_ev, iVal_ev, iRange_ev, iRange2_ev, sNil_ev, kSeq_nx, kSeq_rt, kSeq_bk, kSeq_ct, sCons_ev, sExpr_ev, sSet_ev, gSub_ev, sAsg_ev, sRet_ev, sRetN_ev, sIf_ev, sRaise_ev, sBreak_ev, sCont_ev, sPar2_ev, sPar3_ev, gName_ev, gTup_ev, gsFill_nil, gsFill_cons, sFor_ev, sWhile_ev, lcT_ev, eLc_ev, kBody_nx, kBody_rt, DL.start, see_p, List.set_cons_zero, List.set_cons_succ, List.map_cons, List.map_nil, List.cons_append, List.nil_append, List.length_cons, List.length_nil, List.replicate, Nat.reduceAdd, Nat.reduceSub, Nat.reduceEqDiff, if_true, if_false, Bool.false_eq_true, reduceIte, fAdd_i, fAdd_s, fAdd_t, fAdd_l, fSub_i, fMul_i, fMul_t, fMul_l, fDiv_i, fMod_i, fPow_i, fShr_i, fCmp_i, fNeg_i, fEq_i, fEq_s, fNe_i, fNe_s, fLen_l, fLen_t, fMax2_i, fMin2_i, fInt_i, fInt_b, fCut_l, fCut_t, mkP_t, mkP_f, mkL_f, mkL_t, toPs_nil, toPs_p, toPs_map, toPs_mapf, toP_p, fAll_l, fAny_l, fAll_m, fAny_m, all_true, fSum_l, fSum_t, fTuple_l, fTuple_t, fTuple_r, fList_l, fList_t, fList_r, fIsK_p, fRepr_ev, fApp_r, fPop_r, fIns_r, isL_r, items_t, elems_t, elems_l, mkTup, Option.map_some, t6__law_due_ev, c5__law_due_ev, ip, Bool.not_false])
      have en : ((List.range (mx es (i : Int))).filter fun y : Nat => !decide (((i : Int), (y : Int)) ∈ prs es)).map (fun y : Nat => D.p (prT ((i : Int), (y : Int)))) = (noS es i).map fun p => D.p (prT p) := by
        unfold noS
        rw [List.map_map]
        rfl
      rw [filt, en] at lc3
      have tm3 := toPs_mapf (fun p : Int × Int => prT p) (noS es i)
      have b3 : (noL es i).length + (noS es i).length ≤ big := by
        have := no_len h (i + 1)
        rw [noL_succ, List.length_append] at this
        unfold big
        omega
      have e3 : (noL es i).map prT ++ (noS es i).map prT = (noL es (i + 1)).map prT := by rw [noL_succ, List.map_append]
      have md : (es.map ledT).map D.p = es.map fun e => D.p (ledT e) := by rw [List.map_map]; rfl
      refine ⟨_, _, ?_, some (.p (.int (i : Nat))), some (.p (.list ((hadS es (i : Int)).map .int))), rfl, rfl⟩
      simp only [body_ev, fInT_t, eIdxT_ev, isTq_t, fStrT_t, fNeN_l, fNeU_d, fNeU_t, fNeU_l, fNeU_i, fNeU_s, fNeU_b, fNeU_n, fEqU_d, fEqU_t, fEqU_l, fEqU_i, fEqU_s, fEqU_b, fEqU_n, isU_n, isU_c, fLeS_s, eD0_ev, fLen_s, fMul_s, fIx_s, eCutA_ev, fCutA_s, fCutA_l, fCutA_t, iStr_ev, iRangeD_ev, fLenD_r, gSl_ev, fSetSl_r, eDict0_ev, eMd1_ev, fUpd_r, Bool.false_xor, Bool.true_xor, Bool.not_true, Bool.not_false, eIsX_ev, fIsX_e, fIsX_n, eIsF_ev, fIsF_e, fIsF_n, eFld_ev, fIsN_x, eLam_ev, gTupQ_ev, e2V_ev, fEq_in, fPopAt_r, fSorted_l, fSorted_t, fMaxL_l, fMinL_l, eListRg_ev, eTupRg_ev, rgP_ev, iRange3_ev, fIsB_b, fIndex_l, fCount_l, isLq_l, isLq_r, eMq_ev, isDct_r, eGet_ev, fGet_r, fDictP_l, fLenSetA_t, fLenSetA_l, eStep_ev, fStep_l, fStep_t, sForR_ev, eLcR_ev, iEnumD_ev, iZipD_ev, sAug_ev, sAugL_ev, fIxL_r, fSetL_r, fLenSet_t, fIsN_n, fIsN_i, fIsN_t, fIsN_l, fIsN_s, fIsN_r, fExt_l, fExt_t, fIx_l, fIx_t, fIx_r, fSetIx_r, new_ev, bnd_R, bndR_ok, bndR_ex, ret_ev, opt_some, hush_ev, hushR_ok, iteM, eVar_ev, lkup, eC_ev, e2_ev, e1_ev, e2D_ev, e1D_ev, e3D_ev, aNil_ev, aCons_ev, eTupN_ev, eLstN_ev, eIf_ev, eIx_ev, eCut_ev, oNone_ev, oSome_ev, eIsK_ev, eTuple_ev, eList_ev, eCall_ev, eCallL_ev, eCallT_ev, eM0_ev, eM1_ev, eM2_ev, eDict_ev, ePairs_nil, ePairs_cons, eChain_ev, tVal_ev, tAnd_ev, tOr_ev, tNot_ev, tYes_ev, eAnd_ev, eOr_ev, eNot_ev, eFrz_ev, iVal_ev, iRange_ev, iRange2_ev, sNil_ev, kSeq_nx, kSeq_rt, kSeq_bk, kSeq_ct, sCons_ev, sExpr_ev, sSet_ev, gSub_ev, sAsg_ev, sRet_ev, sRetN_ev, sIf_ev, sRaise_ev, sBreak_ev, sCont_ev, sPar2_ev, sPar3_ev, gName_ev, gTup_ev, gsFill_nil, gsFill_cons, sFor_ev, sWhile_ev, lcT_ev, eLc_ev, kBody_nx, kBody_rt, DL.start, see_p, List.set_cons_zero, List.set_cons_succ, List.map_cons, List.map_nil, List.cons_append, List.nil_append, List.length_cons, List.length_nil, List.replicate, Nat.reduceAdd, Nat.reduceSub, Nat.reduceEqDiff, if_true, if_false, Bool.false_eq_true, reduceIte, fAdd_i, fAdd_s, fAdd_t, fAdd_l, fSub_i, fMul_i, fMul_t, fMul_l, fDiv_i, fMod_i, fPow_i, fShr_i, fCmp_i, fNeg_i, fEq_i, fEq_s, fNe_i, fNe_s, fLen_l, fLen_t, fMax2_i, fMin2_i, fInt_i, fInt_b, fCut_l, fCut_t, mkP_t, mkP_f, mkL_f, mkL_t, toPs_nil, toPs_p, toPs_map, toPs_mapf, toP_p, fAll_l, fAny_l, fAll_m, fAny_m, all_true, fSum_l, fSum_t, fTuple_l, fTuple_t, fTuple_r, fList_l, fList_t, fList_r, fIsK_p, fRepr_ev, fApp_r, fPop_r, fIns_r, isL_r, items_t, elems_t, elems_l, mkTup, Option.map_some, b7__law_due_ev, DL.wipe, md, lc, tm, r60, and_self, t60, lc2, tm2, List.length_map, b2, e2, b1, fx, rg, m1, lc3, tm3, b3, e3, -fMaxL_l])
  rw [List.length_map, List.length_range] at q
  have r8 : (8 : Int) ≤ 16777216 ∧ -16777216 ≤ (8 : Int) := by decide
  have t8 : (8 : Int).toNat = 8 := rfl
  have t2 : ∀ x y : PyData, toPs [.p x, .p y] = some [x, y] := fun _ _ => rfl
  unfold r__law_due
  simp only [body_ev, fInT_t, eIdxT_ev, isTq_t, fStrT_t, fNeN_l, fNeU_d, fNeU_t, fNeU_l, fNeU_i, fNeU_s, fNeU_b, fNeU_n, fEqU_d, fEqU_t, fEqU_l, fEqU_i, fEqU_s, fEqU_b, fEqU_n, isU_n, isU_c, fLeS_s, eD0_ev, fLen_s, fMul_s, fIx_s, eCutA_ev, fCutA_s, fCutA_l, fCutA_t, iStr_ev, iRangeD_ev, fLenD_r, gSl_ev, fSetSl_r, eDict0_ev, eMd1_ev, fUpd_r, Bool.false_xor, Bool.true_xor, Bool.not_true, Bool.not_false, eIsX_ev, fIsX_e, fIsX_n, eIsF_ev, fIsF_e, fIsF_n, eFld_ev, fIsN_x, eLam_ev, gTupQ_ev, e2V_ev, fEq_in, fPopAt_r, fSorted_l, fSorted_t, fMaxL_l, fMinL_l, eListRg_ev, eTupRg_ev, rgP_ev, iRange3_ev, fIsB_b, fIndex_l, fCount_l, isLq_l, isLq_r, eMq_ev, isDct_r, eGet_ev, fGet_r, fDictP_l, fLenSetA_t, fLenSetA_l, eStep_ev, fStep_l, fStep_t, sForR_ev, eLcR_ev, iEnumD_ev, iZipD_ev, sAug_ev, sAugL_ev, fIxL_r, fSetL_r, fLenSet_t, fIsN_n, fIsN_i, fIsN_t, fIsN_l, fIsN_s, fIsN_r, fExt_l, fExt_t, fIx_l, fIx_t, fIx_r, fSetIx_r, new_ev, bnd_R, bndR_ok, bndR_ex, ret_ev, opt_some, hush_ev, hushR_ok, iteM, eVar_ev, lkup, eC_ev, e2_ev, e1_ev, e2D_ev, e1D_ev, e3D_ev, aNil_ev, aCons_ev, eTupN_ev, eLstN_ev, eIf_ev, eIx_ev, eCut_ev, oNone_ev, oSome_ev, eIsK_ev, eTuple_ev, eList_ev, eCall_ev, eCallL_ev, eCallT_ev, eM0_ev, eM1_ev, eM2_ev, eDict_ev, ePairs_nil, ePairs_cons, eChain_ev, tVal_ev, tAnd_ev, tOr_ev, tNot_ev, tYes_ev, eAnd_ev, eOr_ev, eNot_ev, eFrz_ev, iVal_ev, iRange_ev, iRange2_ev, sNil_ev, kSeq_nx, kSeq_rt, kSeq_bk, kSeq_ct, sCons_ev, sExpr_ev, sSet_ev, gSub_ev, sAsg_ev, sRet_ev, sRetN_ev, sIf_ev, sRaise_ev, sBreak_ev, sCont_ev, sPar2_ev, sPar3_ev, gName_ev, gTup_ev, gsFill_nil, gsFill_cons, sFor_ev, sWhile_ev, lcT_ev, eLc_ev, kBody_nx, kBody_rt, DL.start, see_p, List.set_cons_zero, List.set_cons_succ, List.map_cons, List.map_nil, List.cons_append, List.nil_append, List.length_cons, List.length_nil, List.replicate, Nat.reduceAdd, Nat.reduceSub, Nat.reduceEqDiff, if_true, if_false, Bool.false_eq_true, reduceIte, fAdd_i, fAdd_s, fAdd_t, fAdd_l, fSub_i, fMul_i, fMul_t, fMul_l, fDiv_i, fMod_i, fPow_i, fShr_i, fCmp_i, fNeg_i, fEq_i, fEq_s, fNe_i, fNe_s, fLen_l, fLen_t, fMax2_i, fMin2_i, fInt_i, fInt_b, fCut_l, fCut_t, mkP_t, mkP_f, mkL_f, mkL_t, toPs_nil, toPs_p, toPs_map, toPs_mapf, toP_p, fAll_l, fAny_l, fAll_m, fAny_m, all_true, fSum_l, fSum_t, fTuple_l, fTuple_t, fTuple_r, fList_l, fList_t, fList_r, fIsK_p, fRepr_ev, fApp_r, fPop_r, fIns_r, isL_r, items_t, elems_t, elems_l, mkTup, Option.map_some, r8, and_self, t8, q, t2]
theorem tw_small {es : List Led} : Sm2 (twL es 8) := fun p hp => by
  obtain ⟨s, y, hs, hy, rfl, _⟩ := tw_mem.mp hp
  show 0 ≤ (s : Int) ∧ (s : Int) ≤ 63 ∧ 0 ≤ (y : Int) ∧ (y : Int) ≤ 63
  omega
theorem no_small {es : List Led} (h : GoodLs es) : ∀ n : Nat, n ≤ 8 → Sm2 (noL es n)
  | 0, _, p, hp => by simp [noL] at hp
  | n + 1, hn, p, hp => by
    rw [noL_succ] at hp
    rcases List.mem_append.mp hp with z | z
    · exact no_small h n (by omega) p z
    · unfold noS at z
      obtain ⟨y, hy, rfl⟩ := List.mem_map.mp z
      have := List.mem_range.mp (List.mem_filter.mp hy).1
      have := mx_le h (n : Int)
      show 0 ≤ (n : Int) ∧ (n : Int) ≤ 63 ∧ 0 ≤ (y : Int) ∧ (y : Int) ≤ 63
      omega
abbrev dueV (es : List Led) : List PyData := [.list ((twL es 8).map prT), .list ((noL es 8).map prT)]
theorem pl_due {es : List Led} (h : GoodLs es) : Pl 3 17000 (.list (dueV es)) := by
  have a := pl_lst (pls_pr (tw_small (es := es)))
  have b := pl_lst (pls_pr (no_small h 8 (Nat.le_refl _)))
  have := tw_len (es := es) 8
  have := no_len h 8
  exact (pl_lst (pls_cons a (pls_cons b (pls_nil 2 0)))).mono (by decide) (by omega)
theorem splice_len {α : Type} (xs : List α) : (spliceL xs [] none (some 1)).length ≤ xs.length := by
  unfold spliceL
  simp only [List.length_append, List.length_take, List.length_drop, List.length_nil]
  have : (sliceBounds none (some 1) none xs.length).1.toNat = 0 := rfl
  rw [this]
  omega
theorem ok_told {m : Nat} {ds : List D} {S : Sto} (L : S[m]? = some (.lst ds)) (hl : ds.length ≤ 1000) (e0 e1 e2 e3 : Option D) : ∃ S', b1__law_right [e0, e1, e2, e3, some (.ref m)] S = .ok (.nx [e0, e1, e2, e3, some (.ref m)]) S' ∧ S'.length = S.length ∧ ∀ p, p ≠ m → S'[p]? = S[p]? := by
  have hm : m < S.length := (List.getElem?_eq_some_iff.mp L).1
  have b1 : ds.length + 0 ≤ big := by unfold big; omega
  have b2 : (spliceL ds [] none (some 1)).length < big := by have := splice_len ds; unfold big; omega
  have L2 : (S.set m (.lst (spliceL ds [] none (some 1))))[m]? = some (.lst (spliceL ds [] none (some 1))) := List.getElem?_set_self hm
  refine ⟨(S.set m (.lst (spliceL ds [] none (some 1)))).set m (.lst (spliceL ds [] none (some 1) ++ [.p .none])), ?_, by rw [List.length_set, List.length_set], fun p hp => by rw [List.getElem?_set_ne (fun z => hp z.symm), List.getElem?_set_ne (fun z => hp z.symm)]⟩
  rw [b1__law_right_ev]
  simp only [body_ev, fInT_t, eIdxT_ev, isTq_t, fStrT_t, fNeN_l, fNeU_d, fNeU_t, fNeU_l, fNeU_i, fNeU_s, fNeU_b, fNeU_n, fEqU_d, fEqU_t, fEqU_l, fEqU_i, fEqU_s, fEqU_b, fEqU_n, isU_n, isU_c, fLeS_s, eD0_ev, fLen_s, fMul_s, fIx_s, eCutA_ev, fCutA_s, fCutA_l, fCutA_t, iStr_ev, iRangeD_ev, fLenD_r, gSl_ev, fSetSl_r, eDict0_ev, eMd1_ev, fUpd_r, Bool.false_xor, Bool.true_xor, Bool.not_true, Bool.not_false, eIsX_ev, fIsX_e, fIsX_n, eIsF_ev, fIsF_e, fIsF_n, eFld_ev, fIsN_x, eLam_ev, gTupQ_ev, e2V_ev, fEq_in, fPopAt_r, fSorted_l, fSorted_t, fMaxL_l, fMinL_l, eListRg_ev, eTupRg_ev, rgP_ev, iRange3_ev, fIsB_b, fIndex_l, fCount_l, isLq_l, isLq_r, eMq_ev, isDct_r, eGet_ev, fGet_r, fDictP_l, fLenSetA_t, fLenSetA_l, eStep_ev, fStep_l, fStep_t, sForR_ev, eLcR_ev, iEnumD_ev, iZipD_ev, sAug_ev, sAugL_ev, fIxL_r, fSetL_r, fLenSet_t, fIsN_n, fIsN_i, fIsN_t, fIsN_l, fIsN_s, fIsN_r, fExt_l, fExt_t, fIx_l, fIx_t, fIx_r, fSetIx_r, new_ev, bnd_R, bndR_ok, bndR_ex, ret_ev, opt_some, hush_ev, hushR_ok, iteM, eVar_ev, lkup, eC_ev, e2_ev, e1_ev, e2D_ev, e1D_ev, e3D_ev, aNil_ev, aCons_ev, eTupN_ev, eLstN_ev, eIf_ev, eIx_ev, eCut_ev, oNone_ev, oSome_ev, eIsK_ev, eTuple_ev, eList_ev, eCall_ev, eCallL_ev, eCallT_ev, eM0_ev, eM1_ev, eM2_ev, eDict_ev, ePairs_nil, ePairs_cons, eChain_ev, tVal_ev, tAnd_ev, tOr_ev, tNot_ev, tYes_ev, eAnd_ev, eOr_ev, eNot_ev, eFrz_ev, iVal_ev, iRange_ev, iRange2_ev, sNil_ev, kSeq_nx, kSeq_rt, kSeq_bk, kSeq_ct, sCons_ev, sExpr_ev, sSet_ev, gSub_ev, sAsg_ev, sRet_ev, sRetN_ev, sIf_ev, sRaise_ev, sBreak_ev, sCont_ev, sPar2_ev, sPar3_ev, gName_ev, gTup_ev, gsFill_nil, gsFill_cons, sFor_ev, sWhile_ev, lcT_ev, eLc_ev, kBody_nx, kBody_rt, DL.start, see_p, List.set_cons_zero, List.set_cons_succ, List.map_cons, List.map_nil, List.cons_append, List.nil_append, List.length_cons, List.length_nil, List.replicate, Nat.reduceAdd, Nat.reduceSub, Nat.reduceEqDiff, if_true, if_false, Bool.false_eq_true, reduceIte, fAdd_i, fAdd_s, fAdd_t, fAdd_l, fSub_i, fMul_i, fMul_t, fMul_l, fDiv_i, fMod_i, fPow_i, fShr_i, fCmp_i, fNeg_i, fEq_i, fEq_s, fNe_i, fNe_s, fLen_l, fLen_t, fMax2_i, fMin2_i, fInt_i, fInt_b, fCut_l, fCut_t, mkP_t, mkP_f, mkL_f, mkL_t, toPs_nil, toPs_p, toPs_map, toPs_mapf, toP_p, fAll_l, fAny_l, fAll_m, fAny_m, all_true, fSum_l, fSum_t, fTuple_l, fTuple_t, fTuple_r, fList_l, fList_t, fList_r, fIsK_p, fRepr_ev, fApp_r, fPop_r, fIns_r, isL_r, items_t, elems_t, elems_l, mkTup, Option.map_some, L, b1, L2, b2]
theorem ok_turn2 {es : List Led} (h : GoodLs es) (w2 w3 w4 : Option D) (S : Sto) : ∃ w3' w4' S', b2__law_right [some (.p (.tuple (es.map ledT))), some (.p (.str (PyData.list (dueV es)).shown)), w2, w3, w4] S = .ok (.nx [some (.p (.tuple (es.map ledT))), some (.p (.str (PyData.list (dueV es)).shown)), w2, w3', w4']) S' := by
  obtain ⟨n, hn⟩ : ∃ n, n = S.length := ⟨_, rfl⟩
  have a := ok_doubled h S
  have b := ok_empty h (S ++ [.lst (DP (twL es 8))])
  have ln : (S ++ [Ob.lst (DP (twL es 8))]).length = n + 1 := by rw [List.length_append, ← hn]; rfl
  rw [ln] at b
  rw [← hn] at a
  obtain ⟨S2, hS2⟩ : ∃ S2, S2 = S ++ [Ob.lst (DP (twL es 8))] ++ [.lst (DP (noL es 8))] := ⟨_, rfl⟩
  have l2 : S2.length = n + 2 := by rw [hS2, List.length_append, ln]; rfl
  rw [← hS2] at b
  obtain ⟨S3, hS3⟩ : ∃ S3, S3 = S2 ++ [Ob.lst [D.ref n, D.ref (n + 1)]] := ⟨_, rfl⟩
  have G0 : S3[n]? = some (.lst (DP (twL es 8))) := by
    rw [hS3, List.getElem?_append_left (by omega), hS2, List.getElem?_append_left (by omega), hn]
    simp
  have G1 : S3[n + 1]? = some (.lst (DP (noL es 8))) := by
    rw [hS3, List.getElem?_append_left (by omega), hS2, ← ln]
    exact List.getElem?_concat_length
  have G2 : S3[n + 2]? = some (.lst [D.ref n, D.ref (n + 1)]) := by
    rw [hS3, ← l2]
    exact List.getElem?_concat_length
  have vf : ∀ L : List (Int × Int), viewsF (viewD S3 6) (DP L) = some (L.map prT) := fun L => viewsF_map 6 prT L
  have vd : viewD S3 8 (.ref (n + 2)) = some (.list (dueV es)) := by
    have v0 : viewD S3 7 (.ref n) = some (.list ((twL es 8).map prT)) := by
      show (match S3[n]? with | some (.lst ds) => (viewsF (viewD S3 6) ds).map PyData.list | _ => none) = _
      rw [G0]
      show (viewsF (viewD S3 6) (DP (twL es 8))).map PyData.list = _
      rw [vf]; rfl
    have v1 : viewD S3 7 (.ref (n + 1)) = some (.list ((noL es 8).map prT)) := by
      show (match S3[n + 1]? with | some (.lst ds) => (viewsF (viewD S3 6) ds).map PyData.list | _ => none) = _
      rw [G1]
      show (viewsF (viewD S3 6) (DP (noL es 8))).map PyData.list = _
      rw [vf]; rfl
    show (match S3[n + 2]? with | some (.lst ds) => (viewsF (viewD S3 7) ds).map PyData.list | _ => none) = _
    rw [G2]
    show (viewsF (viewD S3 7) [.ref n, .ref (n + 1)]).map PyData.list = _
    simp only [viewsF, v0, v1, Option.map_some]
  have fr := fReprV_ok vd (((pl_due h).mono (by decide) (by decide)).repr) ((pl_due h).shaped (by decide))
  obtain ⟨S4, q4, l4, o4⟩ := ok_told G0 (by rw [List.length_map]; have := tw_len (es := es) 8; omega) (some (.p (.tuple (es.map ledT)))) (some (.p (.str (PyData.list (dueV es)).shown))) w2 (some (.ref (n + 2)))
  obtain ⟨S5, q5, l5, o5⟩ := ok_told (m := n + 1) (S := S4) (by rw [o4 (n + 1) (by omega)]; exact G1) (by rw [List.length_map]; have := no_len h 8; omega) (some (.p (.tuple (es.map ledT)))) (some (.p (.str (PyData.list (dueV es)).shown))) w2 (some (.ref (n + 2)))
  have G4 : S4[n + 2]? = some (.lst [D.ref n, D.ref (n + 1)]) := by rw [o4 (n + 2) (by omega)]; exact G2
  have G5 : S5[n + 2]? = some (.lst [D.ref n, D.ref (n + 1)]) := by rw [o5 (n + 2) (by omega)]; exact G4
  refine ⟨some (.ref (n + 2)), some (.ref (n + 1)), S5, ?_⟩
  have x0 : ([D.ref n, D.ref (n + 1)] : List D)[0]? = some (.ref n) := rfl
  have x1 : ([D.ref n, D.ref (n + 1)] : List D)[0 + 1]? = some (.ref (n + 1)) := rfl
  have x2 : ([D.ref n, D.ref (n + 1)] : List D)[0 + 1 + 1]? = none := rfl
  have bb : ∀ x : Str, (x != x) = false := fun x => by simp
  rw [b2__law_right_ev]
  simp only [body_ev, fInT_t, eIdxT_ev, isTq_t, fStrT_t, fNeN_l, fNeU_d, fNeU_t, fNeU_l, fNeU_i, fNeU_s, fNeU_b, fNeU_n, fEqU_d, fEqU_t, fEqU_l, fEqU_i, fEqU_s, fEqU_b, fEqU_n, isU_n, isU_c, fLeS_s, eD0_ev, fLen_s, fMul_s, fIx_s, eCutA_ev, fCutA_s, fCutA_l, fCutA_t, iStr_ev, iRangeD_ev, fLenD_r, gSl_ev, fSetSl_r, eDict0_ev, eMd1_ev, fUpd_r, Bool.false_xor, Bool.true_xor, Bool.not_true, Bool.not_false, eIsX_ev, fIsX_e, fIsX_n, eIsF_ev, fIsF_e, fIsF_n, eFld_ev, fIsN_x, eLam_ev, gTupQ_ev, e2V_ev, fEq_in, fPopAt_r, fSorted_l, fSorted_t, fMaxL_l, fMinL_l, eListRg_ev, eTupRg_ev, rgP_ev, iRange3_ev, fIsB_b, fIndex_l, fCount_l, isLq_l, isLq_r, eMq_ev, isDct_r, eGet_ev, fGet_r, fDictP_l, fLenSetA_t, fLenSetA_l, eStep_ev, fStep_l, fStep_t, sForR_ev, eLcR_ev, iEnumD_ev, iZipD_ev, sAug_ev, sAugL_ev, fIxL_r, fSetL_r, fLenSet_t, fIsN_n, fIsN_i, fIsN_t, fIsN_l, fIsN_s, fIsN_r, fExt_l, fExt_t, fIx_l, fIx_t, fIx_r, fSetIx_r, new_ev, bnd_R, bndR_ok, bndR_ex, ret_ev, opt_some, hush_ev, hushR_ok, iteM, eVar_ev, lkup, eC_ev, e2_ev, e1_ev, e2D_ev, e1D_ev, e3D_ev, aNil_ev, aCons_ev, eTupN_ev, eLstN_ev, eIf_ev, eIx_ev, eCut_ev, oNone_ev, oSome_ev, eIsK_ev, eTuple_ev, eList_ev, eCall_ev, eCallL_ev, eCallT_ev, eM0_ev, eM1_ev, eM2_ev, eDict_ev, ePairs_nil, ePairs_cons, eChain_ev, tVal_ev, tAnd_ev, tOr_ev, tNot_ev, tYes_ev, eAnd_ev, eOr_ev, eNot_ev, eFrz_ev, iVal_ev, iRange_ev, iRange2_ev, sNil_ev, kSeq_nx, kSeq_rt, kSeq_bk, kSeq_ct, sCons_ev, sExpr_ev, sSet_ev, gSub_ev, sAsg_ev, sRet_ev, sRetN_ev, sIf_ev, sRaise_ev, sBreak_ev, sCont_ev, sPar2_ev, sPar3_ev, gName_ev, gTup_ev, gsFill_nil, gsFill_cons, sFor_ev, sWhile_ev, lcT_ev, eLc_ev, kBody_nx, kBody_rt, DL.start, see_p, List.set_cons_zero, List.set_cons_succ, List.map_cons, List.map_nil, List.cons_append, List.nil_append, List.length_cons, List.length_nil, List.replicate, Nat.reduceAdd, Nat.reduceSub, Nat.reduceEqDiff, if_true, if_false, Bool.false_eq_true, reduceIte, fAdd_i, fAdd_s, fAdd_t, fAdd_l, fSub_i, fMul_i, fMul_t, fMul_l, fDiv_i, fMod_i, fPow_i, fShr_i, fCmp_i, fNeg_i, fEq_i, fEq_s, fNe_i, fNe_s, fLen_l, fLen_t, fMax2_i, fMin2_i, fInt_i, fInt_b, fCut_l, fCut_t, mkP_t, mkP_f, mkL_f, mkL_t, toPs_nil, toPs_p, toPs_map, toPs_mapf, toP_p, fAll_l, fAny_l, fAll_m, fAny_m, all_true, fSum_l, fSum_t, fTuple_l, fTuple_t, fTuple_r, fList_l, fList_t, fList_r, fIsK_p, fRepr_ev, fApp_r, fPop_r, fIns_r, isL_r, items_t, elems_t, elems_l, mkTup, Option.map_some, eReprV_ev, a, b, l2, ← hS3, fr, bb, beq_self_eq_true, Bool.not_true, G2, G4, G5, forR_succ, x0, x1, x2, q4, q5, kForR_nx]
theorem ok_right {es : List Led} (h : GoodLs es) : ∃ S', r__law_right [.p (.tuple (es.map ledT))] [] = .ok (.p (.bool true)) S' := by
  have d := ok_due h []
  have fr := fReprV_ok (x := .p (.list (dueV es))) (S := []) rfl (((pl_due h).mono (by decide) (by decide)).repr) ((pl_due h).shaped (by decide))
  obtain ⟨env', S', q, w2, w3, w4, rfl⟩ := for_all (g := gName 2) (b := b2__law_right) (I := fun i env S' => ∃ w2 w3 w4 : Option D, env = [some (.p (.tuple (es.map ledT))), some (.p (.str (PyData.list (dueV es)).shown)), w2, w3, w4])
    ((List.range 2).map fun i => .p (.int (i : Nat))) (env := [some (.p (.tuple (es.map ledT))), some (.p (.str (PyData.list (dueV es)).shown)), none, none, none]) (S := []) ⟨none, none, none, rfl⟩ (fun i x env S' hx hi => by
      obtain ⟨w2, w3, w4, rfl⟩ := hi
      obtain ⟨w3', w4', S2, q⟩ := ok_turn2 h (some x) w3 w4 S'
      exact ⟨_, S2, q, _, _, _, rfl⟩)
  have r2 : (2 : Int) ≤ 16777216 ∧ -16777216 ≤ (2 : Int) := by decide
  have t2 : (2 : Int).toNat = 2 := rfl
  refine ⟨S', ?_⟩
  unfold r__law_right
  simp only [body_ev, fInT_t, eIdxT_ev, isTq_t, fStrT_t, fNeN_l, fNeU_d, fNeU_t, fNeU_l, fNeU_i, fNeU_s, fNeU_b, fNeU_n, fEqU_d, fEqU_t, fEqU_l, fEqU_i, fEqU_s, fEqU_b, fEqU_n, isU_n, isU_c, fLeS_s, eD0_ev, fLen_s, fMul_s, fIx_s, eCutA_ev, fCutA_s, fCutA_l, fCutA_t, iStr_ev, iRangeD_ev, fLenD_r, gSl_ev, fSetSl_r, eDict0_ev, eMd1_ev, fUpd_r, Bool.false_xor, Bool.true_xor, Bool.not_true, Bool.not_false, eIsX_ev, fIsX_e, fIsX_n, eIsF_ev, fIsF_e, fIsF_n, eFld_ev, fIsN_x, eLam_ev, gTupQ_ev, e2V_ev, fEq_in, fPopAt_r, fSorted_l, fSorted_t, fMaxL_l, fMinL_l, eListRg_ev, eTupRg_ev, rgP_ev, iRange3_ev, fIsB_b, fIndex_l, fCount_l, isLq_l, isLq_r, eMq_ev, isDct_r, eGet_ev, fGet_r, fDictP_l, fLenSetA_t, fLenSetA_l, eStep_ev, fStep_l, fStep_t, sForR_ev, eLcR_ev, iEnumD_ev, iZipD_ev, sAug_ev, sAugL_ev, fIxL_r, fSetL_r, fLenSet_t, fIsN_n, fIsN_i, fIsN_t, fIsN_l, fIsN_s, fIsN_r, fExt_l, fExt_t, fIx_l, fIx_t, fIx_r, fSetIx_r, new_ev, bnd_R, bndR_ok, bndR_ex, ret_ev, opt_some, hush_ev, hushR_ok, iteM, eVar_ev, lkup, eC_ev, e2_ev, e1_ev, e2D_ev, e1D_ev, e3D_ev, aNil_ev, aCons_ev, eTupN_ev, eLstN_ev, eIf_ev, eIx_ev, eCut_ev, oNone_ev, oSome_ev, eIsK_ev, eTuple_ev, eList_ev, eCall_ev, eCallL_ev, eCallT_ev, eM0_ev, eM1_ev, eM2_ev, eDict_ev, ePairs_nil, ePairs_cons, eChain_ev, tVal_ev, tAnd_ev, tOr_ev, tNot_ev, tYes_ev, eAnd_ev, eOr_ev, eNot_ev, eFrz_ev, iVal_ev, iRange_ev, iRange2_ev, sNil_ev, kSeq_nx, kSeq_rt, kSeq_bk, kSeq_ct, sCons_ev, sExpr_ev, sSet_ev, gSub_ev, sAsg_ev, sRet_ev, sRetN_ev, sIf_ev, sRaise_ev, sBreak_ev, sCont_ev, sPar2_ev, sPar3_ev, gName_ev, gTup_ev, gsFill_nil, gsFill_cons, sFor_ev, sWhile_ev, lcT_ev, eLc_ev, kBody_nx, kBody_rt, DL.start, see_p, List.set_cons_zero, List.set_cons_succ, List.map_cons, List.map_nil, List.cons_append, List.nil_append, List.length_cons, List.length_nil, List.replicate, Nat.reduceAdd, Nat.reduceSub, Nat.reduceEqDiff, if_true, if_false, Bool.false_eq_true, reduceIte, fAdd_i, fAdd_s, fAdd_t, fAdd_l, fSub_i, fMul_i, fMul_t, fMul_l, fDiv_i, fMod_i, fPow_i, fShr_i, fCmp_i, fNeg_i, fEq_i, fEq_s, fNe_i, fNe_s, fLen_l, fLen_t, fMax2_i, fMin2_i, fInt_i, fInt_b, fCut_l, fCut_t, mkP_t, mkP_f, mkL_f, mkL_t, toPs_nil, toPs_p, toPs_map, toPs_mapf, toP_p, fAll_l, fAny_l, fAll_m, fAny_m, all_true, fSum_l, fSum_t, fTuple_l, fTuple_t, fTuple_r, fList_l, fList_t, fList_r, fIsK_p, fRepr_ev, fApp_r, fPop_r, fIns_r, isL_r, items_t, elems_t, elems_l, mkTup, Option.map_some, eReprV_ev, d, fr, r2, and_self, t2, q]
end Pk55

namespace Pk55
open PySem DL
/-! threads with eyes, drawn and changed -/
abbrev DLe (es : List Led) : List D := es.map fun e => .p (ledT e)
theorem dle_view {S : Sto} {m : Nat} {es : List Led} (L : S[m]? = some (.lst (DLe es))) : view S (.ref m) = some (.list (es.map ledT)) := by
  show (match S[m]? with | some (.lst ds) => (toPs ds).map PyData.list | _ => none) = _
  rw [L]
  simp only [DLe, toPs_mapf, Option.map_some]
theorem mkTup_dle (es : List Led) : mkTup (DLe es) = .p (.tuple (es.map ledT)) := by
  have := mkTup_p (es.map ledT)
  rw [List.map_map] at this
  exact this
theorem pl_led {e : Led} (h : GoodL e) : Pl 1 24 (ledT e) := by
  obtain ⟨h1, h2, h3⟩ := h
  exact (pl_tup (pls_cons (pl_int (k := 7) (by omega) (by decide) (by decide) 0) (pls_cons (pl_int (k := 7) (by omega) (by decide) (by decide) 0) (pls_cons (pl_int (k := 7) (by omega) (by decide) (by decide) 0) (pls_nil 0 0))))).mono (by decide) (by decide)
theorem ne_leds {es : List Led} (h : GoodLs es) (S : Sto) : fNe (.list (es.map ledT)) (.list []) S = .ok (.p (.bool (!es.isEmpty))) S := by
  have := pls_all (d := 1) (w := 24) (xs := es.map ledT) (fun x hx => by
    obtain ⟨e, he, rfl⟩ := List.mem_map.mp hx
    exact pl_led (h.2.1 e he))
  rw [fNe_ok ((pl_lst this).cmp (by decide) (pl_lst (pls_nil 3 0)) (by decide))]
  cases es <;> rfl
theorem good_set {es : List Led} (h : GoodLs es) {a : Nat} (ha : a < es.length) {x : Led} (hx : GoodL x) (e : x.1 = es[a].1) : GoodLs (es.set a x) := by
  refine ⟨by rw [List.length_set]; exact h.1, fun y hy => ?_, ?_⟩
  · rcases List.mem_or_eq_of_mem_set hy with z | z
    · exact h.2.1 y z
    · rw [z]; exact hx
  · have : (es.set a x).map (·.1) = es.map (·.1) := by
      rw [List.map_set, e]
      apply List.ext_getElem (by simp)
      intro i h1 h2
      rw [List.getElem_set]
      split
      · rename_i hi; subst hi; simp
      · rfl
    rw [this]
    exact h.2.2
theorem good_sub {es fs : List Led} (h : GoodLs es) (s : fs.Sublist es) : GoodLs fs := ⟨Nat.le_trans s.length_le h.1, fun x hx => h.2.1 x (s.subset hx), h.2.2.sublist (s.map _)⟩
theorem good_rev {es : List Led} (h : GoodLs es) : GoodLs es.reverse := ⟨by rw [List.length_reverse]; exact h.1, fun x hx => h.2.1 x (List.mem_reverse.mp hx), by rw [List.map_reverse]; exact (List.reverse_perm _).nodup_iff.mpr h.2.2⟩
theorem ixI_nat {n k : Nat} (h : k < n) : ixI n (k : Int) = some k := by
  unfold ixI
  rw [if_pos (by omega), if_pos (by omega)]
  rfl
theorem ok_b1o {n : Nat} {c : Int} {S : Sto} (cs : List Int) (hl : cs.length ≤ 63) {m : Nat} {es : List Led} (hg : GoodLs es) (L : S[m]? = some (.lst (DLe es))) (hmn : m ≠ n) (h : Sp n c S) (hc : c ≤ 2 ^ 29) (e2 e4 e5 e6 : Option D) :
    ∃ m' es' w5 w6 S', b1__law_other [some (.p (.list (cs.map .int))), some (.ref n), e2, some (.ref m), e4, e5, e6] S = .ok (.nx [some (.p (.list (cs.map .int))), some (.ref n), e2, some (.ref m'), e4, w5, w6]) S' ∧ GoodLs es' ∧ S'[m']? = some (.lst (DLe es')) ∧ m' ≠ n ∧ Sp n (c + 1) S' := by
  obtain ⟨r, S1, r0, r1, N1, q1⟩ := ok_cell cs h (by omega) hl
  have hn1 : n < S1.length := by obtain ⟨k, e, _⟩ := N1.sp; exact (List.getElem?_eq_some_iff.mp e).1
  have L1 : S1[m]? = some (.lst (DLe es)) := by rw [N1.oth m hmn]; exact L
  have hm1 : m < S1.length := (List.getElem?_eq_some_iff.mp L1).1
  have v1 := dle_view L1
  have ne := ne_leds hg S1
  have h60 := hg.1
  have d5 : (0 : Int) < 5 ∧ (5 : Int).natAbs.log2 < 9000 := by decide
  have d300 : (0 : Int) < 300 ∧ (300 : Int).natAbs.log2 < 9000 := by decide
  have d2400 : (0 : Int) < 2400 ∧ (2400 : Int).natAbs.log2 < 9000 := by decide
  have d8 : (0 : Int) < 8 := by decide
  have d60 : (0 : Int) < 60 := by decide
  have d3 : (0 : Int) < 3 := by decide
  have neg1 : ∀ S, fNeg (.int 1) S = .ok (.p (.int (-1))) S := fun _ => rfl
  have ne1 : (-1 : Int) ≠ 0 := by decide
  have b12 : 1 + 2 ≤ big := by decide
  have b21 : 2 + 1 ≤ big := by decide
  obtain ⟨M, hM, M0, M1⟩ : ∃ M : Int, (if (es.length : Int) > 1 then (es.length : Int) else 1) = M ∧ 0 < M ∧ (es.length = 0 ∨ M = (es.length : Int)) := by
    refine ⟨_, rfl, ?_, ?_⟩ <;> split <;> omega
  obtain ⟨a, ha, ha2⟩ : ∃ a : Nat, r / 5 % M = (a : Int) ∧ (es.length = 0 ∨ a < es.length) := by
    have h1 := Int.emod_nonneg (r / 5) (show M ≠ 0 by omega)
    have h2 := Int.emod_lt_of_pos (r / 5) M0
    exact ⟨(r / 5 % M).toNat, by omega, by omega⟩
  have spS : ∀ o : Ob, Sp n (c + 1) (S1.set m o) := fun o => by
    obtain ⟨k, e, k0, k1⟩ := N1.sp
    exact ⟨k, by rw [List.getElem?_set_ne hmn]; exact e, k0, k1⟩
  -- turned round
  have rev : b1__law_other [some (.p (.list (cs.map .int))), some (.ref n), e2, some (.ref m), e4, e5, e6] S = .ok (.nx [some (.p (.list (cs.map .int))), some (.ref n), e2, some (.ref S1.length), e4, some (.p (.int r)), some (.p (.int (a : Int)))]) (S1 ++ [.lst (DLe es.reverse)]) →
      ∃ m' es' w5 w6 S', b1__law_other [some (.p (.list (cs.map .int))), some (.ref n), e2, some (.ref m), e4, e5, e6] S = .ok (.nx [some (.p (.list (cs.map .int))), some (.ref n), e2, some (.ref m'), e4, w5, w6]) S' ∧ GoodLs es' ∧ S'[m']? = some (.lst (DLe es')) ∧ m' ≠ n ∧ Sp n (c + 1) S' := fun q => by
    refine ⟨_, _, _, _, _, q, good_rev hg, List.getElem?_concat_length, by omega, ?_⟩
    obtain ⟨k, e, k0, k1⟩ := N1.sp
    exact ⟨k, by rw [List.getElem?_append_left hn1]; exact e, k0, k1⟩
  have st : stepL (es.map ledT) none none (-1) = es.reverse.map ledT := by rw [stepL_map, stepL_rev]
  have mk : mkP false (es.reverse.map ledT) S1 = .ok (.ref S1.length) (S1 ++ [.lst (DLe es.reverse)]) := by
    show R.ok (D.ref S1.length) (S1 ++ [.lst ((es.reverse.map ledT).map D.p)]) = _
    rw [List.map_map]
    rfl
  have md : (es.reverse.map ledT).map D.p = DLe es.reverse := by rw [List.map_map]; rfl
  cases he : es.isEmpty with
  | true =>
    rw [he] at ne
    replace ne : fNe (.list (es.map ledT)) (.list []) S1 = .ok (.p (.bool false)) S1 := ne
    refine rev ?_
    rw [b1__law_other_ev]
    simp only [body_ev, fInT_t, eIdxT_ev, isTq_t, fStrT_t, fNeN_l, fNeU_d, fNeU_t, fNeU_l, fNeU_i, fNeU_s, fNeU_b, fNeU_n, fEqU_d, fEqU_t, fEqU_l, fEqU_i, fEqU_s, fEqU_b, fEqU_n, isU_n, isU_c, fLeS_s, eD0_ev, fLen_s, fMul_s, fIx_s, eCutA_ev, fCutA_s, fCutA_l, fCutA_t, iStr_ev, iRangeD_ev, fLenD_r, gSl_ev, fSetSl_r, eDict0_ev, eMd1_ev, fUpd_r, Bool.false_xor, Bool.true_xor, Bool.not_true, Bool.not_false, eIsX_ev, fIsX_e, fIsX_n, eIsF_ev, fIsF_e, fIsF_n, eFld_ev, fIsN_x, eLam_ev, gTupQ_ev, e2V_ev, fEq_in, fPopAt_r, fSorted_l, fSorted_t, fMaxL_l, fMinL_l, eListRg_ev, eTupRg_ev, rgP_ev, iRange3_ev, fIsB_b, fIndex_l, fCount_l, isLq_l, isLq_r, eMq_ev, isDct_r, eGet_ev, fGet_r, fDictP_l, fLenSetA_t, fLenSetA_l, eStep_ev, fStep_l, fStep_t, sForR_ev, eLcR_ev, iEnumD_ev, iZipD_ev, sAug_ev, sAugL_ev, fIxL_r, fSetL_r, fLenSet_t, fIsN_n, fIsN_i, fIsN_t, fIsN_l, fIsN_s, fIsN_r, fExt_l, fExt_t, fIx_l, fIx_t, fIx_r, fSetIx_r, new_ev, bnd_R, bndR_ok, bndR_ex, ret_ev, opt_some, hush_ev, hushR_ok, iteM, eVar_ev, lkup, eC_ev, e2_ev, e1_ev, e2D_ev, e1D_ev, e3D_ev, aNil_ev, aCons_ev, eTupN_ev, eLstN_ev, eIf_ev, eIx_ev, eCut_ev, oNone_ev, oSome_ev, eIsK_ev, eTuple_ev, eList_ev, eCall_ev, eCallL_ev, eCallT_ev, eM0_ev, eM1_ev, eM2_ev, eDict_ev, ePairs_nil, ePairs_cons, eChain_ev, tVal_ev, tAnd_ev, tOr_ev, tNot_ev, tYes_ev, eAnd_ev, eOr_ev, eNot_ev, eFrz_ev, iVal_ev, iRange_ev, iRange2_ev, sNil_ev, kSeq_nx, kSeq_rt, kSeq_bk, kSeq_ct, sCons_ev, sExpr_ev, sSet_ev, gSub_ev, sAsg_ev, sRet_ev, sRetN_ev, sIf_ev, sRaise_ev, sBreak_ev, sCont_ev, sPar2_ev, sPar3_ev, gName_ev, gTup_ev, gsFill_nil, gsFill_cons, sFor_ev, sWhile_ev, lcT_ev, eLc_ev, kBody_nx, kBody_rt, DL.start, see_p, List.set_cons_zero, List.set_cons_succ, List.map_cons, List.map_nil, List.cons_append, List.nil_append, List.length_cons, List.length_nil, List.replicate, Nat.reduceAdd, Nat.reduceSub, Nat.reduceEqDiff, if_true, if_false, Bool.false_eq_true, reduceIte, fAdd_i, fAdd_s, fAdd_t, fAdd_l, fSub_i, fMul_i, fMul_t, fMul_l, fDiv_i, fMod_i, fPow_i, fShr_i, fCmp_i, fNeg_i, fEq_i, fEq_s, fNe_i, fNe_s, fLen_l, fLen_t, fMax2_i, fMin2_i, fInt_i, fInt_b, fCut_l, fCut_t, mkP_t, mkP_f, mkL_f, mkL_t, toPs_nil, toPs_p, toPs_map, toPs_mapf, toP_p, fAll_l, fAny_l, fAll_m, fAny_m, all_true, fSum_l, fSum_t, fTuple_l, fTuple_t, fTuple_r, fList_l, fList_t, fList_r, fIsK_p, fRepr_ev, fApp_r, fPop_r, fIns_r, isL_r, items_t, elems_t, elems_l, mkTup, Option.map_some, q1, d5, and_self, see_r, v1, List.length_map, hM, M0, ha, ne, neg1, ne1, ne_eq, not_false_eq_true, st, md]
  | false =>
    rw [he] at ne
    replace ne : fNe (.list (es.map ledT)) (.list []) S1 = .ok (.p (.bool true)) S1 := ne
    have hal : a < es.length := by
      rcases ha2 with z | z
      · rw [List.length_eq_zero_iff] at z; rw [z] at he; cases he
      · exact z
    have gA := hg.2.1 es[a] (List.getElem_mem hal)
    have g : atL (DLe es) (a : Int) = some (.p (ledT es[a])) := by
      rw [atL_in _ _ (by omega) (by rw [List.length_map]; omega)]
      simp
    have ix := ixI_nat hal
    have dset : ∀ x : Led, (DLe es).set a (.p (ledT x)) = DLe (es.set a x) := fun x => by simp only [DLe, List.map_set]
    have c1 : cutL [PyData.int es[a].1, .int es[a].2.1, .int es[a].2.2] none (some 1) = [PyData.int es[a].1] := rfl
    have c2 : cutL [PyData.int es[a].1, .int es[a].2.1, .int es[a].2.2] none (some 2) = [PyData.int es[a].1, .int es[a].2.1] := rfl
    have at2 : atL [PyData.int es[a].1, .int es[a].2.1, .int es[a].2.2] 2 = some (.int es[a].2.2) := rfl
    have m2 : ∀ x y : PyData, mkTup [.p x, .p y] = .p (.tuple [x, y]) := fun _ _ => rfl
    have m1 : ∀ x : PyData, mkTup [.p x] = .p (.tuple [x]) := fun _ => rfl
    by_cases k2 : r % 5 < 2
    · have dk := decide_eq_true k2
      refine ⟨m, es.set a (es[a].1, r / 300 % 8, r / 2400 % 60), some (.p (.int r)), some (.p (.int (a : Int))), S1.set m (.lst (DLe (es.set a (es[a].1, r / 300 % 8, r / 2400 % 60)))), ?_, good_set hg hal ⟨gA.1, by show 0 ≤ r / 300 % 8 ∧ r / 300 % 8 ≤ 7; omega, by show 0 ≤ r / 2400 % 60 ∧ r / 2400 % 60 ≤ 59; omega⟩ rfl, List.getElem?_set_self hm1, hmn, spS _⟩
      have ds := dset (es[a].1, r / 300 % 8, r / 2400 % 60)
      have ds' : (DLe es).set a (.p (.tuple [.int es[a].1, .int (r / 300 % 8), .int (r / 2400 % 60)])) = DLe (es.set a (es[a].1, r / 300 % 8, r / 2400 % 60)) := ds
      rw [b1__law_other_ev]
      simp only [body_ev, fInT_t, eIdxT_ev, isTq_t, fStrT_t, fNeN_l, fNeU_d, fNeU_t, fNeU_l, fNeU_i, fNeU_s, fNeU_b, fNeU_n, fEqU_d, fEqU_t, fEqU_l, fEqU_i, fEqU_s, fEqU_b, fEqU_n, isU_n, isU_c, fLeS_s, eD0_ev, fLen_s, fMul_s, fIx_s, eCutA_ev, fCutA_s, fCutA_l, fCutA_t, iStr_ev, iRangeD_ev, fLenD_r, gSl_ev, fSetSl_r, eDict0_ev, eMd1_ev, fUpd_r, Bool.false_xor, Bool.true_xor, Bool.not_true, Bool.not_false, eIsX_ev, fIsX_e, fIsX_n, eIsF_ev, fIsF_e, fIsF_n, eFld_ev, fIsN_x, eLam_ev, gTupQ_ev, e2V_ev, fEq_in, fPopAt_r, fSorted_l, fSorted_t, fMaxL_l, fMinL_l, eListRg_ev, eTupRg_ev, rgP_ev, iRange3_ev, fIsB_b, fIndex_l, fCount_l, isLq_l, isLq_r, eMq_ev, isDct_r, eGet_ev, fGet_r, fDictP_l, fLenSetA_t, fLenSetA_l, eStep_ev, fStep_l, fStep_t, sForR_ev, eLcR_ev, iEnumD_ev, iZipD_ev, sAug_ev, sAugL_ev, fIxL_r, fSetL_r, fLenSet_t, fIsN_n, fIsN_i, fIsN_t, fIsN_l, fIsN_s, fIsN_r, fExt_l, fExt_t, fIx_l, fIx_t, fIx_r, fSetIx_r, new_ev, bnd_R, bndR_ok, bndR_ex, ret_ev, opt_some, hush_ev, hushR_ok, iteM, eVar_ev, lkup, eC_ev, e2_ev, e1_ev, e2D_ev, e1D_ev, e3D_ev, aNil_ev, aCons_ev, eTupN_ev, eLstN_ev, eIf_ev, eIx_ev, eCut_ev, oNone_ev, oSome_ev, eIsK_ev, eTuple_ev, eList_ev, eCall_ev, eCallL_ev, eCallT_ev, eM0_ev, eM1_ev, eM2_ev, eDict_ev, ePairs_nil, ePairs_cons, eChain_ev, tVal_ev, tAnd_ev, tOr_ev, tNot_ev, tYes_ev, eAnd_ev, eOr_ev, eNot_ev, eFrz_ev, iVal_ev, iRange_ev, iRange2_ev, sNil_ev, kSeq_nx, kSeq_rt, kSeq_bk, kSeq_ct, sCons_ev, sExpr_ev, sSet_ev, gSub_ev, sAsg_ev, sRet_ev, sRetN_ev, sIf_ev, sRaise_ev, sBreak_ev, sCont_ev, sPar2_ev, sPar3_ev, gName_ev, gTup_ev, gsFill_nil, gsFill_cons, sFor_ev, sWhile_ev, lcT_ev, eLc_ev, kBody_nx, kBody_rt, DL.start, see_p, List.set_cons_zero, List.set_cons_succ, List.map_cons, List.map_nil, List.cons_append, List.nil_append, List.length_cons, List.length_nil, List.replicate, Nat.reduceAdd, Nat.reduceSub, Nat.reduceEqDiff, if_true, if_false, Bool.false_eq_true, reduceIte, fAdd_i, fAdd_s, fAdd_t, fAdd_l, fSub_i, fMul_i, fMul_t, fMul_l, fDiv_i, fMod_i, fPow_i, fShr_i, fCmp_i, fNeg_i, fEq_i, fEq_s, fNe_i, fNe_s, fLen_l, fLen_t, fMax2_i, fMin2_i, fInt_i, fInt_b, fCut_l, fCut_t, mkP_t, mkP_f, mkL_f, mkL_t, toPs_nil, toPs_p, toPs_map, toPs_mapf, toP_p, fAll_l, fAny_l, fAll_m, fAny_m, all_true, fSum_l, fSum_t, fTuple_l, fTuple_t, fTuple_r, fList_l, fList_t, fList_r, fIsK_p, fRepr_ev, fApp_r, fPop_r, fIns_r, isL_r, items_t, elems_t, elems_l, mkTup, Option.map_some, q1, d5, d300, d2400, d8, d60, and_self, see_r, v1, List.length_map, hM, M0, ha, ne, dk, L1, g, c1, b12, m2, ix, ds']
    · have dk := decide_eq_false k2
      by_cases k3 : r % 5 = 2
      · have dk3 := decide_eq_true k3
        obtain ⟨z, hz, z0, z1⟩ : ∃ z : Int, (if es[a].2.2 + 1 + r / 300 % 3 < 59 then es[a].2.2 + 1 + r / 300 % 3 else 59) = z ∧ 0 ≤ z ∧ z ≤ 59 := by
          have := gA.2.2
          refine ⟨_, rfl, ?_, ?_⟩ <;> split <;> omega
        refine ⟨m, es.set a (es[a].1, es[a].2.1, z), some (.p (.int r)), some (.p (.int (a : Int))), S1.set m (.lst (DLe (es.set a (es[a].1, es[a].2.1, z)))), ?_, good_set hg hal ⟨gA.1, gA.2.1, z0, z1⟩ rfl, List.getElem?_set_self hm1, hmn, spS _⟩
        have ds' : (DLe es).set a (.p (.tuple [.int es[a].1, .int es[a].2.1, .int z])) = DLe (es.set a (es[a].1, es[a].2.1, z)) := dset (es[a].1, es[a].2.1, z)
        rw [b1__law_other_ev]
        simp only [body_ev, fInT_t, eIdxT_ev, isTq_t, fStrT_t, fNeN_l, fNeU_d, fNeU_t, fNeU_l, fNeU_i, fNeU_s, fNeU_b, fNeU_n, fEqU_d, fEqU_t, fEqU_l, fEqU_i, fEqU_s, fEqU_b, fEqU_n, isU_n, isU_c, fLeS_s, eD0_ev, fLen_s, fMul_s, fIx_s, eCutA_ev, fCutA_s, fCutA_l, fCutA_t, iStr_ev, iRangeD_ev, fLenD_r, gSl_ev, fSetSl_r, eDict0_ev, eMd1_ev, fUpd_r, Bool.false_xor, Bool.true_xor, Bool.not_true, Bool.not_false, eIsX_ev, fIsX_e, fIsX_n, eIsF_ev, fIsF_e, fIsF_n, eFld_ev, fIsN_x, eLam_ev, gTupQ_ev, e2V_ev, fEq_in, fPopAt_r, fSorted_l, fSorted_t, fMaxL_l, fMinL_l, eListRg_ev, eTupRg_ev, rgP_ev, iRange3_ev, fIsB_b, fIndex_l, fCount_l, isLq_l, isLq_r, eMq_ev, isDct_r, eGet_ev, fGet_r, fDictP_l, fLenSetA_t, fLenSetA_l, eStep_ev, fStep_l, fStep_t, sForR_ev, eLcR_ev, iEnumD_ev, iZipD_ev, sAug_ev, sAugL_ev, fIxL_r, fSetL_r, fLenSet_t, fIsN_n, fIsN_i, fIsN_t, fIsN_l, fIsN_s, fIsN_r, fExt_l, fExt_t, fIx_l, fIx_t, fIx_r, fSetIx_r, new_ev, bnd_R, bndR_ok, bndR_ex, ret_ev, opt_some, hush_ev, hushR_ok, iteM, eVar_ev, lkup, eC_ev, e2_ev, e1_ev, e2D_ev, e1D_ev, e3D_ev, aNil_ev, aCons_ev, eTupN_ev, eLstN_ev, eIf_ev, eIx_ev, eCut_ev, oNone_ev, oSome_ev, eIsK_ev, eTuple_ev, eList_ev, eCall_ev, eCallL_ev, eCallT_ev, eM0_ev, eM1_ev, eM2_ev, eDict_ev, ePairs_nil, ePairs_cons, eChain_ev, tVal_ev, tAnd_ev, tOr_ev, tNot_ev, tYes_ev, eAnd_ev, eOr_ev, eNot_ev, eFrz_ev, iVal_ev, iRange_ev, iRange2_ev, sNil_ev, kSeq_nx, kSeq_rt, kSeq_bk, kSeq_ct, sCons_ev, sExpr_ev, sSet_ev, gSub_ev, sAsg_ev, sRet_ev, sRetN_ev, sIf_ev, sRaise_ev, sBreak_ev, sCont_ev, sPar2_ev, sPar3_ev, gName_ev, gTup_ev, gsFill_nil, gsFill_cons, sFor_ev, sWhile_ev, lcT_ev, eLc_ev, kBody_nx, kBody_rt, DL.start, see_p, List.set_cons_zero, List.set_cons_succ, List.map_cons, List.map_nil, List.cons_append, List.nil_append, List.length_cons, List.length_nil, List.replicate, Nat.reduceAdd, Nat.reduceSub, Nat.reduceEqDiff, if_true, if_false, Bool.false_eq_true, reduceIte, fAdd_i, fAdd_s, fAdd_t, fAdd_l, fSub_i, fMul_i, fMul_t, fMul_l, fDiv_i, fMod_i, fPow_i, fShr_i, fCmp_i, fNeg_i, fEq_i, fEq_s, fNe_i, fNe_s, fLen_l, fLen_t, fMax2_i, fMin2_i, fInt_i, fInt_b, fCut_l, fCut_t, mkP_t, mkP_f, mkL_f, mkL_t, toPs_nil, toPs_p, toPs_map, toPs_mapf, toP_p, fAll_l, fAny_l, fAll_m, fAny_m, all_true, fSum_l, fSum_t, fTuple_l, fTuple_t, fTuple_r, fList_l, fList_t, fList_r, fIsK_p, fRepr_ev, fApp_r, fPop_r, fIns_r, isL_r, items_t, elems_t, elems_l, mkTup, Option.map_some, q1, d5, d300, d3, and_self, see_r, v1, List.length_map, hM, M0, ha, ne, dk, dk3, L1, g, c2, at2, b21, m1, hz, ix, ds']
      · have dk3 := decide_eq_false k3
        by_cases k4 : r % 5 = 3
        · have dk4 := decide_eq_true k4
          have bd : -4611686018427387904 ≤ (a : Int) ∧ (a : Int) < 4611686018427387904 := by omega
          have gg : (DLe es)[a]? = some (.p (ledT es[a])) := by rw [List.getElem?_map, List.getElem?_eq_getElem hal]; rfl
          have er : (DLe es).eraseIdx a = DLe (es.eraseIdx a) := by simp only [DLe, List.eraseIdx_eq_take_drop_succ, List.map_append, List.map_take, List.map_drop]
          refine ⟨m, es.eraseIdx a, some (.p (.int r)), some (.p (.int (a : Int))), S1.set m (.lst (DLe (es.eraseIdx a))), ?_, good_sub hg (List.eraseIdx_sublist _ _), List.getElem?_set_self hm1, hmn, spS _⟩
          rw [b1__law_other_ev]
          simp only [body_ev, fInT_t, eIdxT_ev, isTq_t, fStrT_t, fNeN_l, fNeU_d, fNeU_t, fNeU_l, fNeU_i, fNeU_s, fNeU_b, fNeU_n, fEqU_d, fEqU_t, fEqU_l, fEqU_i, fEqU_s, fEqU_b, fEqU_n, isU_n, isU_c, fLeS_s, eD0_ev, fLen_s, fMul_s, fIx_s, eCutA_ev, fCutA_s, fCutA_l, fCutA_t, iStr_ev, iRangeD_ev, fLenD_r, gSl_ev, fSetSl_r, eDict0_ev, eMd1_ev, fUpd_r, Bool.false_xor, Bool.true_xor, Bool.not_true, Bool.not_false, eIsX_ev, fIsX_e, fIsX_n, eIsF_ev, fIsF_e, fIsF_n, eFld_ev, fIsN_x, eLam_ev, gTupQ_ev, e2V_ev, fEq_in, fPopAt_r, fSorted_l, fSorted_t, fMaxL_l, fMinL_l, eListRg_ev, eTupRg_ev, rgP_ev, iRange3_ev, fIsB_b, fIndex_l, fCount_l, isLq_l, isLq_r, eMq_ev, isDct_r, eGet_ev, fGet_r, fDictP_l, fLenSetA_t, fLenSetA_l, eStep_ev, fStep_l, fStep_t, sForR_ev, eLcR_ev, iEnumD_ev, iZipD_ev, sAug_ev, sAugL_ev, fIxL_r, fSetL_r, fLenSet_t, fIsN_n, fIsN_i, fIsN_t, fIsN_l, fIsN_s, fIsN_r, fExt_l, fExt_t, fIx_l, fIx_t, fIx_r, fSetIx_r, new_ev, bnd_R, bndR_ok, bndR_ex, ret_ev, opt_some, hush_ev, hushR_ok, iteM, eVar_ev, lkup, eC_ev, e2_ev, e1_ev, e2D_ev, e1D_ev, e3D_ev, aNil_ev, aCons_ev, eTupN_ev, eLstN_ev, eIf_ev, eIx_ev, eCut_ev, oNone_ev, oSome_ev, eIsK_ev, eTuple_ev, eList_ev, eCall_ev, eCallL_ev, eCallT_ev, eM0_ev, eM1_ev, eM2_ev, eDict_ev, ePairs_nil, ePairs_cons, eChain_ev, tVal_ev, tAnd_ev, tOr_ev, tNot_ev, tYes_ev, eAnd_ev, eOr_ev, eNot_ev, eFrz_ev, iVal_ev, iRange_ev, iRange2_ev, sNil_ev, kSeq_nx, kSeq_rt, kSeq_bk, kSeq_ct, sCons_ev, sExpr_ev, sSet_ev, gSub_ev, sAsg_ev, sRet_ev, sRetN_ev, sIf_ev, sRaise_ev, sBreak_ev, sCont_ev, sPar2_ev, sPar3_ev, gName_ev, gTup_ev, gsFill_nil, gsFill_cons, sFor_ev, sWhile_ev, lcT_ev, eLc_ev, kBody_nx, kBody_rt, DL.start, see_p, List.set_cons_zero, List.set_cons_succ, List.map_cons, List.map_nil, List.cons_append, List.nil_append, List.length_cons, List.length_nil, List.replicate, Nat.reduceAdd, Nat.reduceSub, Nat.reduceEqDiff, if_true, if_false, Bool.false_eq_true, reduceIte, fAdd_i, fAdd_s, fAdd_t, fAdd_l, fSub_i, fMul_i, fMul_t, fMul_l, fDiv_i, fMod_i, fPow_i, fShr_i, fCmp_i, fNeg_i, fEq_i, fEq_s, fNe_i, fNe_s, fLen_l, fLen_t, fMax2_i, fMin2_i, fInt_i, fInt_b, fCut_l, fCut_t, mkP_t, mkP_f, mkL_f, mkL_t, toPs_nil, toPs_p, toPs_map, toPs_mapf, toP_p, fAll_l, fAny_l, fAll_m, fAny_m, all_true, fSum_l, fSum_t, fTuple_l, fTuple_t, fTuple_r, fList_l, fList_t, fList_r, fIsK_p, fRepr_ev, fApp_r, fPop_r, fIns_r, isL_r, items_t, elems_t, elems_l, mkTup, Option.map_some, q1, d5, and_self, see_r, v1, List.length_map, hM, M0, ha, ne, dk, dk3, dk4, L1, ix, bd, gg, er]
        · have dk4 := decide_eq_false k4
          refine rev ?_
          rw [b1__law_other_ev]
          simp only [body_ev, fInT_t, eIdxT_ev, isTq_t, fStrT_t, fNeN_l, fNeU_d, fNeU_t, fNeU_l, fNeU_i, fNeU_s, fNeU_b, fNeU_n, fEqU_d, fEqU_t, fEqU_l, fEqU_i, fEqU_s, fEqU_b, fEqU_n, isU_n, isU_c, fLeS_s, eD0_ev, fLen_s, fMul_s, fIx_s, eCutA_ev, fCutA_s, fCutA_l, fCutA_t, iStr_ev, iRangeD_ev, fLenD_r, gSl_ev, fSetSl_r, eDict0_ev, eMd1_ev, fUpd_r, Bool.false_xor, Bool.true_xor, Bool.not_true, Bool.not_false, eIsX_ev, fIsX_e, fIsX_n, eIsF_ev, fIsF_e, fIsF_n, eFld_ev, fIsN_x, eLam_ev, gTupQ_ev, e2V_ev, fEq_in, fPopAt_r, fSorted_l, fSorted_t, fMaxL_l, fMinL_l, eListRg_ev, eTupRg_ev, rgP_ev, iRange3_ev, fIsB_b, fIndex_l, fCount_l, isLq_l, isLq_r, eMq_ev, isDct_r, eGet_ev, fGet_r, fDictP_l, fLenSetA_t, fLenSetA_l, eStep_ev, fStep_l, fStep_t, sForR_ev, eLcR_ev, iEnumD_ev, iZipD_ev, sAug_ev, sAugL_ev, fIxL_r, fSetL_r, fLenSet_t, fIsN_n, fIsN_i, fIsN_t, fIsN_l, fIsN_s, fIsN_r, fExt_l, fExt_t, fIx_l, fIx_t, fIx_r, fSetIx_r, new_ev, bnd_R, bndR_ok, bndR_ex, ret_ev, opt_some, hush_ev, hushR_ok, iteM, eVar_ev, lkup, eC_ev, e2_ev, e1_ev, e2D_ev, e1D_ev, e3D_ev, aNil_ev, aCons_ev, eTupN_ev, eLstN_ev, eIf_ev, eIx_ev, eCut_ev, oNone_ev, oSome_ev, eIsK_ev, eTuple_ev, eList_ev, eCall_ev, eCallL_ev, eCallT_ev, eM0_ev, eM1_ev, eM2_ev, eDict_ev, ePairs_nil, ePairs_cons, eChain_ev, tVal_ev, tAnd_ev, tOr_ev, tNot_ev, tYes_ev, eAnd_ev, eOr_ev, eNot_ev, eFrz_ev, iVal_ev, iRange_ev, iRange2_ev, sNil_ev, kSeq_nx, kSeq_rt, kSeq_bk, kSeq_ct, sCons_ev, sExpr_ev, sSet_ev, gSub_ev, sAsg_ev, sRet_ev, sRetN_ev, sIf_ev, sRaise_ev, sBreak_ev, sCont_ev, sPar2_ev, sPar3_ev, gName_ev, gTup_ev, gsFill_nil, gsFill_cons, sFor_ev, sWhile_ev, lcT_ev, eLc_ev, kBody_nx, kBody_rt, DL.start, see_p, List.set_cons_zero, List.set_cons_succ, List.map_cons, List.map_nil, List.cons_append, List.nil_append, List.length_cons, List.length_nil, List.replicate, Nat.reduceAdd, Nat.reduceSub, Nat.reduceEqDiff, if_true, if_false, Bool.false_eq_true, reduceIte, fAdd_i, fAdd_s, fAdd_t, fAdd_l, fSub_i, fMul_i, fMul_t, fMul_l, fDiv_i, fMod_i, fPow_i, fShr_i, fCmp_i, fNeg_i, fEq_i, fEq_s, fNe_i, fNe_s, fLen_l, fLen_t, fMax2_i, fMin2_i, fInt_i, fInt_b, fCut_l, fCut_t, mkP_t, mkP_f, mkL_f, mkL_t, toPs_nil, toPs_p, toPs_map, toPs_mapf, toP_p, fAll_l, fAny_l, fAll_m, fAny_m, all_true, fSum_l, fSum_t, fTuple_l, fTuple_t, fTuple_r, fList_l, fList_t, fList_r, fIsK_p, fRepr_ev, fApp_r, fPop_r, fIns_r, isL_r, items_t, elems_t, elems_l, mkTup, Option.map_some, q1, d5, and_self, see_r, v1, List.length_map, hM, M0, ha, ne, dk, dk3, dk4, neg1, ne1, ne_eq, not_false_eq_true, st, md]
theorem ok_other {n : Nat} {c : Int} {S : Sto} (cs : List Int) (hl : cs.length ≤ 63) {es : List Led} (hg : GoodLs es) (h : Sp n c S) (hc : c ≤ 2 ^ 28) : ∃ es' S', GoodLs es' ∧ Sp n (c + 10) S' ∧ r__law_other [.p (.list (cs.map .int)), .ref n, .p (.tuple (es.map ledT))] S = .ok (.p (.tuple (es'.map ledT))) S' := by
  have hn : n < S.length := by obtain ⟨k, e, _⟩ := h; exact (List.getElem?_eq_some_iff.mp e).1
  have sp0 : Sp n c (S ++ [.lst (DLe es)]) := by
    obtain ⟨k, e, k0, k1⟩ := h
    exact ⟨k, by rw [List.getElem?_append_left hn]; exact e, k0, k1⟩
  obtain ⟨r, S1, r0, r1, N1, q1⟩ := ok_cell cs sp0 (by omega) hl
  have md : (es.map ledT).map D.p = DLe es := by rw [List.map_map]; rfl
  obtain ⟨env', S', q, m, es', w4, w5, w6, rfl, g', L', hm', sp'⟩ := for_all (g := gName 4) (b := b1__law_other) (I := fun i env S' => ∃ (m : Nat) (es' : List Led) (w4 w5 w6 : Option D), env = [some (.p (.list (cs.map .int))), some (.ref n), some (.p (.tuple (es.map ledT))), some (.ref m), w4, w5, w6] ∧ GoodLs es' ∧ S'[m]? = some (.lst (DLe es')) ∧ m ≠ n ∧ Sp n (c + 1 + (i : Int)) S')
    ((List.range (r % 4).toNat).map fun i => .p (.int (i : Nat))) (env := [some (.p (.list (cs.map .int))), some (.ref n), some (.p (.tuple (es.map ledT))), some (.ref S.length), none, none, none]) (S := S1) ⟨S.length, es, none, none, none, rfl, hg, by rw [N1.oth S.length (by omega)]; simp, by omega, N1.sp.mono (by omega)⟩ (fun i x env S' hx hi => by
      obtain ⟨m, es', w4, w5, w6, rfl, g', L', hm', sp'⟩ := hi
      have hi : i < (r % 4).toNat := by
        have := (List.getElem?_eq_some_iff.mp hx).1
        simpa using this
      obtain ⟨m2, es2, w5', w6', S2, q2, g2, L2, h2, sp2⟩ := ok_b1o cs hl g' L' hm' sp' (by omega) (some (.p (.tuple (es.map ledT)))) (some x) w5 w6
      exact ⟨_, S2, q2, m2, es2, _, _, _, rfl, g2, L2, h2, sp2.mono (by push_cast; omega)⟩)
  rw [List.length_map, List.length_range] at sp'
  have d4 : (0 : Int) < 4 := by decide
  have rg : r % 4 ≤ 16777216 ∧ -16777216 ≤ r % 4 := by omega
  refine ⟨es', S', g', sp'.mono (by omega), ?_⟩
  unfold r__law_other
  simp only [body_ev, fInT_t, eIdxT_ev, isTq_t, fStrT_t, fNeN_l, fNeU_d, fNeU_t, fNeU_l, fNeU_i, fNeU_s, fNeU_b, fNeU_n, fEqU_d, fEqU_t, fEqU_l, fEqU_i, fEqU_s, fEqU_b, fEqU_n, isU_n, isU_c, fLeS_s, eD0_ev, fLen_s, fMul_s, fIx_s, eCutA_ev, fCutA_s, fCutA_l, fCutA_t, iStr_ev, iRangeD_ev, fLenD_r, gSl_ev, fSetSl_r, eDict0_ev, eMd1_ev, fUpd_r, Bool.false_xor, Bool.true_xor, Bool.not_true, Bool.not_false, eIsX_ev, fIsX_e, fIsX_n, eIsF_ev, fIsF_e, fIsF_n, eFld_ev, fIsN_x, eLam_ev, gTupQ_ev, e2V_ev, fEq_in, fPopAt_r, fSorted_l, fSorted_t, fMaxL_l, fMinL_l, eListRg_ev, eTupRg_ev, rgP_ev, iRange3_ev, fIsB_b, fIndex_l, fCount_l, isLq_l, isLq_r, eMq_ev, isDct_r, eGet_ev, fGet_r, fDictP_l, fLenSetA_t, fLenSetA_l, eStep_ev, fStep_l, fStep_t, sForR_ev, eLcR_ev, iEnumD_ev, iZipD_ev, sAug_ev, sAugL_ev, fIxL_r, fSetL_r, fLenSet_t, fIsN_n, fIsN_i, fIsN_t, fIsN_l, fIsN_s, fIsN_r, fExt_l, fExt_t, fIx_l, fIx_t, fIx_r, fSetIx_r, new_ev, bnd_R, bndR_ok, bndR_ex, ret_ev, opt_some, hush_ev, hushR_ok, iteM, eVar_ev, lkup, eC_ev, e2_ev, e1_ev, e2D_ev, e1D_ev, e3D_ev, aNil_ev, aCons_ev, eTupN_ev, eLstN_ev, eIf_ev, eIx_ev, eCut_ev, oNone_ev, oSome_ev, eIsK_ev, eTuple_ev, eList_ev, eCall_ev, eCallL_ev, eCallT_ev, eM0_ev, eM1_ev, eM2_ev, eDict_ev, ePairs_nil, ePairs_cons, eChain_ev, tVal_ev, tAnd_ev, tOr_ev, tNot_ev, tYes_ev, eAnd_ev, eOr_ev, eNot_ev, eFrz_ev, iVal_ev, iRange_ev, iRange2_ev, sNil_ev, kSeq_nx, kSeq_rt, kSeq_bk, kSeq_ct, sCons_ev, sExpr_ev, sSet_ev, gSub_ev, sAsg_ev, sRet_ev, sRetN_ev, sIf_ev, sRaise_ev, sBreak_ev, sCont_ev, sPar2_ev, sPar3_ev, gName_ev, gTup_ev, gsFill_nil, gsFill_cons, sFor_ev, sWhile_ev, lcT_ev, eLc_ev, kBody_nx, kBody_rt, DL.start, see_p, List.set_cons_zero, List.set_cons_succ, List.map_cons, List.map_nil, List.cons_append, List.nil_append, List.length_cons, List.length_nil, List.replicate, Nat.reduceAdd, Nat.reduceSub, Nat.reduceEqDiff, if_true, if_false, Bool.false_eq_true, reduceIte, fAdd_i, fAdd_s, fAdd_t, fAdd_l, fSub_i, fMul_i, fMul_t, fMul_l, fDiv_i, fMod_i, fPow_i, fShr_i, fCmp_i, fNeg_i, fEq_i, fEq_s, fNe_i, fNe_s, fLen_l, fLen_t, fMax2_i, fMin2_i, fInt_i, fInt_b, fCut_l, fCut_t, mkP_t, mkP_f, mkL_f, mkL_t, toPs_nil, toPs_p, toPs_map, toPs_mapf, toP_p, fAll_l, fAny_l, fAll_m, fAny_m, all_true, fSum_l, fSum_t, fTuple_l, fTuple_t, fTuple_r, fList_l, fList_t, fList_r, fIsK_p, fRepr_ev, fApp_r, fPop_r, fIns_r, isL_r, items_t, elems_t, elems_l, mkTup, Option.map_some, md, q1, d4, rg, and_self, q, L', mkTup_dle]
theorem ok_drawn {n : Nat} {c : Int} {S : Sto} (cs : List Int) (hl : cs.length ≤ 63) {os : List Int} (ho : GoodO os) (h : Sp n c S) (hc : c ≤ 2 ^ 28) : ∃ es' S', GoodLs es' ∧ Sp n (c + 70) S' ∧ r__law_drawn [.p (.list (cs.map .int)), .ref n, .p (.tuple (os.map .int))] S = .ok (.p (.tuple (es'.map ledT))) S' := by
  obtain ⟨r, S1, r0, r1, N1, q1⟩ := ok_cell cs h (by omega) hl
  have hn : n < S1.length := by obtain ⟨k, e, _⟩ := N1.sp; exact (List.getElem?_eq_some_iff.mp e).1
  have h60 := ho.1
  have d4 : (0 : Int) < 4 ∧ (4 : Int).natAbs.log2 < 9000 := by decide
  have d8 : (0 : Int) < 8 ∧ (8 : Int).natAbs.log2 < 9000 := by decide
  have d9 : (0 : Int) < 9 ∧ (9 : Int).natAbs.log2 < 9000 := by decide
  have d2 : (0 : Int) < 2 := by decide
  have d3 : (0 : Int) < 3 := by decide
  have d60 : (0 : Int) < 60 := by decide
  have d6 : (0 : Int) < 6 := by decide
  have sp0 : Sp n (c + 1) (S1 ++ [.lst []]) := by
    obtain ⟨k, e, k0, k1⟩ := N1.sp
    exact ⟨k, by rw [List.getElem?_append_left hn]; exact e, k0, k1⟩
  have ls : S1.length = S.length := N1.len
  obtain ⟨env', S', q, es, w5, w6, w7, rfl, hle, hgs, hth, L', sp'⟩ := for_all (g := gName 5) (b := b1__law_drawn) (I := fun i env S' => ∃ (es : List Led) (w5 w6 w7 : Option D), env = [some (.p (.list (cs.map .int))), some (.ref n), some (.p (.tuple (os.map .int))), some (.p (.int r)), some (.ref S1.length), w5, w6, w7] ∧ es.length = i ∧ (∀ e ∈ es, GoodL e) ∧ es.map (·.1) = os.take i ∧ S'[S1.length]? = some (.lst (DLe es)) ∧ Sp n (c + 1 + (i : Int)) S')
    (os.map fun t => .p (.int t)) (env := [some (.p (.list (cs.map .int))), some (.ref n), some (.p (.tuple (os.map .int))), some (.p (.int r)), some (.ref S1.length), none, none, none]) (S := S1 ++ [.lst []]) ⟨[], none, none, none, rfl, rfl, by simp, rfl, by simp [DLe], sp0.mono (by omega)⟩ (fun i x env S' hx hi => by
      obtain ⟨es, w5, w6, w7, rfl, hle, hgs, hth, L', sp'⟩ := hi
      have hi : i < os.length := by
        have := (List.getElem?_eq_some_iff.mp hx).1
        simpa using this
      rw [List.getElem?_map, List.getElem?_eq_getElem hi] at hx
      cases hx
      obtain ⟨t, S2, t0, t1, N2, q2⟩ := ok_cell cs sp' (by omega) hl
      have L2 : S2[S1.length]? = some (.lst (DLe es)) := by rw [N2.oth _ (by omega)]; exact L'
      have hp2 : S1.length < S2.length := (List.getElem?_eq_some_iff.mp L2).1
      have m7 : mulOk (t % 2) 7 = true := mulOk_s (by omega) (by omega)
      have m29 : mulOk (t / 8 % 3) 29 = true := mulOk_s (by omega) (by omega)
      obtain ⟨u, hu, u0, u1⟩ : ∃ u, atL [PyData.int (t % 8), .int (r / 9 % 8), .int (t % 2 * 7), .int (t % 3)] (r % 4) = some (.int u) ∧ 0 ≤ u ∧ u ≤ 7 := by
        have : r % 4 = 0 ∨ r % 4 = 1 ∨ r % 4 = 2 ∨ r % 4 = 3 := by omega
        rcases this with e | e | e | e <;> rw [e] <;> exact ⟨_, rfl, by omega, by omega⟩
      obtain ⟨y, hy, y0, y1⟩ : ∃ y, atL [PyData.int (t / 8 % 60), .int (t / 8 % 6), .int (t / 8 % 3 * 29), .int (59 - t / 8 % 4)] (r / 4 % 4) = some (.int y) ∧ 0 ≤ y ∧ y ≤ 59 := by
        have : r / 4 % 4 = 0 ∨ r / 4 % 4 = 1 ∨ r / 4 % 4 = 2 ∨ r / 4 % 4 = 3 := by omega
        rcases this with e | e | e | e <;> rw [e] <;> exact ⟨_, rfl, by omega, by omega⟩
      have m3 : ∀ x y z, mkTup [.p x, .p y, .p z] = .p (.tuple [x, y, z]) := fun _ _ _ => rfl
      have t4 : ∀ x y z w : PyData, toPs [.p x, .p y, .p z, .p w] = some [x, y, z, w] := fun _ _ _ _ => rfl
      have bg : es.length < big := by unfold big; omega
      have e9 : DLe es ++ [D.p (.tuple [.int os[i], .int u, .int y])] = DLe (es ++ [(os[i], u, y)]) := by simp [DLe]
      refine ⟨_, S2.set S1.length (.lst (DLe (es ++ [(os[i], u, y)]))), ?_, es ++ [(os[i], u, y)], some (.p (.int os[i])), some (.p (.int t)), some (.p (.int u)), rfl, by simp [hle], fun e he => ?_, ?_, List.getElem?_set_self hp2, ?_⟩
      · simp only [body_ev, fInT_t, eIdxT_ev, isTq_t, fStrT_t, fNeN_l, fNeU_d, fNeU_t, fNeU_l, fNeU_i, fNeU_s, fNeU_b, fNeU_n, fEqU_d, fEqU_t, fEqU_l, fEqU_i, fEqU_s, fEqU_b, fEqU_n, isU_n, isU_c, fLeS_s, eD0_ev, fLen_s, fMul_s, fIx_s, eCutA_ev, fCutA_s, fCutA_l, fCutA_t, iStr_ev, iRangeD_ev, fLenD_r, gSl_ev, fSetSl_r, eDict0_ev, eMd1_ev, fUpd_r, Bool.false_xor, Bool.true_xor, Bool.not_true, Bool.not_false, eIsX_ev, fIsX_e, fIsX_n, eIsF_ev, fIsF_e, fIsF_n, eFld_ev, fIsN_x, eLam_ev, gTupQ_ev, e2V_ev, fEq_in, fPopAt_r, fSorted_l, fSorted_t, fMaxL_l, fMinL_l, eListRg_ev, eTupRg_ev, rgP_ev, iRange3_ev, fIsB_b, fIndex_l, fCount_l, isLq_l, isLq_r, eMq_ev, isDct_r, eGet_ev, fGet_r, fDictP_l, fLenSetA_t, fLenSetA_l, eStep_ev, fStep_l, fStep_t, sForR_ev, eLcR_ev, iEnumD_ev, iZipD_ev, sAug_ev, sAugL_ev, fIxL_r, fSetL_r, fLenSet_t, fIsN_n, fIsN_i, fIsN_t, fIsN_l, fIsN_s, fIsN_r, fExt_l, fExt_t, fIx_l, fIx_t, fIx_r, fSetIx_r, new_ev, bnd_R, bndR_ok, bndR_ex, ret_ev, opt_some, hush_ev, hushR_ok, iteM, eVar_ev, lkup, eC_ev, e2_ev, e1_ev, e2D_ev, e1D_ev, e3D_ev, aNil_ev, aCons_ev, eTupN_ev, eLstN_ev, eIf_ev, eIx_ev, eCut_ev, oNone_ev, oSome_ev, eIsK_ev, eTuple_ev, eList_ev, eCall_ev, eCallL_ev, eCallT_ev, eM0_ev, eM1_ev, eM2_ev, eDict_ev, ePairs_nil, ePairs_cons, eChain_ev, tVal_ev, tAnd_ev, tOr_ev, tNot_ev, tYes_ev, eAnd_ev, eOr_ev, eNot_ev, eFrz_ev, iVal_ev, iRange_ev, iRange2_ev, sNil_ev, kSeq_nx, kSeq_rt, kSeq_bk, kSeq_ct, sCons_ev, sExpr_ev, sSet_ev, gSub_ev, sAsg_ev, sRet_ev, sRetN_ev, sIf_ev, sRaise_ev, sBreak_ev, sCont_ev, sPar2_ev, sPar3_ev, gName_ev, gTup_ev, gsFill_nil, gsFill_cons, sFor_ev, sWhile_ev, lcT_ev, eLc_ev, kBody_nx, kBody_rt, DL.start, see_p, List.set_cons_zero, List.set_cons_succ, List.map_cons, List.map_nil, List.cons_append, List.nil_append, List.length_cons, List.length_nil, List.replicate, Nat.reduceAdd, Nat.reduceSub, Nat.reduceEqDiff, if_true, if_false, Bool.false_eq_true, reduceIte, fAdd_i, fAdd_s, fAdd_t, fAdd_l, fSub_i, fMul_i, fMul_t, fMul_l, fDiv_i, fMod_i, fPow_i, fShr_i, fCmp_i, fNeg_i, fEq_i, fEq_s, fNe_i, fNe_s, fLen_l, fLen_t, fMax2_i, fMin2_i, fInt_i, fInt_b, fCut_l, fCut_t, mkP_t, mkP_f, mkL_f, mkL_t, toPs_nil, toPs_p, toPs_map, toPs_mapf, toP_p, fAll_l, fAny_l, fAll_m, fAny_m, all_true, fSum_l, fSum_t, fTuple_l, fTuple_t, fTuple_r, fList_l, fList_t, fList_r, fIsK_p, fRepr_ev, fApp_r, fPop_r, fIns_r, isL_r, items_t, elems_t, elems_l, mkTup, Option.map_some, b1__law_drawn_ev, q2, d8, d9, d4, d2, d3, d60, d6, and_self, m7, m29, t4, hu, hy, m3, L2, List.length_map, bg, e9]
      · rcases List.mem_append.mp he with z | z
        · exact hgs e z
        · rw [List.mem_singleton] at z
          rw [z]
          exact ⟨ho.2.1 _ (List.getElem_mem hi), ⟨u0, u1⟩, y0, y1⟩
      · rw [List.map_append, hth, List.take_succ, List.getElem?_eq_getElem hi]
        rfl
      · obtain ⟨k, e, k0, k1⟩ := N2.sp
        exact ⟨k, by rw [List.getElem?_set_ne (by omega)]; exact e, k0, by push_cast; omega⟩)
  rw [List.length_map] at hle hth sp'
  rw [List.take_length] at hth
  have md : (os.map PyData.int).map D.p = os.map fun t => .p (.int t) := by rw [List.map_map]; rfl
  refine ⟨es, S', ⟨by omega, hgs, by rw [hth]; exact ho.2.2⟩, sp'.mono (by omega), ?_⟩
  unfold r__law_drawn
  simp only [body_ev, fInT_t, eIdxT_ev, isTq_t, fStrT_t, fNeN_l, fNeU_d, fNeU_t, fNeU_l, fNeU_i, fNeU_s, fNeU_b, fNeU_n, fEqU_d, fEqU_t, fEqU_l, fEqU_i, fEqU_s, fEqU_b, fEqU_n, isU_n, isU_c, fLeS_s, eD0_ev, fLen_s, fMul_s, fIx_s, eCutA_ev, fCutA_s, fCutA_l, fCutA_t, iStr_ev, iRangeD_ev, fLenD_r, gSl_ev, fSetSl_r, eDict0_ev, eMd1_ev, fUpd_r, Bool.false_xor, Bool.true_xor, Bool.not_true, Bool.not_false, eIsX_ev, fIsX_e, fIsX_n, eIsF_ev, fIsF_e, fIsF_n, eFld_ev, fIsN_x, eLam_ev, gTupQ_ev, e2V_ev, fEq_in, fPopAt_r, fSorted_l, fSorted_t, fMaxL_l, fMinL_l, eListRg_ev, eTupRg_ev, rgP_ev, iRange3_ev, fIsB_b, fIndex_l, fCount_l, isLq_l, isLq_r, eMq_ev, isDct_r, eGet_ev, fGet_r, fDictP_l, fLenSetA_t, fLenSetA_l, eStep_ev, fStep_l, fStep_t, sForR_ev, eLcR_ev, iEnumD_ev, iZipD_ev, sAug_ev, sAugL_ev, fIxL_r, fSetL_r, fLenSet_t, fIsN_n, fIsN_i, fIsN_t, fIsN_l, fIsN_s, fIsN_r, fExt_l, fExt_t, fIx_l, fIx_t, fIx_r, fSetIx_r, new_ev, bnd_R, bndR_ok, bndR_ex, ret_ev, opt_some, hush_ev, hushR_ok, iteM, eVar_ev, lkup, eC_ev, e2_ev, e1_ev, e2D_ev, e1D_ev, e3D_ev, aNil_ev, aCons_ev, eTupN_ev, eLstN_ev, eIf_ev, eIx_ev, eCut_ev, oNone_ev, oSome_ev, eIsK_ev, eTuple_ev, eList_ev, eCall_ev, eCallL_ev, eCallT_ev, eM0_ev, eM1_ev, eM2_ev, eDict_ev, ePairs_nil, ePairs_cons, eChain_ev, tVal_ev, tAnd_ev, tOr_ev, tNot_ev, tYes_ev, eAnd_ev, eOr_ev, eNot_ev, eFrz_ev, iVal_ev, iRange_ev, iRange2_ev, sNil_ev, kSeq_nx, kSeq_rt, kSeq_bk, kSeq_ct, sCons_ev, sExpr_ev, sSet_ev, gSub_ev, sAsg_ev, sRet_ev, sRetN_ev, sIf_ev, sRaise_ev, sBreak_ev, sCont_ev, sPar2_ev, sPar3_ev, gName_ev, gTup_ev, gsFill_nil, gsFill_cons, sFor_ev, sWhile_ev, lcT_ev, eLc_ev, kBody_nx, kBody_rt, DL.start, see_p, List.set_cons_zero, List.set_cons_succ, List.map_cons, List.map_nil, List.cons_append, List.nil_append, List.length_cons, List.length_nil, List.replicate, Nat.reduceAdd, Nat.reduceSub, Nat.reduceEqDiff, if_true, if_false, Bool.false_eq_true, reduceIte, fAdd_i, fAdd_s, fAdd_t, fAdd_l, fSub_i, fMul_i, fMul_t, fMul_l, fDiv_i, fMod_i, fPow_i, fShr_i, fCmp_i, fNeg_i, fEq_i, fEq_s, fNe_i, fNe_s, fLen_l, fLen_t, fMax2_i, fMin2_i, fInt_i, fInt_b, fCut_l, fCut_t, mkP_t, mkP_f, mkL_f, mkL_t, toPs_nil, toPs_p, toPs_map, toPs_mapf, toP_p, fAll_l, fAny_l, fAll_m, fAny_m, all_true, fSum_l, fSum_t, fTuple_l, fTuple_t, fTuple_r, fList_l, fList_t, fList_r, fIsK_p, fRepr_ev, fApp_r, fPop_r, fIns_r, isL_r, items_t, elems_t, elems_l, mkTup, Option.map_some, q1, md, q, L', mkTup_dle]
theorem ok_b1l {es : List Led} (h : GoodLs es) (e0 e1 e2 e3 e4 e5 : Option D) (S : Sto) : b1_law [e0, e1, e2, e3, e4, e5, some (.p (.tuple (es.map ledT)))] S = .ok (.nx [e0, e1, e2, e3, e4, e5, some (.p (.tuple (es.map ledT)))]) S := by
  obtain ⟨S', q⟩ := ok_right h
  rw [b1_law_ev]
  simp only [body_ev, fInT_t, eIdxT_ev, isTq_t, fStrT_t, fNeN_l, fNeU_d, fNeU_t, fNeU_l, fNeU_i, fNeU_s, fNeU_b, fNeU_n, fEqU_d, fEqU_t, fEqU_l, fEqU_i, fEqU_s, fEqU_b, fEqU_n, isU_n, isU_c, fLeS_s, eD0_ev, fLen_s, fMul_s, fIx_s, eCutA_ev, fCutA_s, fCutA_l, fCutA_t, iStr_ev, iRangeD_ev, fLenD_r, gSl_ev, fSetSl_r, eDict0_ev, eMd1_ev, fUpd_r, Bool.false_xor, Bool.true_xor, Bool.not_true, Bool.not_false, eIsX_ev, fIsX_e, fIsX_n, eIsF_ev, fIsF_e, fIsF_n, eFld_ev, fIsN_x, eLam_ev, gTupQ_ev, e2V_ev, fEq_in, fPopAt_r, fSorted_l, fSorted_t, fMaxL_l, fMinL_l, eListRg_ev, eTupRg_ev, rgP_ev, iRange3_ev, fIsB_b, fIndex_l, fCount_l, isLq_l, isLq_r, eMq_ev, isDct_r, eGet_ev, fGet_r, fDictP_l, fLenSetA_t, fLenSetA_l, eStep_ev, fStep_l, fStep_t, sForR_ev, eLcR_ev, iEnumD_ev, iZipD_ev, sAug_ev, sAugL_ev, fIxL_r, fSetL_r, fLenSet_t, fIsN_n, fIsN_i, fIsN_t, fIsN_l, fIsN_s, fIsN_r, fExt_l, fExt_t, fIx_l, fIx_t, fIx_r, fSetIx_r, new_ev, bnd_R, bndR_ok, bndR_ex, ret_ev, opt_some, hush_ev, hushR_ok, iteM, eVar_ev, lkup, eC_ev, e2_ev, e1_ev, e2D_ev, e1D_ev, e3D_ev, aNil_ev, aCons_ev, eTupN_ev, eLstN_ev, eIf_ev, eIx_ev, eCut_ev, oNone_ev, oSome_ev, eIsK_ev, eTuple_ev, eList_ev, eCall_ev, eCallL_ev, eCallT_ev, eM0_ev, eM1_ev, eM2_ev, eDict_ev, ePairs_nil, ePairs_cons, eChain_ev, tVal_ev, tAnd_ev, tOr_ev, tNot_ev, tYes_ev, eAnd_ev, eOr_ev, eNot_ev, eFrz_ev, iVal_ev, iRange_ev, iRange2_ev, sNil_ev, kSeq_nx, kSeq_rt, kSeq_bk, kSeq_ct, sCons_ev, sExpr_ev, sSet_ev, gSub_ev, sAsg_ev, sRet_ev, sRetN_ev, sIf_ev, sRaise_ev, sBreak_ev, sCont_ev, sPar2_ev, sPar3_ev, gName_ev, gTup_ev, gsFill_nil, gsFill_cons, sFor_ev, sWhile_ev, lcT_ev, eLc_ev, kBody_nx, kBody_rt, DL.start, see_p, List.set_cons_zero, List.set_cons_succ, List.map_cons, List.map_nil, List.cons_append, List.nil_append, List.length_cons, List.length_nil, List.replicate, Nat.reduceAdd, Nat.reduceSub, Nat.reduceEqDiff, if_true, if_false, Bool.false_eq_true, reduceIte, fAdd_i, fAdd_s, fAdd_t, fAdd_l, fSub_i, fMul_i, fMul_t, fMul_l, fDiv_i, fMod_i, fPow_i, fShr_i, fCmp_i, fNeg_i, fEq_i, fEq_s, fNe_i, fNe_s, fLen_l, fLen_t, fMax2_i, fMin2_i, fInt_i, fInt_b, fCut_l, fCut_t, mkP_t, mkP_f, mkL_f, mkL_t, toPs_nil, toPs_p, toPs_map, toPs_mapf, toP_p, fAll_l, fAny_l, fAll_m, fAny_m, all_true, fSum_l, fSum_t, fTuple_l, fTuple_t, fTuple_r, fList_l, fList_t, fList_r, fIsK_p, fRepr_ev, fApp_r, fPop_r, fIns_r, isL_r, items_t, elems_t, elems_l, mkTup, Option.map_some, q, pure1, Bool.not_true]
theorem ok_turn {n : Nat} {c : Int} {S : Sto} (cs : List Int) (h : Sp n c S) (hc : c ≤ 2 ^ 25) (hl : cs.length ≤ 63) (e2 e3 e4 e5 e6 : Option D) :
    ∃ f3 f4 f5 f6 S', b2_law [some (.p (.list (cs.map .int))), some (.ref n), e2, e3, e4, e5, e6] S = .ok (.nx [some (.p (.list (cs.map .int))), some (.ref n), e2, f3, f4, f5, f6]) S' ∧ Sp n (c + 1000) S' := by
  obtain ⟨m, S1, m0, m1, N1, q1⟩ := ok_many cs h (by omega) hl
  obtain ⟨os, S2, ho, N2, q2⟩ := ok_order cs N1.sp (by omega) hl m0 m1
  obtain ⟨zs, S3, hz, sp3, q3⟩ := ok_draft cs N2.sp (by omega) hl
  obtain ⟨r, S4, r0, r1, N4, q4⟩ := ok_cell cs sp3 (by omega) hl
  have d100 : (0 : Int) < 100 := by decide
  obtain ⟨Se, q5⟩ := ok_eyes (os := os) (zs := zs) (b := r % 100) (S := []) ho.1 hz (by omega) (by omega)
  have g1 := good_led (b := r % 100) ho hz
  have el : (List.range os.length).map (led os zs (r % 100)) = ((List.range os.length).map (ledE os zs (r % 100))).map ledT := by rw [List.map_map]; rfl
  rw [el] at q5
  obtain ⟨es, hes⟩ : ∃ es, es = (List.range os.length).map (ledE os zs (r % 100)) := ⟨_, rfl⟩
  rw [← hes] at q5 g1
  obtain ⟨fs, S5, g2, sp5, q6⟩ := ok_other cs hl g1 N4.sp (by omega)
  obtain ⟨gs, S6, g3, sp6, q7⟩ := ok_drawn cs hl ho sp5 (by omega)
  have m3 : ∀ x y z, mkTup [.p x, .p y, .p z] = .p (.tuple [x, y, z]) := fun _ _ _ => rfl
  have t1 := fun e0 e1 e2 e3 e4 e5 S => ok_b1l g1 e0 e1 e2 e3 e4 e5 S
  have t2 := fun e0 e1 e2 e3 e4 e5 S => ok_b1l g2 e0 e1 e2 e3 e4 e5 S
  have t3 := fun e0 e1 e2 e3 e4 e5 S => ok_b1l g3 e0 e1 e2 e3 e4 e5 S
  refine ⟨some (.p (.tuple (os.map .int))), some (.p (.tuple (zs.map .int))), some (.p (.tuple (es.map ledT))), some (.p (.tuple (gs.map ledT))), S6, ?_, sp6.mono (by omega)⟩
  rw [b2_law_ev]
  simp only [body_ev, fInT_t, eIdxT_ev, isTq_t, fStrT_t, fNeN_l, fNeU_d, fNeU_t, fNeU_l, fNeU_i, fNeU_s, fNeU_b, fNeU_n, fEqU_d, fEqU_t, fEqU_l, fEqU_i, fEqU_s, fEqU_b, fEqU_n, isU_n, isU_c, fLeS_s, eD0_ev, fLen_s, fMul_s, fIx_s, eCutA_ev, fCutA_s, fCutA_l, fCutA_t, iStr_ev, iRangeD_ev, fLenD_r, gSl_ev, fSetSl_r, eDict0_ev, eMd1_ev, fUpd_r, Bool.false_xor, Bool.true_xor, Bool.not_true, Bool.not_false, eIsX_ev, fIsX_e, fIsX_n, eIsF_ev, fIsF_e, fIsF_n, eFld_ev, fIsN_x, eLam_ev, gTupQ_ev, e2V_ev, fEq_in, fPopAt_r, fSorted_l, fSorted_t, fMaxL_l, fMinL_l, eListRg_ev, eTupRg_ev, rgP_ev, iRange3_ev, fIsB_b, fIndex_l, fCount_l, isLq_l, isLq_r, eMq_ev, isDct_r, eGet_ev, fGet_r, fDictP_l, fLenSetA_t, fLenSetA_l, eStep_ev, fStep_l, fStep_t, sForR_ev, eLcR_ev, iEnumD_ev, iZipD_ev, sAug_ev, sAugL_ev, fIxL_r, fSetL_r, fLenSet_t, fIsN_n, fIsN_i, fIsN_t, fIsN_l, fIsN_s, fIsN_r, fExt_l, fExt_t, fIx_l, fIx_t, fIx_r, fSetIx_r, new_ev, bnd_R, bndR_ok, bndR_ex, ret_ev, opt_some, hush_ev, hushR_ok, iteM, eVar_ev, lkup, eC_ev, e2_ev, e1_ev, e2D_ev, e1D_ev, e3D_ev, aNil_ev, aCons_ev, eTupN_ev, eLstN_ev, eIf_ev, eIx_ev, eCut_ev, oNone_ev, oSome_ev, eIsK_ev, eTuple_ev, eList_ev, eCall_ev, eCallL_ev, eCallT_ev, eM0_ev, eM1_ev, eM2_ev, eDict_ev, ePairs_nil, ePairs_cons, eChain_ev, tVal_ev, tAnd_ev, tOr_ev, tNot_ev, tYes_ev, eAnd_ev, eOr_ev, eNot_ev, eFrz_ev, iVal_ev, iRange_ev, iRange2_ev, sNil_ev, kSeq_nx, kSeq_rt, kSeq_bk, kSeq_ct, sCons_ev, sExpr_ev, sSet_ev, gSub_ev, sAsg_ev, sRet_ev, sRetN_ev, sIf_ev, sRaise_ev, sBreak_ev, sCont_ev, sPar2_ev, sPar3_ev, gName_ev, gTup_ev, gsFill_nil, gsFill_cons, sFor_ev, sWhile_ev, lcT_ev, eLc_ev, kBody_nx, kBody_rt, DL.start, see_p, List.set_cons_zero, List.set_cons_succ, List.map_cons, List.map_nil, List.cons_append, List.nil_append, List.length_cons, List.length_nil, List.replicate, Nat.reduceAdd, Nat.reduceSub, Nat.reduceEqDiff, if_true, if_false, Bool.false_eq_true, reduceIte, fAdd_i, fAdd_s, fAdd_t, fAdd_l, fSub_i, fMul_i, fMul_t, fMul_l, fDiv_i, fMod_i, fPow_i, fShr_i, fCmp_i, fNeg_i, fEq_i, fEq_s, fNe_i, fNe_s, fLen_l, fLen_t, fMax2_i, fMin2_i, fInt_i, fInt_b, fCut_l, fCut_t, mkP_t, mkP_f, mkL_f, mkL_t, toPs_nil, toPs_p, toPs_map, toPs_mapf, toP_p, fAll_l, fAny_l, fAll_m, fAny_m, all_true, fSum_l, fSum_t, fTuple_l, fTuple_t, fTuple_r, fList_l, fList_t, fList_r, fIsK_p, fRepr_ev, fApp_r, fPop_r, fIns_r, isL_r, items_t, elems_t, elems_l, mkTup, Option.map_some, q1, q2, q3, q4, d100, q5, pure1, q6, q7, m3, forL_cons, forL_nil, kFor_nx, t1, t2, t3]
theorem law_true : lawP r_law := by
  intro cs hl
  have hm : ∃ n : Nat, (3 + if (cs.length : Int) < 9 then (cs.length : Int) else 9) = (n : Int) ∧ n ≤ 14 := by
    split
    · exact ⟨3 + cs.length, by omega, by omega⟩
    · exact ⟨12, by omega, by omega⟩
  obtain ⟨n, en, hn⟩ := hm
  have hr : (n : Int) ≤ 16777216 ∧ -16777216 ≤ (n : Int) := by omega
  have et : ((n : Nat) : Int).toNat = n := by omega
  obtain ⟨env', S', q, x2, x3, x4, x5, x6, rfl, hs⟩ := for_all (g := gName 2) (b := b2_law) (I := fun i env S' => ∃ x2 x3 x4 x5 x6, env = [some (.p (.list (cs.map .int))), some (.ref 0), x2, x3, x4, x5, x6] ∧ Sp 0 (1000 * (i : Int)) S')
    ((List.range n).map fun i => .p (.int (i : Nat))) (env := [some (.p (.list (cs.map .int))), some (.ref 0), none, none, none, none, none]) (S := [.lst [.p (.int 0)]]) ⟨none, none, none, none, none, rfl, 0, rfl, by omega, by omega⟩ (fun i x env S hx hi => by
      obtain ⟨x2, x3, x4, x5, x6, rfl, hs⟩ := hi
      have hi : i < n := by
        have := (List.getElem?_eq_some_iff.mp hx).1
        simpa using this
      obtain ⟨f3, f4, f5, f6, S', q, hs'⟩ := ok_turn cs hs (by omega) hl (some x) x3 x4 x5 x6
      exact ⟨_, S', q, _, _, _, _, _, rfl, hs'.mono (by push_cast; omega)⟩)
  have l0 : ([] : Sto).length = 0 := rfl
  refine ⟨S', ?_⟩
  unfold r_law
  simp only [body_ev, fInT_t, eIdxT_ev, isTq_t, fStrT_t, fNeN_l, fNeU_d, fNeU_t, fNeU_l, fNeU_i, fNeU_s, fNeU_b, fNeU_n, fEqU_d, fEqU_t, fEqU_l, fEqU_i, fEqU_s, fEqU_b, fEqU_n, isU_n, isU_c, fLeS_s, eD0_ev, fLen_s, fMul_s, fIx_s, eCutA_ev, fCutA_s, fCutA_l, fCutA_t, iStr_ev, iRangeD_ev, fLenD_r, gSl_ev, fSetSl_r, eDict0_ev, eMd1_ev, fUpd_r, Bool.false_xor, Bool.true_xor, Bool.not_true, Bool.not_false, eIsX_ev, fIsX_e, fIsX_n, eIsF_ev, fIsF_e, fIsF_n, eFld_ev, fIsN_x, eLam_ev, gTupQ_ev, e2V_ev, fEq_in, fPopAt_r, fSorted_l, fSorted_t, fMaxL_l, fMinL_l, eListRg_ev, eTupRg_ev, rgP_ev, iRange3_ev, fIsB_b, fIndex_l, fCount_l, isLq_l, isLq_r, eMq_ev, isDct_r, eGet_ev, fGet_r, fDictP_l, fLenSetA_t, fLenSetA_l, eStep_ev, fStep_l, fStep_t, sForR_ev, eLcR_ev, iEnumD_ev, iZipD_ev, sAug_ev, sAugL_ev, fIxL_r, fSetL_r, fLenSet_t, fIsN_n, fIsN_i, fIsN_t, fIsN_l, fIsN_s, fIsN_r, fExt_l, fExt_t, fIx_l, fIx_t, fIx_r, fSetIx_r, new_ev, bnd_R, bndR_ok, bndR_ex, ret_ev, opt_some, hush_ev, hushR_ok, iteM, eVar_ev, lkup, eC_ev, e2_ev, e1_ev, e2D_ev, e1D_ev, e3D_ev, aNil_ev, aCons_ev, eTupN_ev, eLstN_ev, eIf_ev, eIx_ev, eCut_ev, oNone_ev, oSome_ev, eIsK_ev, eTuple_ev, eList_ev, eCall_ev, eCallL_ev, eCallT_ev, eM0_ev, eM1_ev, eM2_ev, eDict_ev, ePairs_nil, ePairs_cons, eChain_ev, tVal_ev, tAnd_ev, tOr_ev, tNot_ev, tYes_ev, eAnd_ev, eOr_ev, eNot_ev, eFrz_ev, iVal_ev, iRange_ev, iRange2_ev, sNil_ev, kSeq_nx, kSeq_rt, kSeq_bk, kSeq_ct, sCons_ev, sExpr_ev, sSet_ev, gSub_ev, sAsg_ev, sRet_ev, sRetN_ev, sIf_ev, sRaise_ev, sBreak_ev, sCont_ev, sPar2_ev, sPar3_ev, gName_ev, gTup_ev, gsFill_nil, gsFill_cons, sFor_ev, sWhile_ev, lcT_ev, eLc_ev, kBody_nx, kBody_rt, DL.start, see_p, List.set_cons_zero, List.set_cons_succ, List.map_cons, List.map_nil, List.cons_append, List.nil_append, List.length_cons, List.length_nil, List.replicate, Nat.reduceAdd, Nat.reduceSub, Nat.reduceEqDiff, if_true, if_false, Bool.false_eq_true, reduceIte, fAdd_i, fAdd_s, fAdd_t, fAdd_l, fSub_i, fMul_i, fMul_t, fMul_l, fDiv_i, fMod_i, fPow_i, fShr_i, fCmp_i, fNeg_i, fEq_i, fEq_s, fNe_i, fNe_s, fLen_l, fLen_t, fMax2_i, fMin2_i, fInt_i, fInt_b, fCut_l, fCut_t, mkP_t, mkP_f, mkL_f, mkL_t, toPs_nil, toPs_p, toPs_map, toPs_mapf, toP_p, fAll_l, fAny_l, fAll_m, fAny_m, all_true, fSum_l, fSum_t, fTuple_l, fTuple_t, fTuple_r, fList_l, fList_t, fList_r, fIsK_p, fRepr_ev, fApp_r, fPop_r, fIns_r, isL_r, items_t, elems_t, elems_l, mkTup, Option.map_some, List.length_map, l0, en, hr, and_self, et, q]
end Pk55

namespace Pk55
open PySem PySem.Spec PyProof.Rows L2 DL
def topS (i : Nat) : Stmt := PySem.Challenge.pw_warpkeep_k55_eyes_doubled_and_empty.main.body.getD i (.Pass ⟨0, 0, 0, 0⟩)
abbrev s__law_eyes : Stmt := topS 23
abbrev s__law_cell : Stmt := topS 19
abbrev s__law_order : Stmt := topS 20
abbrev s__law_draft : Stmt := topS 22
abbrev s__law_other : Stmt := topS 25
abbrev s__law_drawn : Stmt := topS 24
abbrev s__law_many : Stmt := topS 21
abbrev s__law_due : Stmt := topS 26
abbrev s_is_among : Stmt := topS 6
abbrev s_is_thread : Stmt := topS 7
abbrev s_is_order : Stmt := topS 8
abbrev s_is_led : Stmt := topS 12
abbrev s_is_threaded : Stmt := topS 13
abbrev s_need_threaded : Stmt := topS 14
abbrev s_eyes_had : Stmt := topS 15
abbrev s_doubled : Stmt := topS 16
abbrev s_empty : Stmt := topS 17
abbrev s__law_right : Stmt := topS 27
abbrev s_law : Stmt := topS 28
theorem sc__law_eyes : FnScope ["_law_order_here", "_law_draft_here", "_law_begun", "_law_found", "_law_place", "_law_thread", "_law_at", "_law_ahead", "_law_one"] ["_law_order_here", "_law_draft_here", "_law_begun"] (defScope s__law_eyes) := ⟨rfl, rfl, rfl, by decide +kernel, rfl, by decide +kernel, by decide +kernel⟩
theorem sc__law_cell : FnScope ["_law_cells", "_law_spot", "_law_k", "_law_base", "_law_own", "_law_turn"] ["_law_cells", "_law_spot"] (defScope s__law_cell) := ⟨rfl, rfl, rfl, by decide +kernel, rfl, by decide +kernel, by decide +kernel⟩
theorem sc__law_order : FnScope ["_law_cells", "_law_spot", "_law_many_here", "_law_n", "_law_step", "_law_k"] ["_law_cells", "_law_spot", "_law_many_here"] (defScope s__law_order) := ⟨rfl, rfl, rfl, by decide +kernel, rfl, by decide +kernel, by decide +kernel⟩
theorem sc__law_draft : FnScope ["_law_cells", "_law_spot", "_law_n", "_law_m", "_law_many_here", "_law_some", "_law_found", "_law_k", "_law_own"] ["_law_cells", "_law_spot"] (defScope s__law_draft) := ⟨rfl, rfl, rfl, by decide +kernel, rfl, by decide +kernel, by decide +kernel⟩
theorem sc__law_other : FnScope ["_law_cells", "_law_spot", "_law_led", "_law_found", "_law_k", "_law_n", "_law_at"] ["_law_cells", "_law_spot", "_law_led"] (defScope s__law_other) := ⟨rfl, rfl, rfl, by decide +kernel, rfl, by decide +kernel, by decide +kernel⟩
theorem sc__law_drawn : FnScope ["_law_cells", "_law_spot", "_law_order_here", "_law_n", "_law_found", "_law_thread", "_law_m", "_law_shaft"] ["_law_cells", "_law_spot", "_law_order_here"] (defScope s__law_drawn) := ⟨rfl, rfl, rfl, by decide +kernel, rfl, by decide +kernel, by decide +kernel⟩
theorem sc__law_many : FnScope ["_law_cells", "_law_spot", "_law_n"] ["_law_cells", "_law_spot"] (defScope s__law_many) := ⟨rfl, rfl, rfl, by decide +kernel, rfl, by decide +kernel, by decide +kernel⟩
theorem sc__law_due : FnScope ["_law_led", "_law_twice", "_law_none", "_law_shaft", "_law_had", "_law_one", "_law_eye"] ["_law_led"] (defScope s__law_due) := ⟨rfl, rfl, rfl, by decide +kernel, rfl, by decide +kernel, by decide +kernel⟩
theorem sc_is_among : FnScope ["thing", "least", "most"] ["thing", "least", "most"] (defScope s_is_among) := ⟨rfl, rfl, rfl, by decide +kernel, rfl, by decide +kernel, by decide +kernel⟩
theorem sc_is_thread : FnScope ["thing"] ["thing"] (defScope s_is_thread) := ⟨rfl, rfl, rfl, by decide +kernel, rfl, by decide +kernel, by decide +kernel⟩
theorem sc_is_order : FnScope ["thing", "one"] ["thing"] (defScope s_is_order) := ⟨rfl, rfl, rfl, by decide +kernel, rfl, by decide +kernel, by decide +kernel⟩
theorem sc_is_led : FnScope ["thing"] ["thing"] (defScope s_is_led) := ⟨rfl, rfl, rfl, by decide +kernel, rfl, by decide +kernel, by decide +kernel⟩
theorem sc_is_threaded : FnScope ["thing", "one"] ["thing"] (defScope s_is_threaded) := ⟨rfl, rfl, rfl, by decide +kernel, rfl, by decide +kernel, by decide +kernel⟩
theorem sc_need_threaded : FnScope ["thing"] ["thing"] (defScope s_need_threaded) := ⟨rfl, rfl, rfl, by decide +kernel, rfl, by decide +kernel, by decide +kernel⟩
theorem sc_eyes_had : FnScope ["thing", "one"] ["thing"] (defScope s_eyes_had) := ⟨rfl, rfl, rfl, by decide +kernel, rfl, by decide +kernel, by decide +kernel⟩
theorem sc_doubled : FnScope ["thing", "had", "eye"] ["thing"] (defScope s_doubled) := ⟨rfl, rfl, rfl, by decide +kernel, rfl, by decide +kernel, by decide +kernel⟩
theorem sc_empty : FnScope ["thing", "had", "found", "shaft", "highest", "own", "eye"] ["thing"] (defScope s_empty) := ⟨rfl, rfl, rfl, by decide +kernel, rfl, by decide +kernel, by decide +kernel⟩
theorem sc__law_right : FnScope ["_law_led", "_law_due_here", "_law_again", "_law_found", "_law_told"] ["_law_led"] (defScope s__law_right) := ⟨rfl, rfl, rfl, by decide +kernel, rfl, by decide +kernel, by decide +kernel⟩
theorem sc_law : FnScope ["_law_script", "_law_spot", "_law_turn", "_law_order_here", "_law_draft_here", "_law_led", "_law_some"] ["_law_script"] (defScope s_law) := ⟨rfl, rfl, rfl, by decide +kernel, rfl, by decide +kernel, by decide +kernel⟩
set_option maxHeartbeats 4000000 in
structure Tx (K : PySem.W.Frag) (mg : Str → Option Value) : Type where
  a__law_eyes : Addr
  d__law_eyes : FuncData
  F__law_eyes : Fun K "_law_eyes" "_law_eyes" s__law_eyes a__law_eyes d__law_eyes
  g__law_eyes : mg "_law_eyes" = some (.ref a__law_eyes)
  b__law_eyes : Binds K d__law_eyes ["_law_order_here", "_law_draft_here", "_law_begun"] []
  a__law_cell : Addr
  d__law_cell : FuncData
  F__law_cell : Fun K "_law_cell" "_law_cell" s__law_cell a__law_cell d__law_cell
  g__law_cell : mg "_law_cell" = some (.ref a__law_cell)
  b__law_cell : Binds K d__law_cell ["_law_cells", "_law_spot"] []
  a__law_order : Addr
  d__law_order : FuncData
  F__law_order : Fun K "_law_order" "_law_order" s__law_order a__law_order d__law_order
  g__law_order : mg "_law_order" = some (.ref a__law_order)
  b__law_order : Binds K d__law_order ["_law_cells", "_law_spot", "_law_many_here"] []
  a__law_draft : Addr
  d__law_draft : FuncData
  F__law_draft : Fun K "_law_draft" "_law_draft" s__law_draft a__law_draft d__law_draft
  g__law_draft : mg "_law_draft" = some (.ref a__law_draft)
  b__law_draft : Binds K d__law_draft ["_law_cells", "_law_spot"] []
  a__law_other : Addr
  d__law_other : FuncData
  F__law_other : Fun K "_law_other" "_law_other" s__law_other a__law_other d__law_other
  g__law_other : mg "_law_other" = some (.ref a__law_other)
  b__law_other : Binds K d__law_other ["_law_cells", "_law_spot", "_law_led"] []
  a__law_drawn : Addr
  d__law_drawn : FuncData
  F__law_drawn : Fun K "_law_drawn" "_law_drawn" s__law_drawn a__law_drawn d__law_drawn
  g__law_drawn : mg "_law_drawn" = some (.ref a__law_drawn)
  b__law_drawn : Binds K d__law_drawn ["_law_cells", "_law_spot", "_law_order_here"] []
  a__law_many : Addr
  d__law_many : FuncData
  F__law_many : Fun K "_law_many" "_law_many" s__law_many a__law_many d__law_many
  g__law_many : mg "_law_many" = some (.ref a__law_many)
  b__law_many : Binds K d__law_many ["_law_cells", "_law_spot"] []
  a__law_due : Addr
  d__law_due : FuncData
  F__law_due : Fun K "_law_due" "_law_due" s__law_due a__law_due d__law_due
  g__law_due : mg "_law_due" = some (.ref a__law_due)
  b__law_due : Binds K d__law_due ["_law_led"] []
  a_is_among : Addr
  d_is_among : FuncData
  F_is_among : Fun K "is_among" "is_among" s_is_among a_is_among d_is_among
  g_is_among : mg "is_among" = some (.ref a_is_among)
  b_is_among : Binds K d_is_among ["thing", "least", "most"] []
  a_is_thread : Addr
  d_is_thread : FuncData
  F_is_thread : Fun K "is_thread" "is_thread" s_is_thread a_is_thread d_is_thread
  g_is_thread : mg "is_thread" = some (.ref a_is_thread)
  b_is_thread : Binds K d_is_thread ["thing"] []
  a_is_order : Addr
  d_is_order : FuncData
  F_is_order : Fun K "is_order" "is_order" s_is_order a_is_order d_is_order
  g_is_order : mg "is_order" = some (.ref a_is_order)
  b_is_order : Binds K d_is_order ["thing"] []
  a_is_led : Addr
  d_is_led : FuncData
  F_is_led : Fun K "is_led" "is_led" s_is_led a_is_led d_is_led
  g_is_led : mg "is_led" = some (.ref a_is_led)
  b_is_led : Binds K d_is_led ["thing"] []
  a_is_threaded : Addr
  d_is_threaded : FuncData
  F_is_threaded : Fun K "is_threaded" "is_threaded" s_is_threaded a_is_threaded d_is_threaded
  g_is_threaded : mg "is_threaded" = some (.ref a_is_threaded)
  b_is_threaded : Binds K d_is_threaded ["thing"] []
  a_need_threaded : Addr
  d_need_threaded : FuncData
  F_need_threaded : Fun K "need_threaded" "need_threaded" s_need_threaded a_need_threaded d_need_threaded
  g_need_threaded : mg "need_threaded" = some (.ref a_need_threaded)
  b_need_threaded : Binds K d_need_threaded ["thing"] []
  a_eyes_had : Addr
  d_eyes_had : FuncData
  F_eyes_had : Fun K "eyes_had" "eyes_had" s_eyes_had a_eyes_had d_eyes_had
  g_eyes_had : mg "eyes_had" = some (.ref a_eyes_had)
  b_eyes_had : Binds K d_eyes_had ["thing"] []
  a_doubled : Addr
  d_doubled : FuncData
  F_doubled : Fun K "doubled" "doubled" s_doubled a_doubled d_doubled
  g_doubled : mg "doubled" = some (.ref a_doubled)
  b_doubled : Binds K d_doubled ["thing"] []
  a_empty : Addr
  d_empty : FuncData
  F_empty : Fun K "empty" "empty" s_empty a_empty d_empty
  g_empty : mg "empty" = some (.ref a_empty)
  b_empty : Binds K d_empty ["thing"] []
  a__law_right : Addr
  d__law_right : FuncData
  F__law_right : Fun K "_law_right" "_law_right" s__law_right a__law_right d__law_right
  g__law_right : mg "_law_right" = some (.ref a__law_right)
  b__law_right : Binds K d__law_right ["_law_led"] []
  a_law : Addr
  d_law : FuncData
  F_law : Fun K "law" "law" s_law a_law d_law
  g_law : mg "law" = some (.ref a_law)
  b_law : Binds K d_law ["_law_script"] []
  n_all : mg "all" = none
  n_bool : mg "bool" = none
  n_enumerate : mg "enumerate" = none
  n_int : mg "int" = none
  n_isinstance : mg "isinstance" = none
  n_len : mg "len" = none
  n_list : mg "list" = none
  n_max : mg "max" = none
  n_min : mg "min" = none
  n_range : mg "range" = none
  n_repr : mg "repr" = none
  n_set : mg "set" = none
  n_sorted : mg "sorted" = none
  n_tuple : mg "tuple" = none
  t_MOST_ENDS : Tok
  c_MOST_ENDS : mg "MOST_ENDS" = some (.int 60 t_MOST_ENDS)
  t_MOST_EYE : Tok
  c_MOST_EYE : mg "MOST_EYE" = some (.int 59 t_MOST_EYE)
  t_MOST_SHAFT : Tok
  c_MOST_SHAFT : mg "MOST_SHAFT" = some (.int 7 t_MOST_SHAFT)
  t_MOST_THREAD : Tok
  c_MOST_THREAD : mg "MOST_THREAD" = some (.int 99 t_MOST_THREAD)
  C_BadThreaded : Addr
  x_BadThreaded : PySem.W.excIn K C_BadThreaded [.type "ValueError", .type "Exception", .type "BaseException", .type "object"] "ValueError.__new__" = true
  g_BadThreaded : mg "BadThreaded" = some (.ref C_BadThreaded)
  k_BadThreaded : PySem.W.keepIn K (.ref C_BadThreaded) = true
  s_BadThreaded : PySem.W.subIn K (.ref C_BadThreaded) (.type "BaseException") = some true
  y_BadThreaded : PySem.W.typeIn K (.ref C_BadThreaded) = some (.type "type")
section
variable [Nfo] {P : Program} {w : World} {K : PySem.W.Frag} {base : Heap}
theorem k__law_eyes (T : Tx K Nfo.mg) : FnD P w K Nfo.mg base 1 T.a__law_eyes T.d__law_eyes ["_law_order_here", "_law_draft_here", "_law_begun"] r__law_eyes := fnD_of T.F__law_eyes sc__law_eyes rfl rfl fun cdv A oes s0 H Wx hG hr => by
  have sc := sc__law_eyes
  exact (gbs_cons (gb_set 3 sc.nd rfl (by first | exact Or.inl rfl | exact Or.inr rfl) (g_lst false ga_nil))
    (gbs_cons (gb_for (passes_of rfl) rfl (gi_enum (by rfl) T.n_enumerate (g_var 0)) (gg_tup rfl (ggs_cons (gg_name 4 sc.nd rfl (by first | exact Or.inl rfl | exact Or.inr rfl)) (ggs_cons (gg_name 5 sc.nd rfl (by first | exact Or.inl rfl | exact Or.inr rfl)) ggs_nil)) rfl) (gbs_cons (gb_set 6 sc.nd rfl (by first | exact Or.inl rfl | exact Or.inr rfl) (g_add true (g_var 2) (g_var 4)))
    (gbs_cons (gb_while 200 (passes_of rfl) (gt_cmp cg_ge (g_var 6) (g_len (by rfl) T.n_len (g_var 1)) (by rfl)) (gbs_one (gb_set 6 sc.nd rfl (by first | exact Or.inl rfl | exact Or.inr rfl) (g_sub (g_var 6) (g_len (by rfl) T.n_len (g_var 1))))))
    (gbs_cons (gb_setLcR (own := [("_law_one", 8)]) (i := 7) true rfl sc.nd rfl rfl (by exact sw_true rfl rfl (by rfl) (by rfl)) (g_var 3) (blkOk_by (N := ["_law_order_here", "_law_draft_here", "_law_begun", "_law_found", "_law_place", "_law_thread", "_law_at", "_law_ahead", "_law_one"]) (sc := defScope s__law_eyes) (by decide +kernel)) (fun _ h => h) (fun _ _ _ _ _ => (gg_name 8 sc.nd rfl (by first | exact Or.inl rfl | exact Or.inr rfl))) (fun _ _ _ _ _ => (gts_one (gt_cmp (cg_eq hr.units) (g_ix (u1 hr) (g_var 8) g_int) (g_ix (u1 hr) (g_var 1) (g_var 6)) (by rfl)))) (fun _ _ _ _ _ => (g_var 8)))
    (gbs_one (gb_expr (g_append (g_var 3) (g_tup (ga_cons (g_var 5) (ga_cons (g_ix (u1 hr) (g_var 1) (g_var 6)) (ga_cons (g_len (by rfl) T.n_len (g_var 7)) ga_nil)))))))))))
    (gbs_one (gb_ret (g_tuple1 (by rfl) T.n_tuple (g_var 3))))))
theorem k__law_cell (T : Tx K Nfo.mg) : FnD P w K Nfo.mg base 1 T.a__law_cell T.d__law_cell ["_law_cells", "_law_spot"] r__law_cell := fnD_of T.F__law_cell sc__law_cell rfl rfl fun cdv A oes s0 H Wx hG hr => by
  have sc := sc__law_cell
  exact (gbs_cons (gb_asg (g_add true (g_ix (u1 hr) (g_var 1) g_int) g_int) (gg_sub (u1 hr) (g_var 1) g_int))
    (gbs_cons (gb_set 2 sc.nd rfl (by first | exact Or.inl rfl | exact Or.inr rfl) (g_ix (u1 hr) (g_var 1) g_int))
    (gbs_cons (gb_set 3 sc.nd rfl (by first | exact Or.inl rfl | exact Or.inr rfl) (g_add true (g_mul true (g_mul true g_int (g_var 2)) (g_var 2)) (g_mul true g_int (g_var 2))))
    (gbs_cons (gb_if (gt_pw (gt_and (gt_cmp cg_gt (g_len (by rfl) T.n_len (g_var 0)) g_int (by rfl)) (gt_and (gt_cmp cg_ge (g_ix (u1 hr) (g_var 0) (g_mod (g_var 2) (g_len (by rfl) T.n_len (g_var 0)))) (g_pow g_int g_int) (by rfl)) (gt_and1 (gt_cmp cg_lt (g_div (g_var 2) (g_len (by rfl) T.n_len (g_var 0))) g_int (by rfl)))))) (gbs_cons (gb_set 4 sc.nd rfl (by first | exact Or.inl rfl | exact Or.inr rfl) (g_ix (u1 hr) (g_var 0) (g_mod (g_var 2) (g_len (by rfl) T.n_len (g_var 0)))))
    (gbs_cons (gb_for (passes_of rfl) rfl (gi_range (by rfl) T.n_range (g_div (g_var 2) (g_len (by rfl) T.n_len (g_var 0)))) (gg_name 5 sc.nd rfl (by first | exact Or.inl rfl | exact Or.inr rfl)) (gbs_one (gb_set 4 sc.nd rfl (by first | exact Or.inl rfl | exact Or.inr rfl) (g_div (g_var 4) g_int))))
    (gbs_one (gb_if (gt_cmp cg_gt (g_var 4) g_int (by rfl)) (gbs_one (gb_ret (g_mod (g_var 4) g_int))) gbs_nil)))) gbs_nil)
    (gbs_cons (gb_if (gt_cmp cg_gt (g_len (by rfl) T.n_len (g_var 0)) g_int (by rfl)) (gbs_one (gb_set 3 sc.nd rfl (by first | exact Or.inl rfl | exact Or.inr rfl) (g_add true (g_var 3) (g_mul true (g_mod (g_ix (u1 hr) (g_var 0) (g_mod (g_var 2) (g_len (by rfl) T.n_len (g_var 0)))) g_int) (g_add true g_int (g_div (g_var 2) (g_len (by rfl) T.n_len (g_var 0)))))))) gbs_nil)
    (gbs_one (gb_ret (g_div (g_mod (g_pow (g_mod (g_var 3) g_int) g_int) g_int) g_int))))))))
theorem k__law_order (T : Tx K Nfo.mg) : FnD P w K Nfo.mg base 2 T.a__law_order T.d__law_order ["_law_cells", "_law_spot", "_law_many_here"] r__law_order := fnD_of T.F__law_order sc__law_order rfl rfl fun cdv A oes s0 H Wx hG hr => by
  have sc := sc__law_order
  exact (gbs_cons (gb_set 3 sc.nd rfl (by first | exact Or.inl rfl | exact Or.inr rfl) (g_callL (k__law_cell T) (hr.mono (by decide)) hG (by rfl) T.g__law_cell T.F__law_cell.kp T.b__law_cell takesB (ga_cons (g_var 0) (ga_cons (g_var 1) ga_nil))))
    (gbs_cons (gb_set 4 sc.nd rfl (by first | exact Or.inl rfl | exact Or.inr rfl) (g_ix (u1 hr) (g_lst true (ga_cons g_int (ga_cons g_int (ga_cons g_int (ga_cons g_int (ga_cons g_int (ga_cons g_int (ga_cons g_int (ga_cons g_int (ga_cons g_int (ga_cons g_int (ga_cons g_int (ga_cons g_int (ga_cons g_int (ga_cons g_int (ga_cons g_int (ga_cons g_int (ga_cons g_int (ga_cons g_int ga_nil))))))))))))))))))) (g_mod (g_div (g_var 3) g_int) g_int)))
    (gbs_one (gb_ret (g_tuple1 (by rfl) T.n_tuple (g_lc (own := [("_law_k", 5)]) true rfl sc.nd (gi_range (by rfl) T.n_range (g_var 2)) (blkOk_by (N := ["_law_cells", "_law_spot", "_law_many_here", "_law_n", "_law_step", "_law_k"]) (sc := defScope s__law_order) (by decide +kernel)) (fun _ h => h) (fun _ _ _ _ _ => (gg_name 5 sc.nd rfl (by first | exact Or.inl rfl | exact Or.inr rfl))) (fun _ _ _ _ _ => gts_nil) (fun _ _ _ _ _ => (g_mod (g_add true (g_var 3) (g_mul true (g_var 4) (g_var 5))) g_int))))))))
theorem k__law_draft (T : Tx K Nfo.mg) : FnD P w K Nfo.mg base 2 T.a__law_draft T.d__law_draft ["_law_cells", "_law_spot"] r__law_draft := fnD_of T.F__law_draft sc__law_draft rfl rfl fun cdv A oes s0 H Wx hG hr => by
  have sc := sc__law_draft
  exact (gbs_cons (gb_par2 2 3 rfl sc.nd rfl rfl (by decide) rfl rfl (ga_cons (g_callL (k__law_cell T) (hr.mono (by decide)) hG (by rfl) T.g__law_cell T.F__law_cell.kp T.b__law_cell takesB (ga_cons (g_var 0) (ga_cons (g_var 1) ga_nil))) (ga_cons (g_callL (k__law_cell T) (hr.mono (by decide)) hG (by rfl) T.g__law_cell T.F__law_cell.kp T.b__law_cell takesB (ga_cons (g_var 0) (ga_cons (g_var 1) ga_nil))) ga_nil)) (by rfl))
    (gbs_cons (gb_set 4 sc.nd rfl (by first | exact Or.inl rfl | exact Or.inr rfl) (g_ix (u1 hr) (g_lst true (ga_cons (g_add true g_int (g_mod (g_div (g_var 2) g_int) g_int)) (ga_cons g_int (ga_cons g_int (ga_cons (g_add true g_int (g_mod (g_div (g_var 2) g_int) g_int)) ga_nil))))) (g_mod (g_var 2) g_int)))
    (gbs_cons (gb_set 5 sc.nd rfl (by first | exact Or.inl rfl | exact Or.inr rfl) (g_lst true (ga_cons g_int (ga_cons g_int (ga_cons (g_mod (g_div (g_var 2) g_int) g_int) (ga_cons (g_mod (g_div (g_var 2) g_int) g_int) ga_nil))))))
    (gbs_cons (gb_set 6 sc.nd rfl (by first | exact Or.inl rfl | exact Or.inr rfl) (g_lst false ga_nil))
    (gbs_cons (gb_for (passes_of rfl) rfl (gi_range (by rfl) T.n_range (g_var 4)) (gg_name 7 sc.nd rfl (by first | exact Or.inl rfl | exact Or.inr rfl)) (gbs_cons (gb_set 8 sc.nd rfl (by first | exact Or.inl rfl | exact Or.inr rfl) (g_mod (g_add true (g_div (g_var 3) (g_add true (g_var 7) g_int)) (g_mul true (g_var 7) (g_mod (g_div (g_var 2) g_int) g_int))) g_int))
    (gbs_one (gb_expr (g_append (g_var 6) (g_ix (u1 hr) (g_lst true (ga_cons (g_var 8) (ga_cons (g_var 8) (ga_cons (g_ix (u1 hr) (g_var 5) (g_div (g_var 8) g_int)) (ga_cons (g_mod (g_var 7) g_int) ga_nil))))) (g_mod (g_div (g_var 2) g_int) g_int)))))))
    (gbs_one (gb_ret (g_tuple1 (by rfl) T.n_tuple (g_var 6)))))))))
theorem k__law_other (T : Tx K Nfo.mg) : FnD P w K Nfo.mg base 2 T.a__law_other T.d__law_other ["_law_cells", "_law_spot", "_law_led"] r__law_other := fnD_of T.F__law_other sc__law_other rfl rfl fun cdv A oes s0 H Wx hG hr => by
  have sc := sc__law_other
  exact (gbs_cons (gb_set 3 sc.nd rfl (by first | exact Or.inl rfl | exact Or.inr rfl) (g_list1 false (by rfl) T.n_list (g_var 2)))
    (gbs_cons (gb_for (passes_of rfl) rfl (gi_range (by rfl) T.n_range (g_mod (g_callL (k__law_cell T) (hr.mono (by decide)) hG (by rfl) T.g__law_cell T.F__law_cell.kp T.b__law_cell takesB (ga_cons (g_var 0) (ga_cons (g_var 1) ga_nil))) g_int)) (gg_name 4 sc.nd rfl (by first | exact Or.inl rfl | exact Or.inr rfl)) (gbs_cons (gb_set 5 sc.nd rfl (by first | exact Or.inl rfl | exact Or.inr rfl) (g_callL (k__law_cell T) (hr.mono (by decide)) hG (by rfl) T.g__law_cell T.F__law_cell.kp T.b__law_cell takesB (ga_cons (g_var 0) (ga_cons (g_var 1) ga_nil))))
    (gbs_cons (gb_set 6 sc.nd rfl (by first | exact Or.inl rfl | exact Or.inr rfl) (g_mod (g_div (g_var 5) g_int) (g_max2 rfl (by rfl) T.n_max g_int (g_len (by rfl) T.n_len (g_var 3)))))
    (gbs_one (gb_if (gt_pw (gt_and (gt_cmp (cg_ne hr.units) (g_var 3) (g_lst true ga_nil) (by rfl)) (gt_and1 (gt_cmp cg_lt (g_mod (g_var 5) g_int) g_int (by rfl))))) (gbs_one (gb_asg (g_add true (g_cut true (g_ix (u1 hr) (g_var 3) (g_var 6)) go_none (go_some g_int)) (g_tup (ga_cons (g_mod (g_div (g_var 5) g_int) g_int) (ga_cons (g_mod (g_div (g_var 5) g_int) g_int) ga_nil)))) (gg_sub (u1 hr) (g_var 3) (g_var 6)))) (gbs_one (gb_if (gt_pw (gt_and (gt_cmp (cg_ne hr.units) (g_var 3) (g_lst true ga_nil) (by rfl)) (gt_and1 (gt_cmp (cg_eq hr.units) (g_mod (g_var 5) g_int) g_int (by rfl))))) (gbs_one (gb_asg (g_add true (g_cut true (g_ix (u1 hr) (g_var 3) (g_var 6)) go_none (go_some g_int)) (g_tup (ga_cons (g_min2 rfl (by rfl) T.n_min g_int (g_add true (g_add true (g_ix (u1 hr) (g_ix (u1 hr) (g_var 3) (g_var 6)) g_int) g_int) (g_mod (g_div (g_var 5) g_int) g_int))) ga_nil))) (gg_sub (u1 hr) (g_var 3) (g_var 6)))) (gbs_one (gb_if (gt_pw (gt_and (gt_cmp (cg_ne hr.units) (g_var 3) (g_lst true ga_nil) (by rfl)) (gt_and1 (gt_cmp (cg_eq hr.units) (g_mod (g_var 5) g_int) g_int (by rfl))))) (gbs_one (gb_expr (g_popAt (g_var 3) (g_var 6)))) (gbs_one (gb_set 3 sc.nd rfl (by first | exact Or.inl rfl | exact Or.inr rfl) (g_step false (g_var 3) go_none go_none (go_some (g_neg g_int))))))))))))))
    (gbs_one (gb_ret (g_tuple1 (by rfl) T.n_tuple (g_var 3))))))
theorem k__law_drawn (T : Tx K Nfo.mg) : FnD P w K Nfo.mg base 2 T.a__law_drawn T.d__law_drawn ["_law_cells", "_law_spot", "_law_order_here"] r__law_drawn := fnD_of T.F__law_drawn sc__law_drawn rfl rfl fun cdv A oes s0 H Wx hG hr => by
  have sc := sc__law_drawn
  exact (gbs_cons (gb_set 3 sc.nd rfl (by first | exact Or.inl rfl | exact Or.inr rfl) (g_callL (k__law_cell T) (hr.mono (by decide)) hG (by rfl) T.g__law_cell T.F__law_cell.kp T.b__law_cell takesB (ga_cons (g_var 0) (ga_cons (g_var 1) ga_nil))))
    (gbs_cons (gb_set 4 sc.nd rfl (by first | exact Or.inl rfl | exact Or.inr rfl) (g_lst false ga_nil))
    (gbs_cons (gb_for (passes_of rfl) rfl (gi_seq (g_var 2)) (gg_name 5 sc.nd rfl (by first | exact Or.inl rfl | exact Or.inr rfl)) (gbs_cons (gb_set 6 sc.nd rfl (by first | exact Or.inl rfl | exact Or.inr rfl) (g_callL (k__law_cell T) (hr.mono (by decide)) hG (by rfl) T.g__law_cell T.F__law_cell.kp T.b__law_cell takesB (ga_cons (g_var 0) (ga_cons (g_var 1) ga_nil))))
    (gbs_cons (gb_set 7 sc.nd rfl (by first | exact Or.inl rfl | exact Or.inr rfl) (g_ix (u1 hr) (g_lst true (ga_cons (g_mod (g_var 6) g_int) (ga_cons (g_mod (g_div (g_var 3) g_int) g_int) (ga_cons (g_mul true (g_mod (g_var 6) g_int) g_int) (ga_cons (g_mod (g_var 6) g_int) ga_nil))))) (g_mod (g_var 3) g_int)))
    (gbs_one (gb_expr (g_append (g_var 4) (g_tup (ga_cons (g_var 5) (ga_cons (g_var 7) (ga_cons (g_ix (u1 hr) (g_lst true (ga_cons (g_mod (g_div (g_var 6) g_int) g_int) (ga_cons (g_mod (g_div (g_var 6) g_int) g_int) (ga_cons (g_mul true (g_mod (g_div (g_var 6) g_int) g_int) g_int) (ga_cons (g_sub g_int (g_mod (g_div (g_var 6) g_int) g_int)) ga_nil))))) (g_mod (g_div (g_var 3) g_int) g_int)) ga_nil))))))))))
    (gbs_one (gb_ret (g_tuple1 (by rfl) T.n_tuple (g_var 4)))))))
theorem k__law_many (T : Tx K Nfo.mg) : FnD P w K Nfo.mg base 2 T.a__law_many T.d__law_many ["_law_cells", "_law_spot"] r__law_many := fnD_of T.F__law_many sc__law_many rfl rfl fun cdv A oes s0 H Wx hG hr => by
  have sc := sc__law_many
  exact (gbs_cons (gb_set 2 sc.nd rfl (by first | exact Or.inl rfl | exact Or.inr rfl) (g_callL (k__law_cell T) (hr.mono (by decide)) hG (by rfl) T.g__law_cell T.F__law_cell.kp T.b__law_cell takesB (ga_cons (g_var 0) (ga_cons (g_var 1) ga_nil))))
    (gbs_one (gb_ret (g_ix (u1 hr) (g_lst true (ga_cons (g_mod (g_div (g_var 2) g_int) g_int) (ga_cons (g_mod (g_div (g_var 2) g_int) g_int) (ga_cons g_int (ga_cons (g_mod (g_div (g_var 2) g_int) g_int) (ga_cons g_int (ga_cons (g_add true g_int (g_mod (g_div (g_var 2) g_int) g_int)) ga_nil))))))) (g_mod (g_var 2) g_int)))))
theorem k__law_due (T : Tx K Nfo.mg) : FnD P w K Nfo.mg base 1 T.a__law_due T.d__law_due ["_law_led"] r__law_due := fnD_of T.F__law_due sc__law_due rfl rfl fun cdv A oes s0 H Wx hG hr => by
  have sc := sc__law_due
  exact (gbs_cons (gb_par2 1 2 rfl sc.nd rfl rfl (by decide) rfl rfl (ga_cons (g_lst true ga_nil) (ga_cons (g_lst true ga_nil) ga_nil)) (by rfl))
    (gbs_cons (gb_for (passes_of rfl) rfl (gi_range (by rfl) T.n_range g_int) (gg_name 3 sc.nd rfl (by first | exact Or.inl rfl | exact Or.inr rfl)) (gbs_cons (gb_set 4 sc.nd rfl (by first | exact Or.inl rfl | exact Or.inr rfl) (g_lc (own := [("_law_one", 5)]) true rfl sc.nd (gi_seq (g_var 0)) (blkOk_by (N := ["_law_led", "_law_twice", "_law_none", "_law_shaft", "_law_had", "_law_one", "_law_eye"]) (sc := defScope s__law_due) (by decide +kernel)) (fun _ h => h) (fun _ _ _ _ _ => (gg_name 5 sc.nd rfl (by first | exact Or.inl rfl | exact Or.inr rfl))) (fun _ _ _ _ _ => (gts_one (gt_cmp (cg_eq hr.units) (g_ix (u1 hr) (g_var 5) g_int) (g_var 3) (by rfl)))) (fun _ _ _ _ _ => (g_ix (u1 hr) (g_var 5) g_int))))
    (gbs_cons (gb_set 1 sc.nd rfl (by first | exact Or.inl rfl | exact Or.inr rfl) (g_add true (g_var 1) (g_lc (own := [("_law_eye", 6)]) true rfl sc.nd (gi_range (by rfl) T.n_range g_int) (blkOk_by (N := ["_law_led", "_law_twice", "_law_none", "_law_shaft", "_law_had", "_law_one", "_law_eye"]) (sc := defScope s__law_due) (by decide +kernel)) (fun _ h => h) (fun _ _ _ _ _ => (gg_name 6 sc.nd rfl (by first | exact Or.inl rfl | exact Or.inr rfl))) (fun _ _ _ _ _ => (gts_one (gt_cmp cg_gt (g_count (g_var 4) (g_var 6)) g_int (by rfl)))) (fun _ _ _ _ _ => (g_tup (ga_cons (g_var 3) (ga_cons (g_var 6) ga_nil)))))))
    (gbs_one (gb_set 2 sc.nd rfl (by first | exact Or.inl rfl | exact Or.inr rfl) (g_add true (g_var 2) (g_lc (own := [("_law_eye", 6)]) true rfl sc.nd (gi_range (by rfl) T.n_range (g_maxL rfl (by rfl) T.n_max (g_add true (g_lst true (ga_cons g_int ga_nil)) (g_var 4)))) (blkOk_by (N := ["_law_led", "_law_twice", "_law_none", "_law_shaft", "_law_had", "_law_one", "_law_eye"]) (sc := defScope s__law_due) (by decide +kernel)) (fun _ h => h) (fun _ _ _ _ _ => (gg_name 6 sc.nd rfl (by first | exact Or.inl rfl | exact Or.inr rfl))) (fun _ _ _ _ _ => (gts_one (gt_notin (u65 hr) (g_var 6) (g_var 4)))) (fun _ _ _ _ _ => (g_tup (ga_cons (g_var 3) (ga_cons (g_var 6) ga_nil)))))))))))
    (gbs_one (gb_ret (g_lst true (ga_cons (g_var 1) (ga_cons (g_var 2) ga_nil)))))))
theorem k_is_among (T : Tx K Nfo.mg) : FnD P w K Nfo.mg base 1 T.a_is_among T.d_is_among ["thing", "least", "most"] r_is_among := fnD_of T.F_is_among sc_is_among rfl rfl fun cdv A oes s0 H Wx hG hr => by
  have sc := sc_is_among
  exact (gbs_one (gb_ret (g_and (g_isK .int (by rfl) T.n_isinstance (by rfl) T.n_int (by decide +kernel) (g_var 0)) (g_and (g_not (g_isK .bool (by rfl) T.n_isinstance (by rfl) T.n_bool (by decide +kernel) (g_var 0))) (g_one (g_chain cg_le cg_le (g_var 1) (g_var 0) (g_var 2)))))))
theorem k_is_thread (T : Tx K Nfo.mg) : FnD P w K Nfo.mg base 2 T.a_is_thread T.d_is_thread ["thing"] r_is_thread := fnD_of T.F_is_thread sc_is_thread rfl rfl fun cdv A oes s0 H Wx hG hr => by
  have sc := sc_is_thread
  exact (gbs_one (gb_ret (g_call (k_is_among T) (hr.mono (by decide)) hG (by rfl) T.g_is_among T.F_is_among.kp T.b_is_among takesB (ga_cons (g_var 0) (ga_cons g_int (ga_cons (g_glob (v := .int 99) (by rfl) T.c_MOST_THREAD (by exact ⟨T.t_MOST_THREAD, rfl⟩) fun _ => .int _) ga_nil))))))
theorem k_is_order (T : Tx K Nfo.mg) : FnD P w K Nfo.mg base 3 T.a_is_order T.d_is_order ["thing"] r_is_order := fnD_of T.F_is_order sc_is_order rfl rfl fun cdv A oes s0 H Wx hG hr => by
  have sc := sc_is_order
  exact (gbs_cons (gb_if (gt_pw (gt_or (gt_not (gt_val (g_isK .tuple (by rfl) T.n_isinstance (by rfl) T.n_tuple (by decide +kernel) (g_var 0)))) (gt_or (gt_cmp cg_gt (g_len (by rfl) T.n_len (g_var 0)) (g_glob (v := .int 60) (by rfl) T.c_MOST_ENDS (by exact ⟨T.t_MOST_ENDS, rfl⟩) fun _ => .int _) (by rfl)) (gt_or1 (gt_not (gt_val (g_all rfl (by rfl) T.n_all (g_lc (own := [("one", 1)]) true rfl sc.nd (gi_seq (g_var 0)) (blkOk_by (N := ["thing", "one"]) (sc := defScope s_is_order) (by decide +kernel)) (fun _ h => h) (fun _ _ _ _ _ => (gg_name 1 sc.nd rfl (by first | exact Or.inl rfl | exact Or.inr rfl))) (fun _ _ _ _ _ => gts_nil) (fun _ _ _ _ _ => (g_call (k_is_thread T) (hr.mono (by decide)) hG (by rfl) T.g_is_thread T.F_is_thread.kp T.b_is_thread takesN (ga_cons (g_var 1) ga_nil))))))))))) (gbs_one (gb_ret g_bl)) gbs_nil)
    (gbs_one (gb_ret (g_cmp (cg_eq hr.units) (g_lenSetA rfl (by rfl) T.n_len (by rfl) T.n_set (g_var 0)) (g_len (by rfl) T.n_len (g_var 0)) (by rfl)))))
theorem k_is_led (T : Tx K Nfo.mg) : FnD P w K Nfo.mg base 4 T.a_is_led T.d_is_led ["thing"] r_is_led := fnD_of T.F_is_led sc_is_led rfl rfl fun cdv A oes s0 H Wx hG hr => by
  have sc := sc_is_led
  exact (gbs_cons (gb_if (gt_pw (gt_or (gt_not (gt_val (g_isK .tuple (by rfl) T.n_isinstance (by rfl) T.n_tuple (by decide +kernel) (g_var 0)))) (gt_or1 (gt_cmp (cg_ne hr.units) (g_len (by rfl) T.n_len (g_var 0)) g_int (by rfl))))) (gbs_one (gb_ret g_bl)) gbs_nil)
    (gbs_one (gb_ret (g_and (g_call (k_is_order T) (hr.mono (by decide)) hG (by rfl) T.g_is_order T.F_is_order.kp T.b_is_order takesB (ga_cons (g_cut true (g_var 0) go_none (go_some g_int)) ga_nil)) (g_and (g_call (k_is_among T) (hr.mono (by decide)) hG (by rfl) T.g_is_among T.F_is_among.kp T.b_is_among takesB (ga_cons (g_ix (u1 hr) (g_var 0) g_int) (ga_cons g_int (ga_cons (g_glob (v := .int 7) (by rfl) T.c_MOST_SHAFT (by exact ⟨T.t_MOST_SHAFT, rfl⟩) fun _ => .int _) ga_nil)))) (g_one (g_call (k_is_among T) (hr.mono (by decide)) hG (by rfl) T.g_is_among T.F_is_among.kp T.b_is_among takesB (ga_cons (g_ix (u1 hr) (g_var 0) g_int) (ga_cons g_int (ga_cons (g_glob (v := .int 59) (by rfl) T.c_MOST_EYE (by exact ⟨T.t_MOST_EYE, rfl⟩) fun _ => .int _) ga_nil))))))))))
theorem k_is_threaded (T : Tx K Nfo.mg) : FnD P w K Nfo.mg base 5 T.a_is_threaded T.d_is_threaded ["thing"] r_is_threaded := fnD_of T.F_is_threaded sc_is_threaded rfl rfl fun cdv A oes s0 H Wx hG hr => by
  have sc := sc_is_threaded
  exact (gbs_cons (gb_if (gt_pw (gt_or (gt_not (gt_val (g_isK .tuple (by rfl) T.n_isinstance (by rfl) T.n_tuple (by decide +kernel) (g_var 0)))) (gt_or (gt_cmp cg_gt (g_len (by rfl) T.n_len (g_var 0)) (g_glob (v := .int 60) (by rfl) T.c_MOST_ENDS (by exact ⟨T.t_MOST_ENDS, rfl⟩) fun _ => .int _) (by rfl)) (gt_or1 (gt_not (gt_val (g_all rfl (by rfl) T.n_all (g_lc (own := [("one", 1)]) true rfl sc.nd (gi_seq (g_var 0)) (blkOk_by (N := ["thing", "one"]) (sc := defScope s_is_threaded) (by decide +kernel)) (fun _ h => h) (fun _ _ _ _ _ => (gg_name 1 sc.nd rfl (by first | exact Or.inl rfl | exact Or.inr rfl))) (fun _ _ _ _ _ => gts_nil) (fun _ _ _ _ _ => (g_call (k_is_led T) (hr.mono (by decide)) hG (by rfl) T.g_is_led T.F_is_led.kp T.b_is_led takesN (ga_cons (g_var 1) ga_nil))))))))))) (gbs_one (gb_ret g_bl)) gbs_nil)
    (gbs_one (gb_ret (g_call (k_is_order T) (hr.mono (by decide)) hG (by rfl) T.g_is_order T.F_is_order.kp T.b_is_order takesB (ga_cons (g_tuple1 (by rfl) T.n_tuple (g_lc (own := [("one", 1)]) true rfl sc.nd (gi_seq (g_var 0)) (blkOk_by (N := ["thing", "one"]) (sc := defScope s_is_threaded) (by decide +kernel)) (fun _ h => h) (fun _ _ _ _ _ => (gg_name 1 sc.nd rfl (by first | exact Or.inl rfl | exact Or.inr rfl))) (fun _ _ _ _ _ => gts_nil) (fun _ _ _ _ _ => (g_ix (u1 hr) (g_var 1) g_int)))) ga_nil)))))
theorem k_need_threaded (T : Tx K Nfo.mg) : FnD P w K Nfo.mg base 6 T.a_need_threaded T.d_need_threaded ["thing"] r_need_threaded := fnD_of T.F_need_threaded sc_need_threaded rfl rfl fun cdv A oes s0 H Wx hG hr => by
  have sc := sc_need_threaded
  exact (gbs_one (gb_if (gt_not (gt_val (g_call (k_is_threaded T) (hr.mono (by decide)) hG (by rfl) T.g_is_threaded T.F_is_threaded.kp T.b_is_threaded takesB (ga_cons (g_var 0) ga_nil)))) (gbs_one (gb_raise PySem.F.excBase_ValueError T.x_BadThreaded T.g_BadThreaded T.k_BadThreaded (raises_own T.s_BadThreaded T.y_BadThreaded) (by rfl) rfl takesB)) gbs_nil))
theorem k_eyes_had (T : Tx K Nfo.mg) : FnD P w K Nfo.mg base 1 T.a_eyes_had T.d_eyes_had ["thing"] r_eyes_had := fnD_of T.F_eyes_had sc_eyes_had rfl rfl fun cdv A oes s0 H Wx hG hr => by
  have sc := sc_eyes_had
  exact (gbs_one (gb_ret (g_frz (g_lc (own := [("one", 1)]) true rfl sc.nd (gi_seq (g_var 0)) (blkOk_by (N := ["thing", "one"]) (sc := defScope s_eyes_had) (by decide +kernel)) (fun _ h => h) (fun _ _ _ _ _ => (gg_name 1 sc.nd rfl (by first | exact Or.inl rfl | exact Or.inr rfl))) (fun _ _ _ _ _ => gts_nil) (fun _ _ _ _ _ => (g_cut true (g_var 1) (go_some g_int) go_none))))))
theorem k_doubled (T : Tx K Nfo.mg) : FnD P w K Nfo.mg base 7 T.a_doubled T.d_doubled ["thing"] r_doubled := fnD_of T.F_doubled sc_doubled rfl rfl fun cdv A oes s0 H Wx hG hr => by
  have sc := sc_doubled
  exact (gbs_cons (gb_expr (g_call (k_need_threaded T) (hr.mono (by decide)) hG (by rfl) T.g_need_threaded T.F_need_threaded.kp T.b_need_threaded takesB (ga_cons (g_var 0) ga_nil)))
    (gbs_cons (gb_set 1 sc.nd rfl (by first | exact Or.inl rfl | exact Or.inr rfl) (g_call (k_eyes_had T) (hr.mono (by decide)) hG (by rfl) T.g_eyes_had T.F_eyes_had.kp T.b_eyes_had takesB (ga_cons (g_var 0) ga_nil)))
    (gbs_one (gb_ret (g_setSort false rfl hr.units (by rfl) T.n_sorted (by rfl) T.n_set (g_lc (own := [("eye", 2)]) true rfl sc.nd (gi_seq (g_var 1)) (blkOk_by (N := ["thing", "had", "eye"]) (sc := defScope s_doubled) (by decide +kernel)) (fun _ h => h) (fun _ _ _ _ _ => (gg_name 2 sc.nd rfl (by first | exact Or.inl rfl | exact Or.inr rfl))) (fun _ _ _ _ _ => (gts_one (gt_cmp cg_gt (g_countD (u65 hr) (g_var 1) (g_var 2)) g_int (by rfl)))) (fun _ _ _ _ _ => (g_var 2))))))))
theorem k_empty (T : Tx K Nfo.mg) : FnD P w K Nfo.mg base 7 T.a_empty T.d_empty ["thing"] r_empty := fnD_of T.F_empty sc_empty rfl rfl fun cdv A oes s0 H Wx hG hr => by
  have sc := sc_empty
  exact (gbs_cons (gb_expr (g_call (k_need_threaded T) (hr.mono (by decide)) hG (by rfl) T.g_need_threaded T.F_need_threaded.kp T.b_need_threaded takesB (ga_cons (g_var 0) ga_nil)))
    (gbs_cons (gb_set 1 sc.nd rfl (by first | exact Or.inl rfl | exact Or.inr rfl) (g_call (k_eyes_had T) (hr.mono (by decide)) hG (by rfl) T.g_eyes_had T.F_eyes_had.kp T.b_eyes_had takesB (ga_cons (g_var 0) ga_nil)))
    (gbs_cons (gb_set 2 sc.nd rfl (by first | exact Or.inl rfl | exact Or.inr rfl) (g_lst false ga_nil))
    (gbs_cons (gb_for (passes_of rfl) rfl (gi_range (by rfl) T.n_range (g_add true (g_glob (v := .int 7) (by rfl) T.c_MOST_SHAFT (by exact ⟨T.t_MOST_SHAFT, rfl⟩) fun _ => .int _) g_int)) (gg_name 3 sc.nd rfl (by first | exact Or.inl rfl | exact Or.inr rfl)) (gbs_cons (gb_set 4 sc.nd rfl (by first | exact Or.inl rfl | exact Or.inr rfl) (g_maxL rfl (by rfl) T.n_max (g_add true (g_lst true (ga_cons (g_neg g_int) ga_nil)) (g_lc (own := [("own", 5), ("eye", 6)]) true rfl sc.nd (gi_seq (g_var 1)) (blkOk_by (N := ["thing", "had", "found", "shaft", "highest", "own", "eye"]) (sc := defScope s_empty) (by decide +kernel)) (fun _ h => h) (fun _ _ _ _ _ => (gg_tup rfl (ggs_cons (gg_name 5 sc.nd rfl (by first | exact Or.inl rfl | exact Or.inr rfl)) (ggs_cons (gg_name 6 sc.nd rfl (by first | exact Or.inl rfl | exact Or.inr rfl)) ggs_nil)) rfl)) (fun _ _ _ _ _ => (gts_one (gt_cmp (cg_eq hr.units) (g_var 5) (g_var 3) (by rfl)))) (fun _ _ _ _ _ => (g_var 6))))))
    (gbs_one (gb_expr (g_extend (g_var 2) (g_lc (own := [("eye", 6)]) true rfl sc.nd (gi_range (by rfl) T.n_range (g_var 4)) (blkOk_by (N := ["thing", "had", "found", "shaft", "highest", "own", "eye"]) (sc := defScope s_empty) (by decide +kernel)) (fun _ h => h) (fun _ _ _ _ _ => (gg_name 6 sc.nd rfl (by first | exact Or.inl rfl | exact Or.inr rfl))) (fun _ _ _ _ _ => (gts_one (gt_notin (u65 hr) (g_tup (ga_cons (g_var 3) (ga_cons (g_var 6) ga_nil))) (g_var 1)))) (fun _ _ _ _ _ => (g_tup (ga_cons (g_var 3) (ga_cons (g_var 6) ga_nil))))))))))
    (gbs_one (gb_ret (g_var 2)))))))
theorem k__law_right (T : Tx K Nfo.mg) : FnD P w K Nfo.mg base 8 T.a__law_right T.d__law_right ["_law_led"] r__law_right := fnD_of T.F__law_right sc__law_right rfl rfl fun cdv A oes s0 H Wx hG hr => by
  have sc := sc__law_right
  exact (gbs_cons (gb_set 1 sc.nd rfl (by first | exact Or.inl rfl | exact Or.inr rfl) (g_reprV hG hr.units (by rfl) T.n_repr (g_callL (k__law_due T) (hr.mono (by decide)) hG (by rfl) T.g__law_due T.F__law_due.kp T.b__law_due takesB (ga_cons (g_var 0) ga_nil))))
    (gbs_cons (gb_for (passes_of rfl) rfl (gi_range (by rfl) T.n_range g_int) (gg_name 2 sc.nd rfl (by first | exact Or.inl rfl | exact Or.inr rfl)) (gbs_cons (gb_set 3 sc.nd rfl (by first | exact Or.inl rfl | exact Or.inr rfl) (g_lst false (ga_cons (g_callL (k_doubled T) (hr.mono (by decide)) hG (by rfl) T.g_doubled T.F_doubled.kp T.b_doubled takesB (ga_cons (g_var 0) ga_nil)) (ga_cons (g_callL (k_empty T) (hr.mono (by decide)) hG (by rfl) T.g_empty T.F_empty.kp T.b_empty takesB (ga_cons (g_var 0) ga_nil)) ga_nil))))
    (gbs_cons (gb_if (gt_cmp (cg_ne hr.units) (g_reprV hG hr.units (by rfl) T.n_repr (g_var 3)) (g_var 1) (by rfl)) (gbs_one (gb_ret g_bl)) gbs_nil)
    (gbs_one (gb_forR (passes_of rfl) rfl (g_var 3) (gg_name 4 sc.nd rfl (by first | exact Or.inl rfl | exact Or.inr rfl)) (gbs_cons (gb_asg (g_lst true ga_nil) (gg_subSl (g_var 4) go_none (go_some g_int)))
    (gbs_one (gb_expr (g_append (g_var 4) g_none)))))))))
    (gbs_one (gb_ret g_bl))))
theorem k_law (T : Tx K Nfo.mg) : FnD P w K Nfo.mg base 9 T.a_law T.d_law ["_law_script"] r_law := fnD_of T.F_law sc_law rfl rfl fun cdv A oes s0 H Wx hG hr => by
  have sc := sc_law
  exact (gbs_cons (gb_set 1 sc.nd rfl (by first | exact Or.inl rfl | exact Or.inr rfl) (g_lst false (ga_cons g_int ga_nil)))
    (gbs_cons (gb_for (passes_of rfl) rfl (gi_range (by rfl) T.n_range (g_add true g_int (g_min2 rfl (by rfl) T.n_min g_int (g_len (by rfl) T.n_len (g_var 0))))) (gg_name 2 sc.nd rfl (by first | exact Or.inl rfl | exact Or.inr rfl)) (gbs_cons (gb_par2 3 4 rfl sc.nd rfl rfl (by decide) rfl rfl (ga_cons (g_callL (k__law_order T) (hr.mono (by decide)) hG (by rfl) T.g__law_order T.F__law_order.kp T.b__law_order takesB (ga_cons (g_var 0) (ga_cons (g_var 1) (ga_cons (g_callL (k__law_many T) (hr.mono (by decide)) hG (by rfl) T.g__law_many T.F__law_many.kp T.b__law_many takesB (ga_cons (g_var 0) (ga_cons (g_var 1) ga_nil))) ga_nil)))) (ga_cons (g_callL (k__law_draft T) (hr.mono (by decide)) hG (by rfl) T.g__law_draft T.F__law_draft.kp T.b__law_draft takesB (ga_cons (g_var 0) (ga_cons (g_var 1) ga_nil))) ga_nil)) (by rfl))
    (gbs_cons (gb_set 5 sc.nd rfl (by first | exact Or.inl rfl | exact Or.inr rfl) (g_call (k__law_eyes T) (hr.mono (by decide)) hG (by rfl) T.g__law_eyes T.F__law_eyes.kp T.b__law_eyes takesB (ga_cons (g_var 3) (ga_cons (g_var 4) (ga_cons (g_mod (g_callL (k__law_cell T) (hr.mono (by decide)) hG (by rfl) T.g__law_cell T.F__law_cell.kp T.b__law_cell takesB (ga_cons (g_var 0) (ga_cons (g_var 1) ga_nil))) g_int) ga_nil)))))
    (gbs_one (gb_for (passes_of rfl) rfl (gi_seq (g_tup (ga_cons (g_var 5) (ga_cons (g_callL (k__law_other T) (hr.mono (by decide)) hG (by rfl) T.g__law_other T.F__law_other.kp T.b__law_other takesB (ga_cons (g_var 0) (ga_cons (g_var 1) (ga_cons (g_var 5) ga_nil)))) (ga_cons (g_callL (k__law_drawn T) (hr.mono (by decide)) hG (by rfl) T.g__law_drawn T.F__law_drawn.kp T.b__law_drawn takesB (ga_cons (g_var 0) (ga_cons (g_var 1) (ga_cons (g_var 3) ga_nil)))) ga_nil))))) (gg_name 6 sc.nd rfl (by first | exact Or.inl rfl | exact Or.inr rfl)) (gbs_one (gb_if (gt_not (gt_val (g_call (k__law_right T) (hr.mono (by decide)) hG (by rfl) T.g__law_right T.F__law_right.kp T.b__law_right takesB (ga_cons (g_var 6) ga_nil)))) (gbs_one (gb_ret g_bl)) gbs_nil)))))))
    (gbs_one (gb_ret g_bl))))
end

set_option maxHeartbeats 4000000 in
theorem all_mk {P : Program} {w : World} {K : PySem.W.Frag} {h : Heap} {mg : Str → Option Value} {fa : Addr} (X : K.In h) (G : h.Ns mainGlobals mg) (hfa : mg "law" = some (.ref fa))
    {f0 : Addr} {od0 an0 : Option Addr} {sl0 : Array (Option Value)} {oc0 kV0 dc0 pm0 cd0 ct0 : Value}
    {f1 : Addr} {od1 an1 : Option Addr} {sl1 : Array (Option Value)} {oc1 kV1 dc1 pm1 cd1 ct1 : Value}
    {f2 : Addr} {od2 an2 : Option Addr} {sl2 : Array (Option Value)} {oc2 kV2 dc2 pm2 cd2 ct2 : Value}
    {f3 : Addr} {od3 an3 : Option Addr} {sl3 : Array (Option Value)} {oc3 kV3 dc3 pm3 cd3 ct3 : Value}
    {f4 : Addr} {od4 an4 : Option Addr} {sl4 : Array (Option Value)} {oc4 kV4 dc4 pm4 cd4 ct4 : Value}
    {f5 : Addr} {od5 an5 : Option Addr} {sl5 : Array (Option Value)} {oc5 kV5 dc5 pm5 cd5 ct5 : Value}
    {f6 : Addr} {od6 an6 : Option Addr} {sl6 : Array (Option Value)} {oc6 kV6 dc6 pm6 cd6 ct6 : Value}
    {f7 : Addr} {od7 an7 : Option Addr} {sl7 : Array (Option Value)} {oc7 kV7 dc7 pm7 cd7 ct7 : Value}
    {f8 : Addr} {od8 an8 : Option Addr} {sl8 : Array (Option Value)} {oc8 kV8 dc8 pm8 cd8 ct8 : Value}
    {f9 : Addr} {od9 an9 : Option Addr} {sl9 : Array (Option Value)} {oc9 kV9 dc9 pm9 cd9 ct9 : Value}
    {f10 : Addr} {od10 an10 : Option Addr} {sl10 : Array (Option Value)} {oc10 kV10 dc10 pm10 cd10 ct10 : Value}
    {f11 : Addr} {od11 an11 : Option Addr} {sl11 : Array (Option Value)} {oc11 kV11 dc11 pm11 cd11 ct11 : Value}
    {f12 : Addr} {od12 an12 : Option Addr} {sl12 : Array (Option Value)} {oc12 kV12 dc12 pm12 cd12 ct12 : Value}
    {f13 : Addr} {od13 an13 : Option Addr} {sl13 : Array (Option Value)} {oc13 kV13 dc13 pm13 cd13 ct13 : Value}
    {f14 : Addr} {od14 an14 : Option Addr} {sl14 : Array (Option Value)} {oc14 kV14 dc14 pm14 cd14 ct14 : Value}
    {f15 : Addr} {od15 an15 : Option Addr} {sl15 : Array (Option Value)} {oc15 kV15 dc15 pm15 cd15 ct15 : Value}
    {f16 : Addr} {od16 an16 : Option Addr} {sl16 : Array (Option Value)} {oc16 kV16 dc16 pm16 cd16 ct16 : Value}
    {f17 : Addr} {od17 an17 : Option Addr} {sl17 : Array (Option Value)} {oc17 kV17 dc17 pm17 cd17 ct17 : Value}
    {f18 : Addr} {od18 an18 : Option Addr} {sl18 : Array (Option Value)} {oc18 kV18 dc18 pm18 cd18 ct18 : Value}
    {t_MOST_ENDS : Tok}
    {t_MOST_EYE : Tok}
    {t_MOST_SHAFT : Tok}
    {t_MOST_THREAD : Tok}
    {C_BadThreaded : Addr}
    (a0 : PySem.W.nsIn K mainGlobals "_law_eyes" = some (some (.ref f0))) (l0 : K.lookup f0 = some ⟨oc0, od0, .func (PySem.W.fnOf "_law_eyes" "_law_eyes" (defArgs s__law_eyes) (defBody s__law_eyes) (defScope s__law_eyes) .none kV0 dc0 pm0 an0 cd0 ct0), sl0⟩) (c0 : PySem.W.codeIn K cd0 "_law_eyes" = true) (k0 : PySem.W.keepIn K (.ref f0) = true)
    (a1 : PySem.W.nsIn K mainGlobals "_law_cell" = some (some (.ref f1))) (l1 : K.lookup f1 = some ⟨oc1, od1, .func (PySem.W.fnOf "_law_cell" "_law_cell" (defArgs s__law_cell) (defBody s__law_cell) (defScope s__law_cell) .none kV1 dc1 pm1 an1 cd1 ct1), sl1⟩) (c1 : PySem.W.codeIn K cd1 "_law_cell" = true) (k1 : PySem.W.keepIn K (.ref f1) = true)
    (a2 : PySem.W.nsIn K mainGlobals "_law_order" = some (some (.ref f2))) (l2 : K.lookup f2 = some ⟨oc2, od2, .func (PySem.W.fnOf "_law_order" "_law_order" (defArgs s__law_order) (defBody s__law_order) (defScope s__law_order) .none kV2 dc2 pm2 an2 cd2 ct2), sl2⟩) (c2 : PySem.W.codeIn K cd2 "_law_order" = true) (k2 : PySem.W.keepIn K (.ref f2) = true)
    (a3 : PySem.W.nsIn K mainGlobals "_law_draft" = some (some (.ref f3))) (l3 : K.lookup f3 = some ⟨oc3, od3, .func (PySem.W.fnOf "_law_draft" "_law_draft" (defArgs s__law_draft) (defBody s__law_draft) (defScope s__law_draft) .none kV3 dc3 pm3 an3 cd3 ct3), sl3⟩) (c3 : PySem.W.codeIn K cd3 "_law_draft" = true) (k3 : PySem.W.keepIn K (.ref f3) = true)
    (a4 : PySem.W.nsIn K mainGlobals "_law_other" = some (some (.ref f4))) (l4 : K.lookup f4 = some ⟨oc4, od4, .func (PySem.W.fnOf "_law_other" "_law_other" (defArgs s__law_other) (defBody s__law_other) (defScope s__law_other) .none kV4 dc4 pm4 an4 cd4 ct4), sl4⟩) (c4 : PySem.W.codeIn K cd4 "_law_other" = true) (k4 : PySem.W.keepIn K (.ref f4) = true)
    (a5 : PySem.W.nsIn K mainGlobals "_law_drawn" = some (some (.ref f5))) (l5 : K.lookup f5 = some ⟨oc5, od5, .func (PySem.W.fnOf "_law_drawn" "_law_drawn" (defArgs s__law_drawn) (defBody s__law_drawn) (defScope s__law_drawn) .none kV5 dc5 pm5 an5 cd5 ct5), sl5⟩) (c5 : PySem.W.codeIn K cd5 "_law_drawn" = true) (k5 : PySem.W.keepIn K (.ref f5) = true)
    (a6 : PySem.W.nsIn K mainGlobals "_law_many" = some (some (.ref f6))) (l6 : K.lookup f6 = some ⟨oc6, od6, .func (PySem.W.fnOf "_law_many" "_law_many" (defArgs s__law_many) (defBody s__law_many) (defScope s__law_many) .none kV6 dc6 pm6 an6 cd6 ct6), sl6⟩) (c6 : PySem.W.codeIn K cd6 "_law_many" = true) (k6 : PySem.W.keepIn K (.ref f6) = true)
    (a7 : PySem.W.nsIn K mainGlobals "_law_due" = some (some (.ref f7))) (l7 : K.lookup f7 = some ⟨oc7, od7, .func (PySem.W.fnOf "_law_due" "_law_due" (defArgs s__law_due) (defBody s__law_due) (defScope s__law_due) .none kV7 dc7 pm7 an7 cd7 ct7), sl7⟩) (c7 : PySem.W.codeIn K cd7 "_law_due" = true) (k7 : PySem.W.keepIn K (.ref f7) = true)
    (a8 : PySem.W.nsIn K mainGlobals "is_among" = some (some (.ref f8))) (l8 : K.lookup f8 = some ⟨oc8, od8, .func (PySem.W.fnOf "is_among" "is_among" (defArgs s_is_among) (defBody s_is_among) (defScope s_is_among) .none kV8 dc8 pm8 an8 cd8 ct8), sl8⟩) (c8 : PySem.W.codeIn K cd8 "is_among" = true) (k8 : PySem.W.keepIn K (.ref f8) = true)
    (a9 : PySem.W.nsIn K mainGlobals "is_thread" = some (some (.ref f9))) (l9 : K.lookup f9 = some ⟨oc9, od9, .func (PySem.W.fnOf "is_thread" "is_thread" (defArgs s_is_thread) (defBody s_is_thread) (defScope s_is_thread) .none kV9 dc9 pm9 an9 cd9 ct9), sl9⟩) (c9 : PySem.W.codeIn K cd9 "is_thread" = true) (k9 : PySem.W.keepIn K (.ref f9) = true)
    (a10 : PySem.W.nsIn K mainGlobals "is_order" = some (some (.ref f10))) (l10 : K.lookup f10 = some ⟨oc10, od10, .func (PySem.W.fnOf "is_order" "is_order" (defArgs s_is_order) (defBody s_is_order) (defScope s_is_order) .none kV10 dc10 pm10 an10 cd10 ct10), sl10⟩) (c10 : PySem.W.codeIn K cd10 "is_order" = true) (k10 : PySem.W.keepIn K (.ref f10) = true)
    (a11 : PySem.W.nsIn K mainGlobals "is_led" = some (some (.ref f11))) (l11 : K.lookup f11 = some ⟨oc11, od11, .func (PySem.W.fnOf "is_led" "is_led" (defArgs s_is_led) (defBody s_is_led) (defScope s_is_led) .none kV11 dc11 pm11 an11 cd11 ct11), sl11⟩) (c11 : PySem.W.codeIn K cd11 "is_led" = true) (k11 : PySem.W.keepIn K (.ref f11) = true)
    (a12 : PySem.W.nsIn K mainGlobals "is_threaded" = some (some (.ref f12))) (l12 : K.lookup f12 = some ⟨oc12, od12, .func (PySem.W.fnOf "is_threaded" "is_threaded" (defArgs s_is_threaded) (defBody s_is_threaded) (defScope s_is_threaded) .none kV12 dc12 pm12 an12 cd12 ct12), sl12⟩) (c12 : PySem.W.codeIn K cd12 "is_threaded" = true) (k12 : PySem.W.keepIn K (.ref f12) = true)
    (a13 : PySem.W.nsIn K mainGlobals "need_threaded" = some (some (.ref f13))) (l13 : K.lookup f13 = some ⟨oc13, od13, .func (PySem.W.fnOf "need_threaded" "need_threaded" (defArgs s_need_threaded) (defBody s_need_threaded) (defScope s_need_threaded) .none kV13 dc13 pm13 an13 cd13 ct13), sl13⟩) (c13 : PySem.W.codeIn K cd13 "need_threaded" = true) (k13 : PySem.W.keepIn K (.ref f13) = true)
    (a14 : PySem.W.nsIn K mainGlobals "eyes_had" = some (some (.ref f14))) (l14 : K.lookup f14 = some ⟨oc14, od14, .func (PySem.W.fnOf "eyes_had" "eyes_had" (defArgs s_eyes_had) (defBody s_eyes_had) (defScope s_eyes_had) .none kV14 dc14 pm14 an14 cd14 ct14), sl14⟩) (c14 : PySem.W.codeIn K cd14 "eyes_had" = true) (k14 : PySem.W.keepIn K (.ref f14) = true)
    (a15 : PySem.W.nsIn K mainGlobals "doubled" = some (some (.ref f15))) (l15 : K.lookup f15 = some ⟨oc15, od15, .func (PySem.W.fnOf "doubled" "doubled" (defArgs s_doubled) (defBody s_doubled) (defScope s_doubled) .none kV15 dc15 pm15 an15 cd15 ct15), sl15⟩) (c15 : PySem.W.codeIn K cd15 "doubled" = true) (k15 : PySem.W.keepIn K (.ref f15) = true)
    (a16 : PySem.W.nsIn K mainGlobals "empty" = some (some (.ref f16))) (l16 : K.lookup f16 = some ⟨oc16, od16, .func (PySem.W.fnOf "empty" "empty" (defArgs s_empty) (defBody s_empty) (defScope s_empty) .none kV16 dc16 pm16 an16 cd16 ct16), sl16⟩) (c16 : PySem.W.codeIn K cd16 "empty" = true) (k16 : PySem.W.keepIn K (.ref f16) = true)
    (a17 : PySem.W.nsIn K mainGlobals "_law_right" = some (some (.ref f17))) (l17 : K.lookup f17 = some ⟨oc17, od17, .func (PySem.W.fnOf "_law_right" "_law_right" (defArgs s__law_right) (defBody s__law_right) (defScope s__law_right) .none kV17 dc17 pm17 an17 cd17 ct17), sl17⟩) (c17 : PySem.W.codeIn K cd17 "_law_right" = true) (k17 : PySem.W.keepIn K (.ref f17) = true)
    (a18 : PySem.W.nsIn K mainGlobals "law" = some (some (.ref f18))) (l18 : K.lookup f18 = some ⟨oc18, od18, .func (PySem.W.fnOf "law" "law" (defArgs s_law) (defBody s_law) (defScope s_law) .none kV18 dc18 pm18 an18 cd18 ct18), sl18⟩) (c18 : PySem.W.codeIn K cd18 "law" = true) (k18 : PySem.W.keepIn K (.ref f18) = true)
    (z_all : PySem.W.nsIn K mainGlobals "all" = some none)
    (z_bool : PySem.W.nsIn K mainGlobals "bool" = some none)
    (z_enumerate : PySem.W.nsIn K mainGlobals "enumerate" = some none)
    (z_int : PySem.W.nsIn K mainGlobals "int" = some none)
    (z_isinstance : PySem.W.nsIn K mainGlobals "isinstance" = some none)
    (z_len : PySem.W.nsIn K mainGlobals "len" = some none)
    (z_list : PySem.W.nsIn K mainGlobals "list" = some none)
    (z_max : PySem.W.nsIn K mainGlobals "max" = some none)
    (z_min : PySem.W.nsIn K mainGlobals "min" = some none)
    (z_range : PySem.W.nsIn K mainGlobals "range" = some none)
    (z_repr : PySem.W.nsIn K mainGlobals "repr" = some none)
    (z_set : PySem.W.nsIn K mainGlobals "set" = some none)
    (z_sorted : PySem.W.nsIn K mainGlobals "sorted" = some none)
    (z_tuple : PySem.W.nsIn K mainGlobals "tuple" = some none)
    (c_MOST_ENDS : PySem.W.nsIn K mainGlobals "MOST_ENDS" = some (some (.int 60 t_MOST_ENDS)))
    (c_MOST_EYE : PySem.W.nsIn K mainGlobals "MOST_EYE" = some (some (.int 59 t_MOST_EYE)))
    (c_MOST_SHAFT : PySem.W.nsIn K mainGlobals "MOST_SHAFT" = some (some (.int 7 t_MOST_SHAFT)))
    (c_MOST_THREAD : PySem.W.nsIn K mainGlobals "MOST_THREAD" = some (some (.int 99 t_MOST_THREAD)))
    (g_BadThreaded : PySem.W.nsIn K mainGlobals "BadThreaded" = some (some (.ref C_BadThreaded))) (x_BadThreaded : PySem.W.excIn K C_BadThreaded [.type "ValueError", .type "Exception", .type "BaseException", .type "object"] "ValueError.__new__" = true) (k_BadThreaded : PySem.W.keepIn K (.ref C_BadThreaded) = true) (s_BadThreaded : PySem.W.subIn K (.ref C_BadThreaded) (.type "BaseException") = some true) (y_BadThreaded : PySem.W.typeIn K (.ref C_BadThreaded) = some (.type "type")) :
    ∃ (N : Nfo) (fd : FuncData), N.T = [] ∧ (∀ (s : Shared) (u : Value), BindsTo s fd ⟨[u], []⟩ [("_law_script", u)]) ∧ ∀ bs : Heap, K.In bs → bs.Ns mainGlobals mg → @FnD N P w K mg bs 9 fa fd ["_law_script"] r_law := by
  have e := hfa.symm.trans (PySem.W.mg_of X G a18)
  cases e
  let T : Tx K mg := {
    a__law_eyes := f0,
    d__law_eyes := _,
    F__law_eyes := fun_mk (st := s__law_eyes) l0 c0 k0,
    g__law_eyes := PySem.W.mg_of X G a0,
    b__law_eyes := (fun_mk (st := s__law_eyes) l0 c0 k0).binds (ps := ["_law_order_here", "_law_draft_here", "_law_begun"]) fun _ _ _ _ _ _ us hl => match us, hl with | [_, _, _], _ => rfl,
    a__law_cell := f1,
    d__law_cell := _,
    F__law_cell := fun_mk (st := s__law_cell) l1 c1 k1,
    g__law_cell := PySem.W.mg_of X G a1,
    b__law_cell := (fun_mk (st := s__law_cell) l1 c1 k1).binds (ps := ["_law_cells", "_law_spot"]) fun _ _ _ _ _ _ us hl => match us, hl with | [_, _], _ => rfl,
    a__law_order := f2,
    d__law_order := _,
    F__law_order := fun_mk (st := s__law_order) l2 c2 k2,
    g__law_order := PySem.W.mg_of X G a2,
    b__law_order := (fun_mk (st := s__law_order) l2 c2 k2).binds (ps := ["_law_cells", "_law_spot", "_law_many_here"]) fun _ _ _ _ _ _ us hl => match us, hl with | [_, _, _], _ => rfl,
    a__law_draft := f3,
    d__law_draft := _,
    F__law_draft := fun_mk (st := s__law_draft) l3 c3 k3,
    g__law_draft := PySem.W.mg_of X G a3,
    b__law_draft := (fun_mk (st := s__law_draft) l3 c3 k3).binds (ps := ["_law_cells", "_law_spot"]) fun _ _ _ _ _ _ us hl => match us, hl with | [_, _], _ => rfl,
    a__law_other := f4,
    d__law_other := _,
    F__law_other := fun_mk (st := s__law_other) l4 c4 k4,
    g__law_other := PySem.W.mg_of X G a4,
    b__law_other := (fun_mk (st := s__law_other) l4 c4 k4).binds (ps := ["_law_cells", "_law_spot", "_law_led"]) fun _ _ _ _ _ _ us hl => match us, hl with | [_, _, _], _ => rfl,
    a__law_drawn := f5,
    d__law_drawn := _,
    F__law_drawn := fun_mk (st := s__law_drawn) l5 c5 k5,
    g__law_drawn := PySem.W.mg_of X G a5,
    b__law_drawn := (fun_mk (st := s__law_drawn) l5 c5 k5).binds (ps := ["_law_cells", "_law_spot", "_law_order_here"]) fun _ _ _ _ _ _ us hl => match us, hl with | [_, _, _], _ => rfl,
    a__law_many := f6,
    d__law_many := _,
    F__law_many := fun_mk (st := s__law_many) l6 c6 k6,
    g__law_many := PySem.W.mg_of X G a6,
    b__law_many := (fun_mk (st := s__law_many) l6 c6 k6).binds (ps := ["_law_cells", "_law_spot"]) fun _ _ _ _ _ _ us hl => match us, hl with | [_, _], _ => rfl,
    a__law_due := f7,
    d__law_due := _,
    F__law_due := fun_mk (st := s__law_due) l7 c7 k7,
    g__law_due := PySem.W.mg_of X G a7,
    b__law_due := (fun_mk (st := s__law_due) l7 c7 k7).binds (ps := ["_law_led"]) fun _ _ _ _ _ _ us hl => match us, hl with | [_], _ => rfl,
    a_is_among := f8,
    d_is_among := _,
    F_is_among := fun_mk (st := s_is_among) l8 c8 k8,
    g_is_among := PySem.W.mg_of X G a8,
    b_is_among := (fun_mk (st := s_is_among) l8 c8 k8).binds (ps := ["thing", "least", "most"]) fun _ _ _ _ _ _ us hl => match us, hl with | [_, _, _], _ => rfl,
    a_is_thread := f9,
    d_is_thread := _,
    F_is_thread := fun_mk (st := s_is_thread) l9 c9 k9,
    g_is_thread := PySem.W.mg_of X G a9,
    b_is_thread := (fun_mk (st := s_is_thread) l9 c9 k9).binds (ps := ["thing"]) fun _ _ _ _ _ _ us hl => match us, hl with | [_], _ => rfl,
    a_is_order := f10,
    d_is_order := _,
    F_is_order := fun_mk (st := s_is_order) l10 c10 k10,
    g_is_order := PySem.W.mg_of X G a10,
    b_is_order := (fun_mk (st := s_is_order) l10 c10 k10).binds (ps := ["thing"]) fun _ _ _ _ _ _ us hl => match us, hl with | [_], _ => rfl,
    a_is_led := f11,
    d_is_led := _,
    F_is_led := fun_mk (st := s_is_led) l11 c11 k11,
    g_is_led := PySem.W.mg_of X G a11,
    b_is_led := (fun_mk (st := s_is_led) l11 c11 k11).binds (ps := ["thing"]) fun _ _ _ _ _ _ us hl => match us, hl with | [_], _ => rfl,
    a_is_threaded := f12,
    d_is_threaded := _,
    F_is_threaded := fun_mk (st := s_is_threaded) l12 c12 k12,
    g_is_threaded := PySem.W.mg_of X G a12,
    b_is_threaded := (fun_mk (st := s_is_threaded) l12 c12 k12).binds (ps := ["thing"]) fun _ _ _ _ _ _ us hl => match us, hl with | [_], _ => rfl,
    a_need_threaded := f13,
    d_need_threaded := _,
    F_need_threaded := fun_mk (st := s_need_threaded) l13 c13 k13,
    g_need_threaded := PySem.W.mg_of X G a13,
    b_need_threaded := (fun_mk (st := s_need_threaded) l13 c13 k13).binds (ps := ["thing"]) fun _ _ _ _ _ _ us hl => match us, hl with | [_], _ => rfl,
    a_eyes_had := f14,
    d_eyes_had := _,
    F_eyes_had := fun_mk (st := s_eyes_had) l14 c14 k14,
    g_eyes_had := PySem.W.mg_of X G a14,
    b_eyes_had := (fun_mk (st := s_eyes_had) l14 c14 k14).binds (ps := ["thing"]) fun _ _ _ _ _ _ us hl => match us, hl with | [_], _ => rfl,
    a_doubled := f15,
    d_doubled := _,
    F_doubled := fun_mk (st := s_doubled) l15 c15 k15,
    g_doubled := PySem.W.mg_of X G a15,
    b_doubled := (fun_mk (st := s_doubled) l15 c15 k15).binds (ps := ["thing"]) fun _ _ _ _ _ _ us hl => match us, hl with | [_], _ => rfl,
    a_empty := f16,
    d_empty := _,
    F_empty := fun_mk (st := s_empty) l16 c16 k16,
    g_empty := PySem.W.mg_of X G a16,
    b_empty := (fun_mk (st := s_empty) l16 c16 k16).binds (ps := ["thing"]) fun _ _ _ _ _ _ us hl => match us, hl with | [_], _ => rfl,
    a__law_right := f17,
    d__law_right := _,
    F__law_right := fun_mk (st := s__law_right) l17 c17 k17,
    g__law_right := PySem.W.mg_of X G a17,
    b__law_right := (fun_mk (st := s__law_right) l17 c17 k17).binds (ps := ["_law_led"]) fun _ _ _ _ _ _ us hl => match us, hl with | [_], _ => rfl,
    a_law := fa,
    d_law := _,
    F_law := fun_mk (st := s_law) l18 c18 k18,
    g_law := PySem.W.mg_of X G a18,
    b_law := (fun_mk (st := s_law) l18 c18 k18).binds (ps := ["_law_script"]) fun _ _ _ _ _ _ us hl => match us, hl with | [_], _ => rfl,
    n_all := PySem.W.mg_none_of X G z_all,
    n_bool := PySem.W.mg_none_of X G z_bool,
    n_enumerate := PySem.W.mg_none_of X G z_enumerate,
    n_int := PySem.W.mg_none_of X G z_int,
    n_isinstance := PySem.W.mg_none_of X G z_isinstance,
    n_len := PySem.W.mg_none_of X G z_len,
    n_list := PySem.W.mg_none_of X G z_list,
    n_max := PySem.W.mg_none_of X G z_max,
    n_min := PySem.W.mg_none_of X G z_min,
    n_range := PySem.W.mg_none_of X G z_range,
    n_repr := PySem.W.mg_none_of X G z_repr,
    n_set := PySem.W.mg_none_of X G z_set,
    n_sorted := PySem.W.mg_none_of X G z_sorted,
    n_tuple := PySem.W.mg_none_of X G z_tuple,
    t_MOST_ENDS := t_MOST_ENDS,
    c_MOST_ENDS := PySem.W.mg_of X G c_MOST_ENDS,
    t_MOST_EYE := t_MOST_EYE,
    c_MOST_EYE := PySem.W.mg_of X G c_MOST_EYE,
    t_MOST_SHAFT := t_MOST_SHAFT,
    c_MOST_SHAFT := PySem.W.mg_of X G c_MOST_SHAFT,
    t_MOST_THREAD := t_MOST_THREAD,
    c_MOST_THREAD := PySem.W.mg_of X G c_MOST_THREAD,
    C_BadThreaded := C_BadThreaded,
    x_BadThreaded := x_BadThreaded,
    g_BadThreaded := PySem.W.mg_of X G g_BadThreaded,
    k_BadThreaded := k_BadThreaded,
    s_BadThreaded := s_BadThreaded,
    y_BadThreaded := y_BadThreaded }
  exact ⟨⟨[], mg⟩, PySem.W.fnOf "law" "law" (defArgs s_law) (defBody s_law) (defScope s_law) .none kV18 dc18 pm18 an18 cd18 ct18, rfl, fun s v => .of_eq rfl, fun bs _ _ => @k_law ⟨[], mg⟩ P w K bs T⟩
end Pk55
open PySem PySem.W PyProof.Rows
set_option maxHeartbeats 0 in
theorem PySem.Challenge.cw_warpkeep_k55_eyes_doubled_and_empty_holds : PySem.Challenge.rw_warpkeep_k55_eyes_doubled_and_empty.Holds := by
  w_on; o_law; k_head; (case hw => w_witness2)
  k_fill
  refine DL.law_walk (l := PySem.Challenge.rw_warpkeep_k55_eyes_doubled_and_empty) (k := 9) (x := "_law_script") (F := Pk55.r_law) rfl rfl ⟨rfl, by decide, by decide⟩ (fun w h Y => PySem.W.kIn_of Y) ?F Pk55.law_true
  case F =>
    intro w mg fa h KX G hmg
    refine' Pk55.all_mk KX G hmg ?a0 ?l0 ?c0 ?k0 ?a1 ?l1 ?c1 ?k1 ?a2 ?l2 ?c2 ?k2 ?a3 ?l3 ?c3 ?k3 ?a4 ?l4 ?c4 ?k4 ?a5 ?l5 ?c5 ?k5 ?a6 ?l6 ?c6 ?k6 ?a7 ?l7 ?c7 ?k7 ?a8 ?l8 ?c8 ?k8 ?a9 ?l9 ?c9 ?k9 ?a10 ?l10 ?c10 ?k10 ?a11 ?l11 ?c11 ?k11 ?a12 ?l12 ?c12 ?k12 ?a13 ?l13 ?c13 ?k13 ?a14 ?l14 ?c14 ?k14 ?a15 ?l15 ?c15 ?k15 ?a16 ?l16 ?c16 ?k16 ?a17 ?l17 ?c17 ?k17 ?a18 ?l18 ?c18 ?k18 ?z_all ?z_bool ?z_enumerate ?z_int ?z_isinstance ?z_len ?z_list ?z_max ?z_min ?z_range ?z_repr ?z_set ?z_sorted ?z_tuple ?c_MOST_ENDS ?c_MOST_EYE ?c_MOST_SHAFT ?c_MOST_THREAD ?g_BadThreaded ?x_BadThreaded ?k_BadThreaded ?s_BadThreaded ?y_BadThreaded
    (case a0 => k_is)
    (case l0 => k_is)
    (case c0 => k_is)
    (case k0 => k_is)
    (case a1 => k_is)
    (case l1 => k_is)
    (case c1 => k_is)
    (case k1 => k_is)
    (case a2 => k_is)
    (case l2 => k_is)
    (case c2 => k_is)
    (case k2 => k_is)
    (case a3 => k_is)
    (case l3 => k_is)
    (case c3 => k_is)
    (case k3 => k_is)
    (case a4 => k_is)
    (case l4 => k_is)
    (case c4 => k_is)
    (case k4 => k_is)
    (case a5 => k_is)
    (case l5 => k_is)
    (case c5 => k_is)
    (case k5 => k_is)
    (case a6 => k_is)
    (case l6 => k_is)
    (case c6 => k_is)
    (case k6 => k_is)
    (case a7 => k_is)
    (case l7 => k_is)
    (case c7 => k_is)
    (case k7 => k_is)
    (case a8 => k_is)
    (case l8 => k_is)
    (case c8 => k_is)
    (case k8 => k_is)
    (case a9 => k_is)
    (case l9 => k_is)
    (case c9 => k_is)
    (case k9 => k_is)
    (case a10 => k_is)
    (case l10 => k_is)
    (case c10 => k_is)
    (case k10 => k_is)
    (case a11 => k_is)
    (case l11 => k_is)
    (case c11 => k_is)
    (case k11 => k_is)
    (case a12 => k_is)
    (case l12 => k_is)
    (case c12 => k_is)
    (case k12 => k_is)
    (case a13 => k_is)
    (case l13 => k_is)
    (case c13 => k_is)
    (case k13 => k_is)
    (case a14 => k_is)
    (case l14 => k_is)
    (case c14 => k_is)
    (case k14 => k_is)
    (case a15 => k_is)
    (case l15 => k_is)
    (case c15 => k_is)
    (case k15 => k_is)
    (case a16 => k_is)
    (case l16 => k_is)
    (case c16 => k_is)
    (case k16 => k_is)
    (case a17 => k_is)
    (case l17 => k_is)
    (case c17 => k_is)
    (case k17 => k_is)
    (case a18 => k_is)
    (case l18 => k_is)
    (case c18 => k_is)
    (case k18 => k_is)
    (case z_all => k_is)
    (case z_bool => k_is)
    (case z_enumerate => k_is)
    (case z_int => k_is)
    (case z_isinstance => k_is)
    (case z_len => k_is)
    (case z_list => k_is)
    (case z_max => k_is)
    (case z_min => k_is)
    (case z_range => k_is)
    (case z_repr => k_is)
    (case z_set => k_is)
    (case z_sorted => k_is)
    (case z_tuple => k_is)
    (case c_MOST_ENDS => k_is)
    (case c_MOST_EYE => k_is)
    (case c_MOST_SHAFT => k_is)
    (case c_MOST_THREAD => k_is)
    (case g_BadThreaded => k_is)
    (case x_BadThreaded => k_exc)
    (case k_BadThreaded => k_is)
    (case s_BadThreaded => k_is)
    (case y_BadThreaded => k_is)

