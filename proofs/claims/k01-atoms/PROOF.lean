import PyProof.Rows.All
import HandS.ForMost
import KE.KDictKeyed
import KE.KNest
import HandS.TupAny
import HandS.Wide
import HandS.ExcOwn
import HandS.ForExc
import PyProof.P3In
import PyProof.DictStraight
import PyProof.DictRoads
import PyProof.DictRoadsH
import KE.KDictLaw
import HandS.Deep
import KE.KEqNest
import PyProof.P3Eq
import PyProof.StrLawsOcc
import HandS.IsInst
import HandS.More
import KE.KDictOf
import HandS.TupLen
import KE.KDictWalk
import KE.GoesMore
import HandS.Zip
import HandS.AnyAll
import HandS.GenOver
import PyProof.GenQ
import HandS.GenList
import HandS.SetBool
import HandS.CallSlots
import HandS.Style
import HandS.DictComp
import PyProof.DictDisplay
import PyProof.DictTable
import HandS.HeadHook1
import HandS.ExcIs
import KE.KDictLaws
import HandS.TryOnly
import HandS.EndTab
import HandS.Words
import HandS.Head0
import HandS.Head1
import HandS.Head2
import HandS.HeadEnd
import HandS.HeadHook2
import HandS.HeadHook3
import HandS.HeadHook4
import HandS.HeadWalk
import HandS.NestedK
import Wide.All
import OpenK.AllK
import Wide.FinOn
import KE.KStateDown
import PySem.Challenge.RW_factbase_k01_atoms_and_what_they_fit
set_option Elab.async false
set_option linter.all false
/-! DA: values as trees, the store, the small language and its evaluator. -/
namespace D
open PySem L2

inductive Val where
  | non | bool (b : Bool) | int (i : Int) | str (x : List Char) | tup (vs : List Val) | loc (l : Nat) | cst (v : V)
inductive Cell where
  | lst (vs : List Val) | dict (kvs : List (Val × Val)) | set (vs : List Val) | inst (c : String) (fs : List (String × Val))

mutual
def Val.dec : (a b : Val) → Decidable (a = b)
  | .non, .non => .isTrue rfl
  | .bool a, .bool b => if h : a = b then .isTrue (h ▸ rfl) else .isFalse fun e => h (Val.bool.inj e)
  | .int a, .int b => if h : a = b then .isTrue (h ▸ rfl) else .isFalse fun e => h (Val.int.inj e)
  | .str a, .str b => if h : a = b then .isTrue (h ▸ rfl) else .isFalse fun e => h (Val.str.inj e)
  | .loc a, .loc b => if h : a = b then .isTrue (h ▸ rfl) else .isFalse fun e => h (Val.loc.inj e)
  | .cst a, .cst b => if h : a = b then .isTrue (h ▸ rfl) else .isFalse fun e => h (Val.cst.inj e)
  | .tup a, .tup b => match Val.decs a b with
    | .isTrue h => .isTrue (h ▸ rfl)
    | .isFalse h => .isFalse fun e => h (Val.tup.inj e)
  | .non, .bool _ | .non, .int _ | .non, .str _ | .non, .loc _ | .non, .cst _ | .non, .tup _ => .isFalse (fun e => nomatch e)
  | .bool _, .non | .bool _, .int _ | .bool _, .str _ | .bool _, .loc _ | .bool _, .cst _ | .bool _, .tup _ => .isFalse (fun e => nomatch e)
  | .int _, .non | .int _, .bool _ | .int _, .str _ | .int _, .loc _ | .int _, .cst _ | .int _, .tup _ => .isFalse (fun e => nomatch e)
  | .str _, .non | .str _, .bool _ | .str _, .int _ | .str _, .loc _ | .str _, .cst _ | .str _, .tup _ => .isFalse (fun e => nomatch e)
  | .loc _, .non | .loc _, .bool _ | .loc _, .int _ | .loc _, .str _ | .loc _, .cst _ | .loc _, .tup _ => .isFalse (fun e => nomatch e)
  | .cst _, .non | .cst _, .bool _ | .cst _, .int _ | .cst _, .str _ | .cst _, .loc _ | .cst _, .tup _ => .isFalse (fun e => nomatch e)
  | .tup _, .non | .tup _, .bool _ | .tup _, .int _ | .tup _, .str _ | .tup _, .loc _ | .tup _, .cst _ => .isFalse (fun e => nomatch e)
def Val.decs : (a b : List Val) → Decidable (a = b)
  | [], [] => .isTrue rfl
  | [], _ :: _ => .isFalse (fun e => nomatch e)
  | _ :: _, [] => .isFalse (fun e => nomatch e)
  | x :: a, y :: b => match Val.dec x y with
    | .isFalse h => .isFalse fun e => h (List.cons.inj e).1
    | .isTrue h => match Val.decs a b with
      | .isTrue h' => .isTrue (by rw [h, h'])
      | .isFalse h' => .isFalse fun e => h' (List.cons.inj e).2
end
instance : DecidableEq Val := Val.dec
def Cell.dec : (a b : Cell) → Decidable (a = b)
  | .lst a, .lst b => if h : a = b then .isTrue (h ▸ rfl) else .isFalse fun e => h (Cell.lst.inj e)
  | .dict a, .dict b => if h : a = b then .isTrue (h ▸ rfl) else .isFalse fun e => h (Cell.dict.inj e)
  | .set a, .set b => if h : a = b then .isTrue (h ▸ rfl) else .isFalse fun e => h (Cell.set.inj e)
  | .inst c fs, .inst d gs => if h : c = d ∧ fs = gs then .isTrue (by rw [h.1, h.2]) else .isFalse fun e => h (Cell.inst.inj e)
  | .lst _, .dict _ | .lst _, .set _ | .lst _, .inst _ _ | .dict _, .lst _ | .dict _, .set _ | .dict _, .inst _ _ => .isFalse (fun e => nomatch e)
  | .set _, .lst _ | .set _, .dict _ | .set _, .inst _ _ | .inst _ _, .lst _ | .inst _ _, .dict _ | .inst _ _, .set _ => .isFalse (fun e => nomatch e)
instance : DecidableEq Cell := Cell.dec
instance : Inhabited Val := ⟨.non⟩

/-- a text as the model has it -/
def sOf (x : List Char) : Str := ⟨(x.map Char.toNat).toArray⟩

/-! ### Python's == and < on trees -/
/-- a tree of None, bools, ints and texts, less than n deep -/
def Val.pureN : Nat → Val → Bool
  | _, .non | _, .bool _ | _, .int _ | _, .str _ => true
  | n + 1, .tup vs => vs.all (Val.pureN n)
  | _, _ => false
abbrev Val.pure (v : Val) : Bool := Val.pureN 60 v
mutual
def Val.eqv : Val → Val → Bool
  | .non, .non => true
  | .bool a, .bool b => a == b
  | .bool a, .int j => (if a then 1 else 0) == j
  | .int i, .bool b => i == (if b then 1 else 0)
  | .int a, .int b => a == b
  | .str a, .str b => a == b
  | .tup a, .tup b => Val.eqvs a b
  | _, _ => false
def Val.eqvs : List Val → List Val → Bool
  | [], [] => true
  | x :: a, y :: b => Val.eqv x y && Val.eqvs a b
  | _, _ => false
end
def Val.peq (a b : Val) : Option Bool := if a.pure && b.pure then some (a.eqv b) else none
def Val.peqs (a b : List Val) : Option Bool := if a.all (·.pure) && b.all (·.pure) then some (Val.eqvs a b) else none
def ltChars : List Char → List Char → Bool
  | [], [] => false
  | [], _ :: _ => true
  | _ :: _, [] => false
  | a :: r, b :: t => a.toNat < b.toNat || (a == b && ltChars r t)
mutual
/-- < where it is looked into: ints, texts, bools, tuples of such, alike in kind up to the first place that differs -/
def Val.plt : Val → Val → Option Bool
  | .int a, .int b => some (a < b)
  | .bool a, .bool b => some (!a && b)
  | .str a, .str b => some (ltChars a b)
  | .tup a, .tup b => Val.plts a b
  | _, _ => none
def Val.plts : List Val → List Val → Option Bool
  | [], [] => some false
  | [], _ :: _ => some true
  | _ :: _, [] => some false
  | x :: a, y :: b => if x.pure && y.pure then (if x.eqv y then Val.plts a b else Val.plt x y) else none
end

mutual
/-- without locations and constants -/
def Val.bd (n : Nat) : Val → Bool
  | .loc l => l < n
  | .tup vs => Val.bds n vs
  | _ => true
def Val.bds (n : Nat) : List Val → Bool
  | [] => true
  | v :: vs => Val.bd n v && Val.bds n vs
end
def Cell.bd (n : Nat) : Cell → Bool
  | .lst vs => Val.bds n vs
  | .dict kvs => kvs.all fun kv => kv.1.bd n && kv.2.bd n
  | .set vs => Val.bds n vs
  | .inst _ fs => fs.all fun f => f.2.bd n

abbrev Store := List Cell
/-- what an expression gives: a value, a new object of nobody's, the object that slot i owns -/
inductive EV where
  | v (x : Val) | t (c : Cell) | b (i : Nat) (c : Cell)
  deriving DecidableEq
/-- a slot: a value; an object that it owns, or (true) that is only lent to it, or locked while a loop walks it -/
inductive SV where
  | v (x : Val) | t (c : Cell) (k : Bool)
  deriving DecidableEq
abbrev Sl := List (Option SV)

inductive Res (α : Type) where
  | ok (a : α) (st : Store) | exc (c : String) (pl : List Val) (st : Store) | stuck
  deriving DecidableEq
def M (α : Type) := Store → Res α
def M.bind {α β : Type} (m : M α) (f : α → M β) : M β := fun st => match m st with
  | .ok a st' => f a st'
  | .exc c p st' => .exc c p st'
  | .stuck => .stuck
def M.pure {α : Type} (a : α) : M α := fun st => .ok a st
def M.stuck {α : Type} : M α := fun _ => .stuck
instance : Monad M where
  pure := M.pure
  bind := M.bind
theorem M.bind_eq {α β : Type} (m : M α) (f : α → M β) (st : Store) : (m >>= f) st = match m st with
  | .ok a st' => f a st'
  | .exc c p st' => .exc c p st'
  | .stuck => .stuck := rfl
theorem M.pure_eq {α : Type} (a : α) (st : Store) : (Pure.pure a : M α) st = .ok a st := rfl
theorem M.ret_eq {α : Type} (a : α) (st : Store) : (M.pure a : M α) st = .ok a st := rfl
def M.ofO {α : Type} : Option α → M α
  | some a => .pure a
  | none => .stuck

/-- given a place of its own -/
def intern : EV → M Val
  | .v x => .pure x
  | .t c => fun st => .ok (.loc st.length) (st ++ [c])
  | .b _ _ => .stuck
/-- the object read -/
def cellOf (st : Store) : EV → Option Cell
  | .v (.loc l) => st[l]?
  | .v _ => none
  | .t c => some c
  | .b _ c => some c

/-! ### the small language -/
inductive Bop where
  | add | sub | mul | fdiv | mod | bor | pow
  deriving DecidableEq
inductive Cop where
  | eq | ne | lt | le | gt | ge | mem | nmem | isN | notN
  deriving DecidableEq
inductive Bi where
  | len | tuple | list | sorted | dict | int | str | abs | min | max | sum | isStr | isTuple | min2 | max2
  deriving DecidableEq
inductive Mth where
  | append | extend | get | setdefault | pop | index | join | update | remove | count | split
  deriving DecidableEq

inductive T where
  | nm (i : Nat) | tup (ts : List T)

mutual
inductive E where
  | var (i : Nat) | con (v : Val) | glob (x : String) (v : Val)
  | tup (es : Es) | lst (es : Es) | dct (kvs : Es)
  | bin (o : Bop) (a b : E) | neg (a : E)
  | cmp (o : Cop) (a b : E) | chn (o p : Cop) (a b c : E)
  | and (a b : E) | or (a b : E) | not (a : E) | ite (c a b : E)
  | ix (a b : E) | sl (a : E) (lo hi : Oe)
  | call (f : String) (es : Es) (ds : List Val)
  | mk (c : String) (es : Es) (ds : List Val)
  | own (o : E) (m : String) (es : Es) (ds : List Val)
  | fld (o : E) (f : String)
  | bi (b : Bi) (es : Es)
  | mth (m : Mth) (o : E) (es : Es)
  | ofI (b : Bi) (i : I)
  | lc (own : List Nat) (t : T) (i : I) (c : Oe) (e : E)
  | sc (own : List Nat) (t : T) (i : I) (c : Oe) (e : E)
  | dc (own : List Nat) (t : T) (i : I) (c : Oe) (k e : E)
  | all (own : List Nat) (t : T) (i : I) (c : Oe) (e : E)
  | any (own : List Nat) (t : T) (i : I) (c : Oe) (e : E)
  | lc2 (own : List Nat) (t : T) (i : I) (t2 : T) (i2 : I) (c : Oe) (e : E)
inductive Es where
  | nil | cons (e : E) (es : Es) | lend (e : E) (es : Es)
inductive Oe where
  | none | some (e : E)
inductive I where
  | seq (e : E) | items (e : E) | enum (i : E) | zip (a b : E) | rng (e : E) | rng2 (a b : E) | rev (e : E)
end

mutual
inductive S where
  | asg (t : T) (e : E)
  | asg2 (t1 t2 : T) (a b : E)
  | asg3 (t1 t2 t3 : T) (a b c : E)
  | put (o i e : E)
  | fput (o : E) (f : String) (e : E)
  | sput (i : Nat) (k e : E)
  | app (i : Nat) (m : Mth) (e : E)
  | aug (i : Nat) (o : Bop) (e : E)
  | augi (o k : E) (p : Bop) (e : E)
  | ite (c : E) (a b : Ss)
  | for_ (t : T) (i : I) (b : Ss)
  | whl (c : E) (b : Ss)
  | ret (e : E) | retN
  | raise (c : String) (es : Es)
  | exp (e : E)
  | brk | cnt | pass
  | prom (i : Nat)
  | move (i j : Nat)
  | asgT2 (i j : Nat) (a b : E)
  | upd (j : Nat) (e : E)
  | tryR (b : Ss) (c : String) (cs no : List String) (v : Val)
inductive Ss where
  | nil | cons (s : S) (ss : Ss)
end

/-! ### values' operations -/
def LIM : Nat := 1000000
def cutL {α : Type} (xs : List α) (lo hi : Option Int) : List α :=
  (xs.drop (HT.sIx xs.length 0 lo)).take (HT.sIx xs.length xs.length hi - HT.sIx xs.length 0 lo)
def dlook (kvs : List (Val × Val)) (k : Val) : Option Val := (kvs.find? fun kv => kv.1 == k).map (·.2)
def dput (kvs : List (Val × Val)) (k v : Val) : List (Val × Val) :=
  if kvs.any (fun kv => kv.1 == k) then kvs.map (fun kv => if kv.1 == k then (kv.1, v) else kv) else kvs ++ [(k, v)]
def dout (kvs : List (Val × Val)) (k : Val) : List (Val × Val) := kvs.filter fun kv => !(kv.1 == k)
/-- a key of a dict as HandS has it -/
def Val.leaf : Val → Option Key
  | .int i => some (.inl i)
  | .str x => some (.inr (sOf x))
  | _ => none
mutual
/-- a key of tuples, nested below n deep -/
def Val.nk : Nat → Val → Option NestedKey
  | _, .non => some .none
  | _, .int i => some (.num i)
  | _, .str x => some (.text (sOf x))
  | n + 1, .tup vs => (Val.nks n vs).map .tup
  | _, _ => none
def Val.nks : Nat → List Val → Option (List NestedKey)
  | _, [] => some []
  | n, v :: vs => match Val.nk n v, Val.nks n vs with
    | some k, some ks => some (k :: ks)
    | _, _ => none
end
def Val.isTup : Val → Bool
  | .tup _ => true
  | _ => false
/-- a key that is looked into: a text, an int; a tuple of such and of None -/
def Val.key : Val → Bool
  | .str _ | .int _ => true
  | .tup vs => (Val.nk 8 (.tup vs)).isSome
  | _ => false
/-- the keys of a dict are all tuples, or none is -/
def dkOk (kvs : List (Val × Val)) (k : Val) : Bool := k.key && kvs.all fun kv => kv.1.isTup == k.isTup
/-- all keys are looked into, of one kind -/
def hom : List (Val × Val) → Bool
  | [] => true
  | kv :: r => dkOk r kv.1 && hom r
def ceq : Cell → Cell → Option Bool
  | .lst a, .lst b => if a.length = b.length then Val.peqs a b else some false
  | .dict a, .dict b => if hom a && hom b && a.all (fun kv => kv.2.pure) && b.all (fun kv => kv.2.pure) && (a.all (fun kv => !kv.1.isTup)) && (b.all (fun kv => !kv.1.isTup)) then
      some (a.length == b.length && a.all fun kv => match dlook b kv.1 with
        | none => false
        | some v => kv.2.eqv v) else none
  | _, _ => none
def isObj (st : Store) (x : EV) : Bool := (cellOf st x).isSome
def eqEV (st : Store) (x y : EV) : Option Bool :=
  match cellOf st x, cellOf st y with
  | some c, some d => ceq c d
  | none, none => (match x, y with
    | .v a, .v b => Val.peq a b
    | _, _ => none)
  | _, _ => none
/-- x in vs -/
def memL (x : Val) (vs : List Val) : Option Bool := if x.pure && vs.all (·.pure) then some (vs.any fun y => y.eqv x) else none
def memEV (st : Store) (x y : EV) : Option Bool :=
  match x, y with
  | .v (.str []), .v (.str b) => some true
  | .v (.str [c]), .v (.str b) => some (b.contains c)
  | .v a, .v (.tup vs) => memL a vs
  | .v a, y => (match cellOf st y with
    | some (.lst vs) => memL a vs
    | some (.dict kvs) => if dkOk kvs a then some (dlook kvs a).isSome else none
    | _ => none)
  | _, _ => none
def okInt (i j : Int) : Bool := decide (-(2 ^ 64) < i ∧ i < 2 ^ 64) || decide (-(2 ^ 64) < j ∧ j < 2 ^ 64)
def bop (o : Bop) (x y : EV) : M EV := fun st =>
  match o, x, y with
  | .add, .v (.int i), .v (.int j) => .ok (.v (.int (i + j))) st
  | .add, .v (.str a), .v (.str b) => if a.length + b.length ≤ LIM then .ok (.v (.str (a ++ b))) st else .stuck
  | .add, .v (.tup a), .v (.tup b) => if a.length + b.length ≤ LIM then .ok (.v (.tup (a ++ b))) st else .stuck
  | .sub, .v (.int i), .v (.int j) => .ok (.v (.int (i - j))) st
  | .mul, .v (.int i), .v (.int j) => if okInt i j then .ok (.v (.int (i * j))) st else .stuck
  | .fdiv, .v (.int i), .v (.int j) => if 0 < j ∧ j < 2 ^ 30 then .ok (.v (.int (Int.fdiv i j))) st else .stuck
  | .mod, .v (.int i), .v (.int j) => if 0 < j then .ok (.v (.int (Int.fmod i j))) st else .stuck
  | .pow, .v (.int i), .v (.int j) => if 0 ≤ j ∧ j ≤ 1000000 ∧ i.natAbs < 2 ^ 64 then .ok (.v (.int (i ^ j.toNat))) st else .stuck
  | .add, x, y => (match cellOf st x, cellOf st y with
    | some (.lst a), some (.lst b) => if a.length + b.length ≤ LIM then .ok (.t (.lst (a ++ b))) st else .stuck
    | _, _ => .stuck)
  | _, _, _ => .stuck
def cop (o : Cop) (x y : EV) : M Bool := fun st =>
  let of : Option Bool → Res Bool := fun r => match r with
    | some b => .ok b st
    | none => .stuck
  match o with
  | .eq => of (eqEV st x y)
  | .ne => of ((eqEV st x y).map (!·))
  | .mem => of (memEV st x y)
  | .nmem => of ((memEV st x y).map (!·))
  | .isN => (match x, y with
    | .v (.cst _), _ => .stuck
    | x, .v .non => .ok (decide (x = .v .non)) st
    | _, _ => .stuck)
  | .notN => (match x, y with
    | .v (.cst _), _ => .stuck
    | x, .v .non => .ok (!decide (x = .v .non)) st
    | _, _ => .stuck)
  | .lt => (match x, y with
    | .v (.int i), .v (.int j) => .ok (decide (i < j)) st
    | .v (.str a), .v (.str b) => .ok (ltChars a b) st
    | _, _ => .stuck)
  | .gt => (match x, y with
    | .v (.int i), .v (.int j) => .ok (decide (j < i)) st
    | _, _ => .stuck)
  | .le => (match x, y with
    | .v (.int i), .v (.int j) => .ok (decide (i ≤ j)) st
    | _, _ => .stuck)
  | .ge => (match x, y with
    | .v (.int i), .v (.int j) => .ok (decide (j ≤ i)) st
    | .v (.str a), .v (.str b) => .ok (!ltChars a b) st
    | _, _ => .stuck)
def ixOp (x y : EV) : M EV := fun st =>
  match x, y with
  | .v (.tup vs), .v (.int i) => (match atI vs i with
    | some v => .ok (.v v) st
    | none => .stuck)
  | .v (.str cs), .v (.int i) => if cs.length ≤ LIM then (match atI cs i with
    | some c => .ok (.v (.str [c])) st
    | none => .stuck) else .stuck
  | x, .v k => (match cellOf st x with
    | some (.lst vs) => (match k with
      | .int i => (match atI vs i with
        | some v => .ok (.v v) st
        | none => .stuck)
      | _ => .stuck)
    | some (.dict kvs) => if dkOk kvs k then (match dlook kvs k with
        | some v => .ok (.v v) st
        | none => .stuck) else .stuck
    | _ => .stuck)
  | _, _ => .stuck
def slOp (x : EV) (lo hi : Option Int) : M EV := fun st =>
  match x with
  | .v (.tup vs) => .ok (.v (.tup (cutL vs lo hi))) st
  | .v (.str cs) => if cs.length ≤ LIM then .ok (.v (.str (cutL cs lo hi))) st else .stuck
  | x => (match cellOf st x with
    | some (.lst vs) => .ok (.t (.lst (cutL vs lo hi))) st
    | _ => .stuck)
/-- what is walked -/
inductive Gd where
  | no | loc (l : Nat) (c : Cell) | slot (i : Nat) (c : Cell)
  deriving DecidableEq
def Gd.ok (ρ : Sl) (st : Store) : Gd → Bool
  | .no => true
  | .loc l c => decide (st[l]? = some c)
  | .slot _ _ => true
structure Src where
  vals : List Val
  gd : Gd
def cellVals : Cell → Option (List Val)
  | .lst vs => some vs
  | .dict kvs => some (kvs.map (·.1))
  | _ => none
def srcOf (x : EV) : M Src := fun st =>
  match x with
  | .v (.tup vs) => .ok ⟨vs, .no⟩ st
  | .v (.str cs) => .ok ⟨cs.map fun c => .str [c], .no⟩ st
  | .v (.loc l) => (match st[l]? with
    | some (.lst vs) => .ok ⟨vs, .loc l (.lst vs)⟩ st
    | _ => .stuck)
  | .v _ => .stuck
  | .t c => (match cellVals c with
    | some vs => .ok ⟨vs, .no⟩ st
    | none => .stuck)
  | .b i c => (match cellVals c with
    | some vs => .ok ⟨vs, .slot i c⟩ st
    | none => .stuck)
def itemsOf (x : EV) : M Src := fun st =>
  match x with
  | .t (.dict kvs) => .ok ⟨kvs.map fun kv => .tup [kv.1, kv.2], .no⟩ st
  | .b i (.dict kvs) => .ok ⟨kvs.map fun kv => .tup [kv.1, kv.2], .slot i (.dict kvs)⟩ st
  | _ => .stuck
def enumL : Nat → List Val → List Val
  | _, [] => []
  | k, v :: r => .tup [.int k, v] :: enumL (k + 1) r
def zipL : List Val → List Val → List Val
  | a :: r, b :: t => .tup [a, b] :: zipL r t
  | _, _ => []
def rngL (a : Int) : Nat → List Val
  | 0 => []
  | n + 1 => .int a :: rngL (a + 1) n

def enumOf (x : EV) : M Src := fun st =>
  match x with
  | .v (.tup vs) => .ok ⟨enumL 0 vs, .no⟩ st
  | .v (.loc l) => (match st[l]? with
    | some (.lst vs) => .ok ⟨enumL 0 vs, .loc l (.lst vs)⟩ st
    | _ => .stuck)
  | .t (.lst vs) => .ok ⟨enumL 0 vs, .no⟩ st
  | .b i (.lst vs) => .ok ⟨enumL 0 vs, .slot i (.lst vs)⟩ st
  | _ => .stuck
def zipOf (x y : EV) : M Src := fun st =>
  match x, y with
  | .v (.tup vs), .v (.tup ws) => .ok ⟨zipL vs ws, .no⟩ st
  | _, _ => .stuck
def rngOf (x : EV) : M Src := fun st =>
  match x with
  | .v (.int j) => if j < 2 ^ 30 ∧ -(2 ^ 30) < j then .ok ⟨rngL 0 j.toNat, .no⟩ st else .stuck
  | _ => .stuck

mutual
def assignT : T → Val → Sl → Option Sl
  | .nm i, v, ρ => if i < ρ.length then some (ρ.set i (some (.v v))) else none
  | .tup ts, .tup vs, ρ => assignTs ts vs ρ
  | .tup _, _, _ => none
def assignTs : List T → List Val → Sl → Option Sl
  | [], [], ρ => some ρ
  | t :: ts, v :: vs, ρ => (assignT t v ρ).bind (assignTs ts vs)
  | _, _, _ => none
end
def wipeS (ρ : Sl) : List Nat → Sl
  | [] => ρ
  | v :: vs => (wipeS ρ vs).set v none
def noexc {α : Type} (m : M α) : M α := fun st => match m st with
  | .exc _ _ _ => .stuck
  | r => r
/-- a list comprehension's walk -/
def compL {α : Type} (g : Store → Bool) (f : Val → M (Option α)) : List Val → M (List α)
  | [] => fun st => if g st then .ok [] st else .stuck
  | x :: xs => fun st => if g st then (match f x st with
      | .ok o st1 => (match compL g f xs st1 with
        | .ok r st2 => .ok (o.toList ++ r) st2
        | .exc _ _ _ => .stuck
        | .stuck => .stuck)
      | .exc _ _ _ => .stuck
      | .stuck => .stuck) else .stuck
/-- all, any: till the first b -/
def seekL (g : Store → Bool) (b : Bool) (f : Val → M (Option Bool)) : List Val → M Bool
  | [] => fun st => if g st then .ok (!b) st else .stuck
  | x :: xs => fun st => if g st then (match f x st with
      | .ok o st1 => if o = some b then .ok b st1 else seekL g b f xs st1
      | .exc _ _ _ => .stuck
      | .stuck => .stuck) else .stuck
def isB : EV → M Bool
  | .v (.bool b) => .pure b
  | _ => .stuck
def toDict : List Val → Option (List (Val × Val))
  | [] => some []
  | .tup [k, v] :: r => (toDict r).map ((k, v) :: ·)
  | _ => none
def mergeD (kvs more : List (Val × Val)) : List (Val × Val) := more.foldl (fun d kv => dput d kv.1 kv.2) kvs
def strOfInt (i : Int) : List Char := (toString i).toList
def joinS (sep : List Char) : List Val → Option (List Char)
  | [] => some []
  | .str x :: r => if r.isEmpty then some x else (joinS sep r).map fun y => x ++ sep ++ y
  | _ => none
/-- isinstance(x, str), isinstance(x, tuple) -/
def isiOp (str : Bool) (x : EV) : M EV := fun st => match x with
  | .v (.str _) => .ok (.v (.bool str)) st
  | .v (.tup _) => .ok (.v (.bool (!str))) st
  | .v .non | .v (.bool _) | .v (.int _) => .ok (.v (.bool false)) st
  | _ => .stuck
def biOp (b : Bi) (xs : List EV) : M EV := fun st =>
  match b, xs with
  | .len, [.v (.tup vs)] => .ok (.v (.int vs.length)) st
  | .len, [.v (.str cs)] => if cs.length ≤ LIM then .ok (.v (.int cs.length)) st else .stuck
  | .len, [x] => (match cellOf st x with
    | some (.lst vs) => .ok (.v (.int vs.length)) st
    | some (.dict kvs) => .ok (.v (.int kvs.length)) st
    | _ => .stuck)
  | .tuple, [x] => (match x, cellOf st x with
    | .v (.tup vs), _ => .ok (.v (.tup vs)) st
    | _, some (.lst vs) => .ok (.v (.tup vs)) st
    | _, _ => .stuck)
  | .list, [x] => (match x, cellOf st x with
    | .v (.tup vs), _ => .ok (.t (.lst vs)) st
    | _, some (.lst vs) => .ok (.t (.lst vs)) st
    | _, _ => .stuck)
  | .dict, [x] => (match cellOf st x with
    | some (.dict kvs) => if kvs.all fun kv => !kv.1.isTup then .ok (.t (.dict kvs)) st else .stuck
    | _ => .stuck)
  | .int, [.v (.int i)] => .ok (.v (.int i)) st
  | .int, [.v (.bool b)] => .ok (.v (.int (if b then 1 else 0))) st
  | .abs, [.v (.int i)] => .ok (.v (.int i.natAbs)) st
  | .isStr, [x] => isiOp true x st
  | .isTuple, [x] => isiOp false x st
  | _, _ => .stuck
def getOp (o : EV) (xs : List EV) : M EV := fun st => match xs with
  | [.v k, .v d] => (match cellOf st o with
    | some (.dict kvs) => if dkOk kvs k then .ok (.v ((dlook kvs k).getD d)) st else .stuck
    | _ => .stuck)
  | _ => .stuck
def seqVals (st : Store) : EV → Option (List Val)
  | .v (.tup vs) => some vs
  | x => match cellOf st x with
    | some (.lst vs) => some vs
    | _ => none
def joinOp (o : EV) (xs : List EV) : M EV := fun st => match o, xs with
  | .v (.str sep), [x] => (match seqVals st x with
    | some vs => (match joinS sep vs with
      | some r => if r.length + sep.length ≤ LIM then .ok (.v (.str r)) st else .stuck
      | none => .stuck)
    | none => .stuck)
  | _, _ => .stuck
def mthOp : Mth → EV → List EV → M EV
  | .get, o, xs => getOp o xs
  | .join, o, xs => joinOp o xs
  | _, _, _ => .stuck
/-- the kind of thing that a method is asked of, ahead of its arguments -/
def mthPre (m : Mth) (o : EV) : M Unit := fun st =>
  match m with
  | .get => (match cellOf st o with
    | some (.dict _) => .ok () st
    | _ => .stuck)
  | .join => (match o with
    | .v (.str _) => .ok () st
    | _ => .stuck)
  | _ => .stuck
def appOp (m : Mth) (c : Cell) (x : EV) (st : Store) : Option Cell :=
  match m, c, x with
  | .append, .lst vs, .v v => if vs.length < LIM then some (.lst (vs ++ [v])) else none
  | .extend, .lst vs, x => (match cellOf st x with
    | some (.lst ws) => if vs.length + ws.length ≤ LIM then some (.lst (vs ++ ws)) else none
    | _ => none)
  | .update, .dict kvs, x => (match cellOf st x with
    | some (.dict more) => if hom (kvs ++ more) && (kvs ++ more).all (fun kv => !kv.1.isTup) && decide (kvs.length + more.length ≤ LIM) then some (.dict (mergeD kvs more)) else none
    | _ => none)
  | _, _, _ => none
def putOp (c : Cell) (k : Val) (v : Val) : Option Cell :=
  match c, k with
  | .lst vs, .int i => (ixN vs.length i).map fun j => .lst (vs.set j v)
  | .dict kvs, k => if dkOk kvs k && decide (kvs.length < LIM) then some (.dict (dput kvs k v)) else none
  | _, _ => none

/-- the body of a walk: target, test, then what is made -/
def bodyM {β : Type} (t : T) (own : List Nat) (ρ : Sl) (ec : Sl → M Bool) (kt : Sl → M β) (kf : M β) (x : Val) : M β := do
  let ρ2 ← M.ofO (assignT t x (wipeS ρ own))
  let p ← ec ρ2
  if p then kt ρ2 else kf
def finL (vs : List Val) : M EV := if vs.length ≤ LIM then .pure (.t (.lst vs)) else .stuck
def finD (kvs : List (Val × Val)) : M EV := if hom kvs && decide (kvs.length ≤ LIM) then .pure (.t (.dict (mergeD [] kvs))) else .stuck
/-- a value made and given its place -/
def mkV (e : M EV) : M (Option Val) := do
  let y ← e
  let v ← intern y
  .pure (some v)
def mkKV (k e : M EV) : M (Option (Val × Val)) := do
  let k0 ← k
  let kv ← intern k0
  let y ← e
  let v ← intern y
  .pure (some (kv, v))
def mkB (e : M EV) : M (Option Bool) := do
  let y ← e
  let v ← isB y
  .pure (some v)
/-! ### the evaluator -/
structure Calls where
  fn : String → List SV → M EV
  scr : V → Option (List Int)
/-- a part of the script -/
def slOpS (scr : V → Option (List Int)) (x : EV) (lo hi : Option Int) : M EV := match x with
  | .v (.cst c) => (match scr c with
    | some ns => .pure (.t (.lst (cutL (ns.map Val.int) lo hi)))
    | none => .stuck)
  | x => slOp x lo hi
/-- an argument: given a place, or lent -/
def argOf (ln : Bool) : EV → M SV
  | .v x => .pure (.v x)
  | .b _ c => .pure (.t c true)
  | .t c => if ln then .pure (.t c true) else fun st => .ok (.v (.loc st.length)) (st ++ [c])
mutual
def evalE (Γ : Calls) : E → Sl → M EV
  | .var i, ρ => (match ρ[i]? with
    | some (some (.v v)) => .pure (.v v)
    | some (some (.t c _)) => .pure (.b i c)
    | _ => .stuck)
  | .con v, _ => .pure (.v v)
  | .glob _ v, _ => .pure (.v v)
  | .tup es, ρ => do let vs ← evalEs Γ es ρ; .pure (.v (.tup vs))
  | .lst es, ρ => do let vs ← evalEs Γ es ρ; .pure (.t (.lst vs))
  | .dct kvs, ρ => do
    let r ← evalKV Γ kvs ρ
    finD r
  | .bin o a b, ρ => do let x ← evalE Γ a ρ; let y ← evalE Γ b ρ; bop o x y
  | .neg a, ρ => do match ← evalE Γ a ρ with
    | .v (.int i) => .pure (.v (.int (-i)))
    | _ => .stuck
  | .cmp o a b, ρ => do let x ← evalE Γ a ρ; let y ← evalE Γ b ρ; let r ← cop o x y; .pure (.v (.bool r))
  | .chn o p a b c, ρ => do
    let x ← evalE Γ a ρ
    let y ← evalE Γ b ρ
    let r ← cop o x y
    if r then do
      let z ← evalE Γ c ρ
      let r2 ← cop p y z
      .pure (.v (.bool r2))
    else .pure (.v (.bool false))
  | .and a b, ρ => do
    let x ← evalE Γ a ρ
    let p ← isB x
    if p then do
      let y ← evalE Γ b ρ
      let q ← isB y
      .pure (.v (.bool q))
    else .pure (.v (.bool false))
  | .or a b, ρ => do
    let x ← evalE Γ a ρ
    let p ← isB x
    if p then .pure (.v (.bool true)) else do
      let y ← evalE Γ b ρ
      let q ← isB y
      .pure (.v (.bool q))
  | .not a, ρ => do let x ← evalE Γ a ρ; let p ← isB x; .pure (.v (.bool (!p)))
  | .ite c a b, ρ => do let x ← evalE Γ c ρ; let p ← isB x; if p then evalE Γ a ρ else evalE Γ b ρ
  | .ix a b, ρ => do let x ← evalE Γ a ρ; let y ← evalE Γ b ρ; ixOp x y
  | .sl a lo hi, ρ => do
    let x ← evalE Γ a ρ
    let l ← evalOi Γ lo ρ
    let h ← evalOi Γ hi ρ
    slOpS Γ.scr x l h
  | .call f es ds, ρ => do let vs ← evalAs Γ es ρ; Γ.fn f (vs ++ ds.map .v)
  | .bi b es, ρ => do let xs ← evalXs Γ es ρ; biOp b xs
  | .mth m o es, ρ => do let x ← evalE Γ o ρ; mthPre m x; let xs ← evalXs Γ es ρ; mthOp m x xs
  | .lc own t i c e, ρ => do
    let s ← evalI Γ i ρ
    let vs ← compL (fun st => s.gd.ok ρ st) (bodyM t own ρ (evalOc Γ c) (fun ρ2 => mkV (evalE Γ e ρ2)) (.pure none)) s.vals
    finL vs
  | .dc own t i c k e, ρ => do
    let s ← evalI Γ i ρ
    let kvs ← compL (fun st => s.gd.ok ρ st) (bodyM t own ρ (evalOc Γ c) (fun ρ2 => mkKV (evalE Γ k ρ2) (evalE Γ e ρ2)) (.pure none)) s.vals
    finD kvs
  | .all own t i c e, ρ => do
    let s ← evalI Γ i ρ
    let r ← seekL (fun st => s.gd.ok ρ st) false (bodyM t own ρ (evalOc Γ c) (fun ρ2 => mkB (evalE Γ e ρ2)) (.pure none)) s.vals
    .pure (.v (.bool r))
  | .any own t i c e, ρ => do
    let s ← evalI Γ i ρ
    let r ← seekL (fun st => s.gd.ok ρ st) true (bodyM t own ρ (evalOc Γ c) (fun ρ2 => mkB (evalE Γ e ρ2)) (.pure none)) s.vals
    .pure (.v (.bool r))
  | .lc2 own t i t2 i2 c e, ρ => do
    let s ← evalI Γ i ρ
    let vss ← compL (fun st => s.gd.ok ρ st) (fun x => do
      let ρ2 ← M.ofO (assignT t x (wipeS ρ own))
      let s2 ← evalI Γ i2 ρ2
      let vs ← compL (fun st => s2.gd.ok ρ2 st) (bodyM t2 [] ρ2 (evalOc Γ c) (fun ρ3 => mkV (evalE Γ e ρ3)) (.pure none)) s2.vals
      .pure (some vs)) s.vals
    finL vss.flatten
  | .sc .., _ | .ofI .., _ | .mk .., _ | .own .., _ | .fld .., _ => .stuck
/-- arguments, items of a display: each given its place at once -/
def evalEs (Γ : Calls) : Es → Sl → M (List Val)
  | .nil, _ => .pure []
  | .cons e es, ρ => do
    let x ← evalE Γ e ρ
    let v ← intern x
    let vs ← evalEs Γ es ρ
    .pure (v :: vs)
  | .lend _ _, _ => .stuck
/-- arguments of a call of one's own -/
def evalAs (Γ : Calls) : Es → Sl → M (List SV)
  | .nil, _ => .pure []
  | .cons e es, ρ => do
    let x ← evalE Γ e ρ
    let v ← argOf false x
    let vs ← evalAs Γ es ρ
    .pure (v :: vs)
  | .lend e es, ρ => do
    let x ← evalE Γ e ρ
    let v ← argOf true x
    let vs ← evalAs Γ es ρ
    .pure (v :: vs)
/-- arguments of what only reads them -/
def evalXs (Γ : Calls) : Es → Sl → M (List EV)
  | .nil, _ => .pure []
  | .cons e es, ρ => do
    let x ← evalE Γ e ρ
    let xs ← evalXs Γ es ρ
    .pure (x :: xs)
  | .lend _ _, _ => .stuck
def evalKV (Γ : Calls) : Es → Sl → M (List (Val × Val))
  | .nil, _ => .pure []
  | .cons k (.cons e es), ρ => do
    let x ← evalE Γ k ρ
    let xk ← intern x
    let y ← evalE Γ e ρ
    let v ← intern y
    let r ← evalKV Γ es ρ
    .pure ((xk, v) :: r)
  | _, _ => .stuck
def evalOi (Γ : Calls) : Oe → Sl → M (Option Int)
  | .none, _ => .pure none
  | .some e, ρ => do match ← evalE Γ e ρ with
    | .v (.int i) => .pure (some i)
    | _ => .stuck
def evalOc (Γ : Calls) : Oe → Sl → M Bool
  | .none, _ => .pure true
  | .some e, ρ => do let x ← evalE Γ e ρ; isB x
def evalI (Γ : Calls) : I → Sl → M Src
  | .seq e, ρ => do let x ← evalE Γ e ρ; srcOf x
  | .items e, ρ => do let x ← evalE Γ e ρ; itemsOf x
  | .enum e, ρ => do let x ← evalE Γ e ρ; enumOf x
  | .zip a b, ρ => do let x ← evalE Γ a ρ; let y ← evalE Γ b ρ; zipOf x y
  | .rng e, ρ => do let x ← evalE Γ e ρ; rngOf x
  | .rng2 .., _ | .rev .., _ => .stuck
end

/-! ### statements -/
inductive SRes where
  | nx (ρ : Sl) (st : Store) | rt (x : EV) (st : Store) | bk (ρ : Sl) (st : Store) | ct (ρ : Sl) (st : Store)
  | ex (c : String) (pl : List Val) (ρ : Sl) (st : Store) | stuck
  deriving DecidableEq
def toS {α : Type} (m : M α) (ρ : Sl) (k : α → Store → SRes) : Store → SRes := fun st => match m st with
  | .ok a st' => k a st'
  | .exc c p st' => .ex c p ρ st'
  | .stuck => .stuck
def forL (g : Gd) (body : Val → Sl → Store → SRes) : List Val → Sl → Store → SRes
  | [], ρ, st => if g.ok ρ st then .nx ρ st else .stuck
  | x :: xs, ρ, st => if g.ok ρ st then (match body x ρ st with
      | .nx ρ' st' => forL g body xs ρ' st'
      | .ct ρ' st' => forL g body xs ρ' st'
      | .bk ρ' st' => .nx ρ' st'
      | .rt x st' => .rt x st'
      | .ex c pl ρ' st' => .ex c pl ρ' st'
      | .stuck => .stuck) else .stuck
def whL (test : Sl → M Bool) (body : Sl → Store → SRes) : Nat → Sl → Store → SRes
  | 0, _, _ => .stuck
  | n + 1, ρ, st => toS (test ρ) ρ (fun b st1 => if b then (match body ρ st1 with
      | .nx ρ' st' => whL test body n ρ' st'
      | .ct ρ' st' => whL test body n ρ' st'
      | .bk ρ' st' => .nx ρ' st'
      | .rt x st' => .rt x st'
      | .ex c pl ρ' st' => .ex c pl ρ' st'
      | .stuck => .stuck) else .nx ρ st1) st
def WFUEL : Nat := 1000000000
def assign1 : T → EV → Sl → Option Sl
  | .nm i, .t c, ρ => if i < ρ.length then some (ρ.set i (some (.t c false))) else none
  | t, .v v, ρ => assignT t v ρ
  | _, _, _ => none
def assigns1 : List T → List EV → Sl → Option Sl
  | [], [], ρ => some ρ
  | t :: ts, x :: xs, ρ => (assign1 t x ρ).bind (assigns1 ts xs)
  | _, _, _ => none
def given (ρ : Sl) : EV → Option EV
  | .b i c => if ρ[i]? = some (some (.t c false)) then some (.t c) else none
  | x => some x
/-- locked for a loop; unlocked behind it -/
def lockS (g : Gd) (ρ : Sl) : Sl := match g with
  | .slot i c => if ρ[i]? = some (some (.t c false)) then ρ.set i (some (.t c true)) else ρ
  | _ => ρ
def unlockS (g : Gd) (ρ0 ρ : Sl) : Sl := match g with
  | .slot i c => if ρ0[i]? = some (some (.t c false)) ∧ ρ[i]? = some (some (.t c true)) then ρ.set i (some (.t c false)) else ρ
  | _ => ρ
def SRes.mapS (f : Sl → Sl) : SRes → SRes
  | .nx ρ st => .nx (f ρ) st
  | .rt x st => .rt x st
  | .bk ρ st => .bk (f ρ) st
  | .ct ρ st => .ct (f ρ) st
  | .ex c pl ρ st => .ex c pl (f ρ) st
  | .stuck => .stuck
/-! pieces of statements -/
def asgK (t : T) (ρ : Sl) (x : EV) (st : Store) : SRes := match assign1 t x ρ with
  | some ρ' => .nx ρ' st
  | none => .stuck
def asg2K (t1 t2 : T) (ρ : Sl) (p : EV × EV) (st : Store) : SRes := match assigns1 [t1, t2] [p.1, p.2] ρ with
  | some ρ' => .nx ρ' st
  | none => .stuck
def asg3K (t1 t2 t3 : T) (ρ : Sl) (p : EV × EV × EV) (st : Store) : SRes := match assigns1 [t1, t2, t3] [p.1, p.2.1, p.2.2] ρ with
  | some ρ' => .nx ρ' st
  | none => .stuck
def retK (ρ : Sl) (x : EV) (st : Store) : SRes := match given ρ x with
  | some y => .rt y st
  | none => .stuck
def seqS (a b : Sl → Store → SRes) : Sl → Store → SRes := fun ρ st => match a ρ st with
  | .nx ρ' st' => b ρ' st'
  | r => r
def promS (i : Nat) : Sl → Store → SRes := fun ρ => match ρ[i]? with
  | some (some (.t c false)) => fun st => .nx (ρ.set i (some (.v (.loc st.length)))) (st ++ [c])
  | _ => fun _ => .stuck
def forB (t : T) (body : Sl → Store → SRes) : Val → Sl → Store → SRes := fun x ρ1 st1 => match assignT t x ρ1 with
  | some ρ2 => body ρ2 st1
  | none => .stuck
def putKt (ρ : Sl) : Val × EV × Val → Store → SRes := fun (v, x, kv) st => (match x with
      | .v (.loc l) => (match (st[l]?).bind fun c => putOp c kv v with
        | some c => .nx ρ (st.set l c)
        | none => .stuck)
      | _ => .stuck)
def sputK (j : Nat) (c : Cell) (ρ : Sl) : Val × Val → Store → SRes := fun (v, kv) st => (match putOp c kv v with
        | some c' => .nx (ρ.set j (some (.t c' false))) st
        | none => .stuck)
def sputS (j : Nat) (g : Sl → M (Val × Val)) : Sl → Store → SRes := fun ρ => (match ρ[j]? with
      | some (some (.t c false)) => toS (g ρ) ρ (sputK j c ρ)
      | _ => fun _ => .stuck)
def kindOk : Mth → Cell → Bool
  | .append, .lst _ | .extend, .lst _ => true
  | .update, .dict _ => true
  | _, _ => false
def appK1 (j : Nat) (m : Mth) (c : Cell) (ρ : Sl) : EV → Store → SRes := fun x st => match appOp m c x st with
  | some c' => .nx (ρ.set j (some (.t c' false))) st
  | none => .stuck
def appK2 (l : Nat) (m : Mth) (ρ : Sl) : EV → Store → SRes := fun x st => match (st[l]?).bind fun c => appOp m c x st with
  | some c' => .nx ρ (st.set l c')
  | none => .stuck
def appA (m : Mth) (g : M EV) : M EV := match m with
  | .append => do
    let y ← g
    let v ← intern y
    .pure (.v v)
  | _ => g
def appS (j : Nat) (m : Mth) (g : Sl → M EV) : Sl → Store → SRes := fun ρ st => match ρ[j]? with
  | some (some (.t c false)) => if kindOk m c then toS (appA m (g ρ)) ρ (appK1 j m c ρ) st else .stuck
  | some (some (.v (.loc l))) => if (st[l]?).any (kindOk m) then toS (appA m (g ρ)) ρ (appK2 l m ρ) st else .stuck
  | _ => .stuck
def augS (i : Nat) (o : Bop) (g : Sl → M EV) : Sl → Store → SRes := fun ρ => match ρ[i]? with
    | some (some (.v (.int k))) => toS (do
        let y ← g ρ
        bop o (.v (.int k)) y) ρ fun x st => (match x with
        | .v w => .nx (ρ.set i (some (.v w))) st
        | _ => .stuck)
    | _ => fun _ => .stuck
def moveS (i j : Nat) : Sl → Store → SRes := fun ρ => (match ρ[j]? with
    | some (some (.t c false)) => fun st => .nx ((ρ.set j none).set i (some (.t c false))) st
    | _ => fun _ => .stuck)
/-- x.update(d) -/
def updK (j : Nat) (kvs : List (Val × Val)) (ρ : Sl) (x : EV) (st : Store) : SRes := match x with
  | .b _ _ => .stuck
  | x => (match appOp .update (.dict kvs) x st with
    | some c => .nx (ρ.set j (some (.t c false))) st
    | none => .stuck)
def updS (j : Nat) (g : Sl → M EV) : Sl → Store → SRes := fun ρ st => match ρ[j]? with
  | some (some (.t (.dict kvs) false)) => toS (g ρ) ρ (updK j kvs ρ) st
  | _ => .stuck
/-- try: .. except c: return v -/
def tryS (b : Sl → Store → SRes) (cs no : List String) (v : Val) : Sl → Store → SRes := fun ρ st => match b ρ st with
  | .ex c pl ρ' st' => if cs.contains c then .rt (.v v) st' else if no.contains c then .ex c pl ρ' st' else .stuck
  | r => r
mutual
def evalS (Γ : Calls) : S → Sl → Store → SRes
  | .asg t e, ρ => toS (evalE Γ e ρ) ρ (asgK t ρ)
  | .asg2 t1 t2 a b, ρ => toS (do let x ← evalE Γ a ρ; let y ← evalE Γ b ρ; .pure (x, y)) ρ (asg2K t1 t2 ρ)
  | .asg3 t1 t2 t3 a b c, ρ => toS (do let x ← evalE Γ a ρ; let y ← evalE Γ b ρ; let z ← evalE Γ c ρ; .pure (x, y, z)) ρ (asg3K t1 t2 t3 ρ)
  | .put o i e, ρ => toS (do
      let y ← evalE Γ e ρ
      let v ← intern y
      let x ← evalE Γ o ρ
      let k ← evalE Γ i ρ
      let kv ← intern k
      (.pure (v, x, kv) : M (Val × EV × Val))) ρ (putKt ρ)
  | .sput j i e, ρ => sputS j (fun ρ => do
      let y ← evalE Γ e ρ
      let v ← intern y
      let k ← evalE Γ i ρ
      let kv ← intern k
      (.pure (v, kv) : M (Val × Val))) ρ
  | .app j m e, ρ => appS j m (fun ρ => evalE Γ e ρ) ρ
  | .aug i o e, ρ => augS i o (fun ρ => evalE Γ e ρ) ρ
  | .ite c a b, ρ => toS (evalE Γ c ρ >>= isB) ρ fun p st => if p then evalSs Γ a ρ st else evalSs Γ b ρ st
  | .for_ t i b, ρ => toS (evalI Γ i ρ) ρ fun s st => (forL s.gd (forB t fun ρ2 st2 => evalSs Γ b ρ2 st2) s.vals (lockS s.gd ρ) st).mapS (unlockS s.gd ρ)
  | .whl c b, ρ => whL (fun ρ1 => evalE Γ c ρ1 >>= isB) (fun ρ1 st1 => evalSs Γ b ρ1 st1) WFUEL ρ
  | .ret e, ρ => toS (evalE Γ e ρ) ρ (retK ρ)
  | .retN, _ => fun st => .rt (.v .non) st
  | .raise c es, ρ => toS (evalEs Γ es ρ) ρ fun vs st => .ex c vs ρ st
  | .exp e, ρ => toS (evalE Γ e ρ) ρ fun _ st => .nx ρ st
  | .brk, ρ => fun st => .bk ρ st
  | .cnt, ρ => fun st => .ct ρ st
  | .pass, ρ => fun st => .nx ρ st
  | .prom i, ρ => promS i ρ
  | .move i j, ρ => moveS i j ρ
  | .upd j e, ρ => updS j (fun ρ => evalE Γ e ρ) ρ
  | .asgT2 i j a b, ρ => toS (do let x ← evalE Γ a ρ; let y ← evalE Γ b ρ; .pure (x, y)) ρ (asg2K (.nm i) (.nm j) ρ)
  | .tryR b _ cs no v, ρ => tryS (fun ρ1 st1 => evalSs Γ b ρ1 st1) cs no v ρ
  | .fput .., _ | .augi .., _ => fun _ => .stuck
def evalSs (Γ : Calls) : Ss → Sl → Store → SRes
  | .nil, ρ => fun st => .nx ρ st
  | .cons s ss, ρ => fun st => seqS (fun ρ1 st1 => evalS Γ s ρ1 st1) (fun ρ1 st1 => evalSs Γ ss ρ1 st1) ρ st
end

/-! ### defs -/
structure Fd where
  np : Nat
  ns : Nat
  body : Ss
abbrev Tab := List (String × Fd)
def gcOk (n : Nat) : Store → Store → Bool
  | [], _ => true
  | c :: r, c' :: r' => (c' == c || c'.bd n) && gcOk n r r'
  | _ :: _, [] => false
def Cell.flat : Cell → Bool
  | .inst _ _ => false
  | _ => true
def EV.bd (n : Nat) : EV → Bool
  | .v x => x.bd n
  | .t c => c.bd n
  | .b _ _ => false
/-- a new object that nobody else has -/
def liftN (n : Nat) (st : Store) : EV → EV
  | .v (.loc k) => if n ≤ k then (match st[k]? with
    | some c => if c.flat && c.bd n then .t c else .v (.loc k)
    | none => .v (.loc k)) else .v (.loc k)
  | x => x
def gc (st : Store) : Res EV → Res EV
  | .ok x st' => if st'.length ≤ st.length then .ok x st' else
      (if (liftN st.length st' x).bd st.length && gcOk st.length st st' then .ok (liftN st.length st' x) (st'.take st.length) else .ok x st')
  | .exc c pl st' => if st'.length ≤ st.length then .exc c pl st' else
      (if Val.bds st.length pl && gcOk st.length st st' then .exc c pl (st'.take st.length) else .exc c pl st')
  | .stuck => .stuck
def resOf : SRes → Res EV
  | .nx _ st => .ok (.v .non) st
  | .rt x st => .ok x st
  | .ex c pl _ st => .exc c pl st
  | _ => .stuck
def startS (vs : List SV) (n : Nat) : Sl := vs.map some ++ List.replicate (n - vs.length) none
def runF (scr : V → Option (List Int)) (Tb : Tab) : Nat → String → List SV → M EV
  | 0, _, _ => .stuck
  | d + 1, f, vs => fun st => match Tb.lookup f with
    | none => .stuck
    | some fd => if vs.length = fd.np ∧ fd.np ≤ fd.ns then gc st (resOf (evalSs ⟨runF scr Tb d, scr⟩ fd.body (startS vs fd.ns) st)) else .stuck
end D


set_option Elab.async false
set_option linter.all false
set_option maxHeartbeats 1000000
/-! DB: how trees and the store stand in HandS's heap. -/
namespace D
open PySem PySem.Spec PyProof.Rows L2

/-- not a code object's table (these grow) -/
def NoTbl : HO → Prop
  | .tbl _ => False
  | _ => True
class NoT (o : HO) : Prop where
  no : NoTbl o
instance (xs : List V) : NoT (.lst xs) := ⟨True.intro⟩
instance (xs : List V) : NoT (.tup xs) := ⟨True.intro⟩
instance (φ : Heap → Prop) : NoT (.ext φ) := ⟨True.intro⟩
instance (o : Obj) (u : HO) : NoT (.frz o u) := ⟨True.intro⟩
/-- a code object -/
def CodeO (oc : Obj) (c P : Addr) : Prop := ∀ h : Heap, h.get? c = some oc → PySem.W.CodeHd h c P
abbrev frzC (oc : Obj) : HO := .frz oc (.ext fun _ => True)
/-- a table: what it tells of stands -/
def TblOk (H : Hp) (ps : Array Value) : Prop := TriplesOk ps.toList ∧ ∀ pos cv, codeAmong pos ps.toList = some cv → ∃ c oc Pc q, cv = .ref c ∧ H c = some (frzC oc) ∧ CodeO oc c Pc ∧ H Pc = some (.tbl q)
theorem TblOk.stay {H H' : Hp} {ps : Array Value} (h : TblOk H ps) (k1 : ∀ c oc, H c = some (frzC oc) → H' c = some (frzC oc)) (k2 : ∀ c q, H c = some (.tbl q) → ∃ q', H' c = some (.tbl q')) : TblOk H' ps :=
  ⟨h.1, fun pos cv e => let ⟨c, oc, Pc, q, e1, e2, e3, e4⟩ := h.2 pos cv e; let ⟨q', e5⟩ := k2 Pc q e4; ⟨c, oc, Pc, q', e1, k1 c oc e2, e3, e5⟩⟩
/-- exactly this object -/
def AtO (a : Addr) (o : Obj) : HO := .ext fun h => h.get? a = some o
instance (a : Addr) (o : Obj) : NoT (AtO a o) := ⟨True.intro⟩
section
variable (P : Program) (w : World)
def DictAt (o : Obj) (vs : List (Key × Value)) : Prop :=
  ∃ es ep, o.ExactDict ∧ o.data = .dict es ep ∧ KeysOf (mixKind P w) es ∧ Pairs (mixKind P w) es.toList vs ∧ (vs.map (·.1)).Nodup
def DictAtH (o : Obj) (xs : List (NestedKey × Addr × Value)) : Prop :=
  ∃ es ep, o.ExactDict ∧ o.data = .dict es ep ∧ es.toList = xs.map (entryOfKey (nestedKind P w)) ∧ (xs.map (·.1)).Nodup
end
section
variable (K : PySem.W.Frag) (H : Hp) (m : Nat → Addr) (n : Nat)
mutual
def VRel : Val → V → Prop
  | .non, x => x = .non
  | .bool b, x => x = .bl b
  | .int i, x => x = .int i
  | .str s, x => x = .str (sOf s)
  | .tup vs, x => ∃ p ws, x = .ref p ∧ SqT K H p ws ∧ VRels vs ws
  | .loc l, x => l < n ∧ x = .ref (m l)
  | .cst c, x => x = c
def VRels : List Val → List V → Prop
  | [], ws => ws = []
  | v :: vs, ws => ∃ u us, ws = u :: us ∧ VRel v u ∧ VRels vs us
end
end
section
variable (P : Program) (w : World) (K : PySem.W.Frag) (H : Hp) (m : Nat → Addr) (n : Nat)
/-- texts and ints as keys -/
def DLeaf (kvs : List (Val × Val)) (o : Obj) : Prop :=
  ∃ (kv : List (Key × V)) (vs : List (Key × Value)), DictAt P w o vs ∧ KV kv vs ∧ Paired (fun (p : Val × Val) (q : Key × V) => p.1.leaf = some q.1 ∧ VRel K H m n p.2 q.2) kvs kv
/-- tuples as keys -/
def DTup (kvs : List (Val × Val)) (o : Obj) : Prop :=
  ∃ xs : List (NestedKey × Addr × Value), DictAtH P w o xs ∧
    Paired (fun (p : Val × Val) (x : NestedKey × Addr × Value) => p.1.isTup = true ∧ p.1.nk 8 = some x.1 ∧ VRel K H m n p.1 (.ref x.2.1) ∧ ∃ v, VRel K H m n p.2 v ∧ RelV v x.2.2) kvs xs
def CRel : Cell → Addr → Prop
  | .lst vs, a => ∃ ws, H a = some (.lst ws) ∧ VRels K H m n vs ws
  | .dict kvs, a => (a == sysModules) = false ∧ kvs.length ≤ sizeLine ∧ ∃ o, H a = some (AtO a o) ∧ (DLeaf P w K H m n kvs o ∨ DTup P w K H m n kvs o)
  | .set _, _ => False
  | .inst _ _, _ => False
structure HRel (st : Store) : Prop where
  cell : ∀ (l : Nat) (c : Cell), st[l]? = some c → CRel P w K H m st.length c (m l)
  inj : ∀ l l', l < st.length → l' < st.length → m l = m l' → l = l'
  tbl : ∀ a ps, H a = some (.tbl ps) → TblOk H ps
end

/-- tuples stay -/
def TupsK (H H' : Hp) : Prop := ∀ a xs, Rd H a (.tup xs) → Rd H' a (.tup xs)
section
variable {P : Program} {w : World} {K : PySem.W.Frag} {H H' : Hp} {m m' : Nat → Addr} {n n' : Nat}
theorem SqT.stay (t : TupsK H H') {a : Addr} {xs : List V} (h : SqT K H a xs) : SqT K H' a xs := h.imp (t a xs) id
mutual
theorem VRel.stay (t : TupsK H H') (hm : ∀ l, l < n → m' l = m l) (hn : n ≤ n') : ∀ {v : Val} {x : V}, VRel K H m n v x → VRel K H' m' n' v x
  | .non, _, h => h
  | .bool _, _, h => h
  | .int _, _, h => h
  | .str _, _, h => h
  | .cst _, _, h => h
  | .loc l, _, h => ⟨Nat.lt_of_lt_of_le h.1 hn, by rw [hm l h.1]; exact h.2⟩
  | .tup vs, _, h => let ⟨p, ws, e, s, r⟩ := h; ⟨p, ws, e, SqT.stay t s, VRels.stay t hm hn r⟩
theorem VRels.stay (t : TupsK H H') (hm : ∀ l, l < n → m' l = m l) (hn : n ≤ n') : ∀ {vs : List Val} {ws : List V}, VRels K H m n vs ws → VRels K H' m' n' vs ws
  | [], _, h => h
  | _ :: _, _, h => let ⟨u, us, e, r, rs⟩ := h; ⟨u, us, e, VRel.stay t hm hn r, VRels.stay t hm hn rs⟩
end
mutual
/-- what is below n knows no place from n on -/
theorem VRel.down : ∀ {v : Val} {x : V}, v.bd n = true → VRel K H m n' v x → VRel K H m n v x
  | .non, _, _, h => h
  | .bool _, _, _, h => h
  | .int _, _, _, h => h
  | .str _, _, _, h => h
  | .cst _, _, _, h => h
  | .loc l, _, b, h => ⟨by simpa [Val.bd] using b, h.2⟩
  | .tup vs, _, b, h => let ⟨p, ws, e, s, r⟩ := h; ⟨p, ws, e, s, VRels.down (by simpa [Val.bd] using b) r⟩
theorem VRels.down : ∀ {vs : List Val} {ws : List V}, Val.bds n vs = true → VRels K H m n' vs ws → VRels K H m n vs ws
  | [], _, _, h => h
  | _ :: _, _, b, h => by
    obtain ⟨u, us, e, r, rs⟩ := h
    simp only [Val.bds, Bool.and_eq_true] at b
    exact ⟨u, us, e, VRel.down b.1 r, VRels.down b.2 rs⟩
end
theorem VRels.length : ∀ {vs : List Val} {ws : List V}, VRels K H m n vs ws → vs.length = ws.length
  | [], _, h => by cases h; rfl
  | _ :: _, _, h => by obtain ⟨u, us, rfl, r, rs⟩ := h; simp [VRels.length rs]
theorem VRels.get : ∀ {vs : List Val} {ws : List V} {i : Nat} {v : Val}, VRels K H m n vs ws → vs[i]? = some v → ∃ x, ws[i]? = some x ∧ VRel K H m n v x
  | [], _, _, _, _, e => by simp at e
  | _ :: _, _, 0, _, h, e => by obtain ⟨u, us, rfl, r, rs⟩ := h; simp at e; subst e; exact ⟨u, rfl, r⟩
  | _ :: _, _, i + 1, v, h, e => by obtain ⟨u, us, rfl, r, rs⟩ := h; obtain ⟨x, h1, h2⟩ := VRels.get (i := i) rs (by simpa using e); exact ⟨x, by simpa using h1, h2⟩
theorem VRels.append : ∀ {vs us : List Val} {ws xs : List V}, VRels K H m n vs ws → VRels K H m n us xs → VRels K H m n (vs ++ us) (ws ++ xs)
  | [], _, _, _, h, g => by cases h; exact g
  | _ :: _, _, _, _, h, g => by obtain ⟨u, us, rfl, r, rs⟩ := h; exact ⟨u, _, rfl, r, VRels.append rs g⟩
theorem VRels.one {v : Val} {x : V} (h : VRel K H m n v x) : VRels K H m n [v] [x] := ⟨x, [], rfl, h, rfl⟩
theorem VRels.drop : ∀ {vs : List Val} {ws : List V} (k : Nat), VRels K H m n vs ws → VRels K H m n (vs.drop k) (ws.drop k)
  | _, _, 0, h => h
  | [], _, _ + 1, h => by cases h; exact rfl
  | _ :: _, _, k + 1, h => by obtain ⟨u, us, rfl, r, rs⟩ := h; exact VRels.drop k rs
theorem VRels.take : ∀ {vs : List Val} {ws : List V} (k : Nat), VRels K H m n vs ws → VRels K H m n (vs.take k) (ws.take k)
  | _, _, 0, h => rfl
  | [], _, _ + 1, h => by cases h; exact rfl
  | _ :: _, _, k + 1, h => by obtain ⟨u, us, rfl, r, rs⟩ := h; exact ⟨u, _, rfl, r, VRels.take k rs⟩
theorem VRels.set : ∀ {vs : List Val} {ws : List V} (k : Nat) {v : Val} {x : V}, VRels K H m n vs ws → VRel K H m n v x → VRels K H m n (vs.set k v) (ws.set k x)
  | [], _, _, _, _, h, _ => by cases h; exact rfl
  | _ :: _, _, 0, _, _, h, g => by obtain ⟨u, us, rfl, r, rs⟩ := h; exact ⟨_, us, rfl, g, rs⟩
  | _ :: _, _, k + 1, _, _, h, g => by obtain ⟨u, us, rfl, r, rs⟩ := h; exact ⟨u, _, rfl, r, VRels.set k rs g⟩
theorem DLeaf.stay (t : TupsK H H') (hm : ∀ l, l < n → m' l = m l) (hn : n ≤ n') {kvs : List (Val × Val)} {o : Obj} (h : DLeaf P w K H m n kvs o) : DLeaf P w K H' m' n' kvs o := by
  obtain ⟨kv, vs, d, r, p⟩ := h
  exact ⟨kv, vs, d, r, Paired.mapP p fun x y z => ⟨z.1, z.2.stay t hm hn⟩⟩
theorem DTup.stay (t : TupsK H H') (hm : ∀ l, l < n → m' l = m l) (hn : n ≤ n') {kvs : List (Val × Val)} {o : Obj} (h : DTup P w K H m n kvs o) : DTup P w K H' m' n' kvs o := by
  obtain ⟨xs, d, p⟩ := h
  exact ⟨xs, d, Paired.mapP p fun x y ⟨z1, z2, z3, v, z4, z5⟩ => ⟨z1, z2, z3.stay t hm hn, v, z4.stay t hm hn, z5⟩⟩
theorem CRel.stay (t : TupsK H H') (hm : ∀ l, l < n → m' l = m l) (hn : n ≤ n') {c : Cell} {a : Addr} (ha : ∀ o, H a = some o → H' a = some o) (h : CRel P w K H m n c a) : CRel P w K H' m' n' c a := by
  cases c with
  | lst vs => obtain ⟨ws, e, r⟩ := h; exact ⟨ws, ha _ e, r.stay t hm hn⟩
  | dict kvs =>
    obtain ⟨h1, h2, o, e, r⟩ := h
    exact ⟨h1, h2, o, ha _ e, r.imp (fun z => z.stay t hm hn) (fun z => z.stay t hm hn)⟩
  | set _ => exact h
  | inst _ _ => exact h
theorem CRel.some {c : Cell} {a : Addr} (h : CRel P w K H m n c a) : ∃ o, H a = some o ∧ NoTbl o ∧ (∀ oc u, o ≠ .frz oc u) ∧ ∀ xs, ¬ Rd H a (.tup xs) := by
  cases c with
  | lst vs =>
    obtain ⟨ws, e, r⟩ := h
    refine ⟨_, e, True.intro, (fun _ _ z => nomatch z), fun xs r => ?_⟩
    rcases r with r | ⟨o, r⟩ <;> rw [e] at r <;> cases r
  | dict kvs =>
    obtain ⟨h1, h2, o, e, r⟩ := h
    refine ⟨_, e, True.intro, (fun _ _ z => nomatch z), fun xs r => ?_⟩
    rcases r with r | ⟨o, r⟩ <;> rw [e] at r <;> cases r
  | set _ => exact h.elim
  | inst _ _ => exact h.elim
theorem CRel.mut {c : Cell} {a : Addr} (h : CRel P w K H m n c a) : Mut (H a) := by
  cases c with
  | lst vs => obtain ⟨ws, e, r⟩ := h; rw [e]; exact True.intro
  | dict kvs => obtain ⟨h1, h2, o, e, r⟩ := h; rw [e]; exact True.intro
  | set _ => exact h.elim
  | inst _ _ => exact h.elim
/-- what is below n -/
theorem CRel.down {c : Cell} {a : Addr} (b : c.bd n = true) (h : CRel P w K H m n' c a) : CRel P w K H m n c a := by
  have key : ∀ {kvs : List (Val × Val)}, (kvs.all fun kv => kv.1.bd n && kv.2.bd n) = true → ∀ p ∈ kvs, p.1.bd n = true ∧ p.2.bd n = true := fun hb p hp => by
    have := List.all_eq_true.mp hb p hp
    simpa using this
  have pm : ∀ {α : Type} {F G : Val × Val → α → Prop} {l₁ : List (Val × Val)} {l₂ : List α}, Paired F l₁ l₂ → (∀ p ∈ l₁, ∀ q, F p q → G p q) → Paired G l₁ l₂ := by
    intro α F G l₁ l₂ r
    induction r with
    | nil => intro _; exact .nil
    | cons r _ ih => intro f; exact .cons (f _ List.mem_cons_self _ r) (ih fun p hp q => f p (List.mem_cons_of_mem _ hp) q)
  cases c with
  | lst vs => obtain ⟨ws, e, r⟩ := h; exact ⟨ws, e, r.down b⟩
  | dict kvs =>
    obtain ⟨h1, h2, o, e, r⟩ := h
    refine ⟨h1, h2, o, e, r.imp (fun ⟨kv, vs, d, q, p⟩ => ⟨kv, vs, d, q, pm p fun x hx y z => ⟨z.1, z.2.down (key b x hx).2⟩⟩)
      (fun ⟨xs, d, p⟩ => ⟨xs, d, pm p fun x hx y ⟨z1, z2, z3, v, z4, z5⟩ => ⟨z1, z2, z3.down (key b x hx).1, v, z4.down (key b x hx).2, z5⟩⟩)⟩
  | set _ => exact h.elim
  | inst _ _ => exact h.elim
end

/-- from one heap to the next, where only the store is written -/
structure Step (m : Nat → Addr) (n : Nat) (H : Hp) (m' : Nat → Addr) (n' : Nat) (H' : Hp) : Prop where
  le : n ≤ n'
  agree : ∀ l, l < n → m' l = m l
  keep : ∀ a o, H a = some o → NoTbl o → (∀ l, l < n → m l ≠ a) → H' a = some o
  fresh : ∀ l, n ≤ l → l < n' → ∀ o, H (m' l) = some o → ¬ NoTbl o
theorem Step.refl (m : Nat → Addr) (n : Nat) (H : Hp) : Step m n H m n H := ⟨Nat.le_refl _, fun _ _ => rfl, fun _ _ e _ _ => e, fun l h1 h2 => absurd (Nat.lt_of_lt_of_le h2 h1) (Nat.lt_irrefl _)⟩
section
variable {P : Program} {w : World} {K : PySem.W.Frag} {H H' H1 H2 : Hp} {m m' m1 m2 : Nat → Addr} {n n' n1 n2 : Nat} {st st' : Store}
theorem HRel.dom (h : HRel P w K H m st) {l : Nat} (hl : l < st.length) : ∃ c, st[l]? = some c ∧ CRel P w K H m st.length c (m l) := ⟨st[l], List.getElem?_eq_getElem hl, h.cell l _ (List.getElem?_eq_getElem hl)⟩
theorem HRel.notTup (h : HRel P w K H m st) {a : Addr} {xs : List V} (r : Rd H a (.tup xs)) : ∀ l, l < st.length → m l ≠ a := fun l hl e => by
  obtain ⟨c, _, hc⟩ := h.dom hl
  obtain ⟨_, _, _, _, ht⟩ := hc.some
  exact ht xs (e ▸ r)
theorem HRel.notFrz (h : HRel P w K H m st) {a : Addr} {oc : Obj} {u : HO} (e : H a = some (.frz oc u)) : ∀ l, l < st.length → m l ≠ a := fun l hl q => by
  obtain ⟨c, _, hc⟩ := h.dom hl
  obtain ⟨o, e2, _, hf, _⟩ := hc.some
  rw [q, e] at e2
  exact hf _ _ (Option.some.inj e2).symm
theorem HRel.notTbl (h : HRel P w K H m st) {a : Addr} {ps : Array Value} (e : H a = some (.tbl ps)) : ∀ l, l < st.length → m l ≠ a := fun l hl q => by
  obtain ⟨c, _, hc⟩ := h.dom hl
  obtain ⟨o, e2, hf, _⟩ := hc.some
  rw [q, e] at e2
  cases e2
  exact hf
theorem Step.tups (s : Step m st.length H m' n' H') (h : HRel P w K H m st) : TupsK H H' := fun a xs r => by
  have q := h.notTup r
  rcases r with r | ⟨o, r⟩
  · exact .inl (s.keep a _ r True.intro q)
  · exact .inr ⟨o, s.keep a _ r True.intro q⟩
theorem Step.out (s : Step m n H m' n' H') {a : Addr} {o : HO} (e : H a = some o) (t : NoTbl o) (h : ∀ l, l < n → m l ≠ a) : ∀ l, l < n' → m' l ≠ a := fun l hl q => by
  by_cases hl' : l < n
  · exact h l hl' ((s.agree l hl').symm.trans q)
  · exact s.fresh l (Nat.le_of_not_lt hl') hl o (by rw [q]; exact e) t
theorem HRel.domAll (h : HRel P w K H m st) : ∀ l, l < st.length → ∃ o, H (m l) = some o ∧ NoTbl o := fun l hl => by
  obtain ⟨c, _, hc⟩ := h.dom hl
  obtain ⟨o, e, t, _⟩ := hc.some
  exact ⟨o, e, t⟩
end

/-! ### what must stay -/
/-- the next heap: B stays, new places are none of B's -/
structure Nx (B : Hp) (m : Nat → Addr) (n : Nat) (m' : Nat → Addr) (n' : Nat) (H' : Hp) : Prop where
  le : n ≤ n'
  agree : ∀ l, l < n → m' l = m l
  keep : ∀ a o, B a = some o → H' a = some o
  fresh : ∀ l, n ≤ l → l < n' → B (m' l) = none
structure Bs (B : Hp) (m : Nat → Addr) (n : Nat) (H : Hp) : Prop where
  sub : ∀ a o, B a = some o → H a = some o
  out : ∀ l, l < n → B (m l) = none
  tb : ∀ a o, B a = some o → NoTbl o
open Classical in
/-- all but the store and the tables -/
noncomputable def outB (H : Hp) (m : Nat → Addr) (n : Nat) : Hp := fun a => if (∃ l, l < n ∧ m l = a) ∨ ∃ o, H a = some o ∧ ¬ NoTbl o then none else H a
theorem outB_some {H : Hp} {m : Nat → Addr} {n : Nat} {a : Addr} {o : HO} : outB H m n a = some o ↔ H a = some o ∧ NoTbl o ∧ ∀ l, l < n → m l ≠ a := by
  unfold outB
  split
  · rename_i h
    refine ⟨fun e => (nomatch e), fun e => ?_⟩
    rcases h with ⟨l, h1, h2⟩ | ⟨o', h1, h2⟩
    · exact absurd h2 (e.2.2 l h1)
    · rw [e.1] at h1
      cases h1
      exact absurd e.2.1 h2
  · rename_i h
    exact ⟨fun e => ⟨e, Classical.byContradiction fun z => h (.inr ⟨o, e, z⟩), fun l h1 h2 => h (.inl ⟨l, h1, h2⟩)⟩, fun e => e.1⟩
theorem outB_none {H : Hp} {m : Nat → Addr} {n : Nat} {a : Addr} : outB H m n a = none ↔ H a = none ∨ (∃ l, l < n ∧ m l = a) ∨ ∃ o, H a = some o ∧ ¬ NoTbl o := by
  unfold outB
  split
  · rename_i h; exact ⟨fun _ => .inr h, fun _ => rfl⟩
  · rename_i h; exact ⟨fun e => .inl e, fun e => e.elim id fun z => absurd z h⟩
theorem bs_out (H : Hp) (m : Nat → Addr) (n : Nat) : Bs (outB H m n) m n H := ⟨fun _ _ e => (outB_some.mp e).1, fun l h => outB_none.mpr (.inr (.inl ⟨l, h, rfl⟩)), fun _ _ e => (outB_some.mp e).2.1⟩
section
variable {P : Program} {w : World} {K : PySem.W.Frag} {H H' H1 H2 B : Hp} {m m' m1 m2 : Nat → Addr} {n n' n1 n2 : Nat} {st st' : Store}
theorem Bs.le_out (b : Bs B m n H) : ∀ a o, B a = some o → outB H m n a = some o := fun a o e => outB_some.mpr ⟨b.sub a o e, b.tb a o e, fun l hl q => by
  have := b.out l hl
  rw [q, e] at this; cases this⟩
theorem Nx.step (x : Nx (outB H m st.length) m st.length m' st'.length H') (h' : HRel P w K H' m' st') : Step m st.length H m' st'.length H' where
  le := x.le
  agree := x.agree
  keep := fun a o e t hn => x.keep a o (outB_some.mpr ⟨e, t, hn⟩)
  fresh := fun l h1 h2 o e t => by
    rcases outB_none.mp (x.fresh l h1 h2) with z | ⟨k, hk, e'⟩ | ⟨o', h3, h4⟩
    · rw [z] at e; cases e
    · have := h'.inj k l (Nat.lt_of_lt_of_le hk x.le) h2 ((x.agree k hk).trans e')
      omega
    · rw [e] at h3
      cases h3
      exact h4 t
theorem Step.nx (s : Step m n H m' n' H') : Nx (outB H m n) m n m' n' H' := ⟨s.le, s.agree, fun a o e => let ⟨h1, t, h2⟩ := outB_some.mp e; s.keep a o h1 t h2, fun l h1 h2 => by
  cases q : H (m' l) with
  | none => exact outB_none.mpr (.inl q)
  | some o => exact outB_none.mpr (.inr (.inr ⟨o, q, s.fresh l h1 h2 o q⟩))⟩
theorem Nx.refl (b : Bs B m n H) : Nx B m n m n H := ⟨Nat.le_refl _, fun _ _ => rfl, b.sub, fun l h1 h2 => absurd (Nat.lt_of_lt_of_le h2 h1) (Nat.lt_irrefl _)⟩
theorem Nx.bs (x : Nx B m n m' n' H') (b : Bs B m n H) : Bs B m' n' H' := ⟨x.keep, fun l hl => by
  by_cases h : l < n
  · rw [x.agree l h]; exact b.out l h
  · exact x.fresh l (Nat.le_of_not_lt h) hl, b.tb⟩
theorem Nx.trans {C : Hp} (x : Nx B m n m1 n1 H1) (y : Nx C m1 n1 m2 n2 H2) (hc : ∀ a o, B a = some o → C a = some o) : Nx B m n m2 n2 H2 where
  le := Nat.le_trans x.le y.le
  agree := fun l hl => (y.agree l (Nat.lt_of_lt_of_le hl x.le)).trans (x.agree l hl)
  keep := fun a o e => y.keep a o (hc a o e)
  fresh := fun l h1 h2 => by
    by_cases h : l < n1
    · rw [y.agree l h]; exact x.fresh l h1 h
    · have := y.fresh l (Nat.le_of_not_lt h) h2
      cases e : B (m2 l) with
      | none => rfl
      | some o => rw [hc _ _ e] at this; cases this
/-- a new object -/
theorem HRel.alloc (h : HRel P w K H m st) {p : Addr} (hp : H p = none) (o : HO) [ho : NoT o] : HRel P w K (upd H p o) m st := by
  have t : TupsK H (upd H p o) := fun a xs r => by
    rcases r with r | ⟨u, r⟩
    · exact .inl (by rw [upd_ne (ne_of_none r hp)]; exact r)
    · exact .inr ⟨u, by rw [upd_ne (ne_of_none r hp)]; exact r⟩
  exact ⟨fun l c e => (h.cell l c e).stay t (fun _ _ => rfl) (Nat.le_refl _) fun u e => by rw [upd_ne (ne_of_none e hp)]; exact e, h.inj, fun a ps e => by
    by_cases ha : a = p
    · rw [ha, upd_same] at e
      cases e
      exact ho.no.elim
    · rw [upd_ne ha] at e
      exact (h.tbl a ps e).stay (fun c oc q => by rw [upd_ne (ne_of_none q hp)]; exact q) fun c q e => ⟨q, by rw [upd_ne (ne_of_none e hp)]; exact e⟩⟩
theorem nx_alloc (b : Bs B m n H) {p : Addr} (hp : H p = none) (o : HO) : Nx B m n m n (upd H p o) :=
  ⟨Nat.le_refl _, fun _ _ => rfl, fun a u e => by rw [upd_ne (ne_of_none (b.sub a u e) hp)]; exact b.sub a u e, fun l h1 h2 => absurd (Nat.lt_of_lt_of_le h2 h1) (Nat.lt_irrefl _)⟩
theorem tups_alloc {p : Addr} (hp : H p = none) (o : HO) : TupsK H (upd H p o) := fun a xs r => by
  rcases r with r | ⟨u, r⟩
  · exact .inl (by rw [upd_ne (ne_of_none r hp)]; exact r)
  · exact .inr ⟨u, by rw [upd_ne (ne_of_none r hp)]; exact r⟩
end

/-! the slots -/
section
variable (P : Program) (w : World) (K : PySem.W.Frag) (H : Hp) (m : Nat → Addr) (n : Nat)
def SVRel : SV → V → Prop
  | .v v, x => VRel K H m n v x
  | .t c _, x => ∃ a, x = .ref a ∧ CRel P w K H m n c a ∧ ∀ l, l < n → m l ≠ a
structure SlRel (ρ : Sl) (σ : L2.St) : Prop where
  get : ∀ (i : Nat) (x : SV), ρ[i]? = some (some x) → ∃ v, σ[i]? = some (some v) ∧ SVRel P w K H m n x v
  own : ∀ (i j : Nat) (c d : Cell) (k : Bool) (v : V), ρ[i]? = some (some (.t c false)) → ρ[j]? = some (some (.t d k)) → σ[i]? = some (some v) → σ[j]? = some (some v) → i = j
  len : ρ.length = σ.length
structure Sim (ρ : Sl) (st : Store) (σ : L2.St) : Prop where
  heap : HRel P w K H m st
  slot : SlRel P w K H m st.length ρ σ
/-- what an expression has given; B: what stays -/
def EVRel (B : Hp) (ρ : Sl) (σ : L2.St) : EV → V → Prop
  | .v v, x => VRel K H m n v x
  | .t c, x => ∃ a, x = .ref a ∧ CRel P w K H m n c a ∧ (∀ l, l < n → m l ≠ a) ∧ B a = none
  | .b i c, x => (∃ k, ρ[i]? = some (some (.t c k))) ∧ σ[i]? = some (some x)
end
section
variable {P : Program} {w : World} {K : PySem.W.Frag} {H H' B B' : Hp} {m m' : Nat → Addr} {n n' : Nat} {st st' : Store} {ρ : Sl} {σ : L2.St}
theorem SVRel.step (h : HRel P w K H m st) (s : Step m st.length H m' n' H') {x : SV} {v : V} (r : SVRel P w K H m st.length x v) : SVRel P w K H' m' n' x v := by
  cases x with
  | v y => exact VRel.stay (s.tups h) s.agree s.le r
  | t c k =>
    obtain ⟨a, e, hc, hn⟩ := r
    obtain ⟨o, ho, ht, _⟩ := hc.some
    refine ⟨a, e, hc.stay (s.tups h) s.agree s.le (fun o' e => s.keep a o' e (by rw [ho] at e; cases e; exact ht) hn), fun l hl q => ?_⟩
    by_cases hl' : l < st.length
    · exact hn l hl' ((s.agree l hl').symm.trans q)
    · exact s.fresh l (Nat.le_of_not_lt hl') hl o (by rw [q]; exact ho) ht
theorem SlRel.step (h : HRel P w K H m st) (s : Step m st.length H m' n' H') (r : SlRel P w K H m st.length ρ σ) : SlRel P w K H' m' n' ρ σ :=
  ⟨fun i x e => let ⟨v, e1, r1⟩ := r.get i x e; ⟨v, e1, r1.step h s⟩, r.own, r.len⟩
theorem EVRel.step (h : HRel P w K H m st) (s : Step m st.length H m' n' H') {x : EV} {v : V} (r : EVRel P w K H m st.length B ρ σ x v) : EVRel P w K H' m' n' B ρ σ x v := by
  cases x with
  | v y => exact VRel.stay (s.tups h) s.agree s.le r
  | t c =>
    obtain ⟨a, e, hc, hn, hf⟩ := r
    obtain ⟨a', e', hc', hn'⟩ := SVRel.step (x := .t c true) h s ⟨a, e, hc, hn⟩
    cases e.symm.trans e'
    exact ⟨a, e, hc', hn', hf⟩
  | b i c => exact r
theorem Sim.step (S : Sim P w K H m ρ st σ) (s : Step m st.length H m' st'.length H') (h : HRel P w K H' m' st') : Sim P w K H' m' ρ st' σ := ⟨h, S.slot.step S.heap s⟩
theorem EVRel.less (hb : ∀ a o, B a = some o → B' a = some o) {x : EV} {v : V} (r : EVRel P w K H m n B' ρ σ x v) : EVRel P w K H m n B ρ σ x v := by
  cases x with
  | v y => exact r
  | t c =>
    obtain ⟨a, e, hc, hn, hf⟩ := r
    refine ⟨a, e, hc, hn, ?_⟩
    cases q : B a with
    | none => rfl
    | some o => rw [hb a o q] at hf; cases hf
  | b i c => exact r
/-- given a place -/
theorem HRel.put (h : HRel P w K H m st) {c : Cell} {a : Addr} (hc : CRel P w K H m st.length c a) (ha : ∀ l, l < st.length → m l ≠ a) :
    HRel P w K H (fun l => if l = st.length then a else m l) (st ++ [c]) := by
  have ag : ∀ l, l < st.length → (fun l => if l = st.length then a else m l) l = m l := fun l hl => if_neg (Nat.ne_of_lt hl)
  have le : st.length ≤ (st ++ [c]).length := by simp
  refine ⟨fun l d e => ?_, fun l l' h1 h2 e => ?_, h.tbl⟩
  · by_cases hl : l < st.length
    · rw [List.getElem?_append_left hl] at e
      rw [if_neg (Nat.ne_of_lt hl)]
      exact (h.cell l d e).stay (fun _ _ r => r) ag le fun _ e => e
    · have hl' : l = st.length := by
        have := (List.getElem?_eq_some_iff.mp e).1
        simp at this; omega
      subst hl'
      simp at e
      subst e
      rw [if_pos rfl]
      exact hc.stay (fun _ _ r => r) ag le fun _ e => e
  · simp only [List.length_append, List.length_singleton] at h1 h2
    have e' : (if l = st.length then a else m l) = (if l' = st.length then a else m l') := e
    by_cases c1 : l = st.length
    · by_cases c2 : l' = st.length
      · omega
      · rw [if_pos c1, if_neg c2] at e'
        exact absurd e'.symm (ha l' (by omega))
    · by_cases c2 : l' = st.length
      · rw [if_neg c1, if_pos c2] at e'
        exact absurd e' (ha l (by omega))
      · rw [if_neg c1, if_neg c2] at e'
        exact h.inj l l' (by omega) (by omega) e'
/-- tables when a thing is written that is none -/
theorem tbl_upd {p : Addr} {o : HO} (ht : ∀ a ps, H a = some (.tbl ps) → TblOk H ps) (hp : ∀ ps, H p ≠ some (.tbl ps)) (hf : ∀ oc u, H p ≠ some (.frz oc u)) (ho : NoTbl o) : ∀ a ps, upd H p o a = some (.tbl ps) → TblOk (upd H p o) ps := fun a ps e => by
  by_cases ha : a = p
  · rw [ha, upd_same] at e
    cases e
    exact ho.elim
  · rw [upd_ne ha] at e
    refine (ht a ps e).stay (fun c oc q => ?_) fun c q e => ⟨q, ?_⟩
    · rw [upd_ne fun z => by rw [z] at q; exact hf _ _ q]; exact q
    · rw [upd_ne fun z => by rw [z] at e; exact hp _ e]; exact e
/-- a place is written -/
theorem HRel.write (h : HRel P w K H m st) {l : Nat} {c : Cell} {o : HO} (hl : l < st.length) (hc : CRel P w K (upd H (m l) o) m st.length c (m l)) : HRel P w K (upd H (m l) o) m (st.set l c) := by
  have ho : NoTbl o := by
    obtain ⟨o', e, t, _⟩ := hc.some
    rw [upd_same] at e
    cases e
    exact t
  have t : TupsK H (upd H (m l) o) := fun a xs r => by
    have q := h.notTup r l hl
    rcases r with r | ⟨u, r⟩
    · exact .inl (by rw [upd_ne (Ne.symm q)]; exact r)
    · exact .inr ⟨u, by rw [upd_ne (Ne.symm q)]; exact r⟩
  refine ⟨fun k d e => ?_, fun k k' h1 h2 e => h.inj k k' (by simpa using h1) (by simpa using h2) e, tbl_upd h.tbl (fun ps e => h.notTbl e l hl rfl) (fun oc u e => h.notFrz e l hl rfl) ho⟩
  rw [List.length_set]
  by_cases hk : k = l
  · subst hk
    rw [List.getElem?_set_self hl] at e
    cases e
    exact hc
  · rw [List.getElem?_set_ne (Ne.symm hk)] at e
    have hk2 : k < st.length := (List.getElem?_eq_some_iff.mp e).1
    refine (h.cell k d e).stay t (fun _ _ => rfl) (Nat.le_refl _) fun u q => ?_
    rw [upd_ne fun z => hk (h.inj k l hk2 hl z)]
    exact q
theorem tups_write (h : HRel P w K H m st) {l : Nat} (o : HO) (hl : l < st.length) : TupsK H (upd H (m l) o) := fun a xs r => by
  have q := h.notTup r l hl
  rcases r with r | ⟨u, r⟩
  · exact .inl (by rw [upd_ne (Ne.symm q)]; exact r)
  · exact .inr ⟨u, by rw [upd_ne (Ne.symm q)]; exact r⟩
theorem nx_write (b : Bs B m n H) {l : Nat} (o : HO) (hl : l < n) : Nx B m n m n (upd H (m l) o) :=
  ⟨Nat.le_refl _, fun _ _ => rfl, fun a u e => by
    rw [upd_ne fun z => by have := b.out l hl; rw [← z, e] at this; cases this]
    exact b.sub a u e, fun l h1 h2 => absurd (Nat.lt_of_lt_of_le h2 h1) (Nat.lt_irrefl _)⟩

/-! ### what is wanted behind -/
/-- an exception told by class and payload: how it lies -/
abbrev XRel := String → List Val → (Nat → Addr) → Nat → Value → Option Addr → Hp → Prop
def PostM (P : Program) (w : World) (K : PySem.W.Frag) (XR : XRel) (E : XK) {α : Type} (B : Hp) (m : Nat → Addr) (n : Nat) (R : α → (Nat → Addr) → Store → Hp → Prop) : Res α → Prop
  | .ok a st' => ∀ (m' : Nat → Addr) (H' : Hp), Nx B m n m' st'.length H' → HRel P w K H' m' st' → R a m' st' H'
  | .exc c pl st' => ∀ (m' : Nat → Addr) (H' : Hp) (u : Value) (dx : Option Addr), Nx B m n m' st'.length H' → HRel P w K H' m' st' → XR c pl m' st'.length u dx H' → E u dx H'
  | .stuck => False
section
variable {XR : XRel} {E : XK} {α β : Type} {R : β → (Nat → Addr) → Store → Hp → Prop}
theorem PostM.more {R : α → (Nat → Addr) → Store → Hp → Prop} {r : Res α} (hb : ∀ a o, B a = some o → B' a = some o) (h : PostM P w K XR E B m n R r) : PostM P w K XR E B' m n R r := by
  have f : ∀ {m' n' H'}, Nx B' m n m' n' H' → Nx B m n m' n' H' := fun x => ⟨x.le, x.agree, fun a o e => x.keep a o (hb a o e), fun l h1 h2 => by
    have := x.fresh l h1 h2
    cases q : B _ with
    | none => rfl
    | some o => rw [hb _ _ q] at this; cases this⟩
  cases r with
  | ok a st' => exact fun m' H' x hr => h m' H' (f x) hr
  | exc c pl st' => exact fun m' H' u dx x hr => h m' H' u dx (f x) hr
  | stuck => exact h
/-- from a later state on -/
theorem PostM.from {R : α → (Nat → Addr) → Store → Hp → Prop} {r : Res α} (x : Nx B m n m' n' H) (h : PostM P w K XR E B m n R r) : PostM P w K XR E B m' n' R r := by
  cases r with
  | ok a st' => exact fun m2 H2 y hr => h m2 H2 (x.trans y fun _ _ e => e) hr
  | exc c pl st' => exact fun m2 H2 u dx y hr => h m2 H2 u dx (x.trans y fun _ _ e => e) hr
  | stuck => exact h
theorem PostM.imp {R R' : α → (Nat → Addr) → Store → Hp → Prop} {r : Res α} (h : PostM P w K XR E B m n R r) (hi : ∀ a m' st' H', Nx B m n m' st'.length H' → HRel P w K H' m' st' → R a m' st' H' → R' a m' st' H') : PostM P w K XR E B m n R' r := by
  cases r with
  | ok a st' => exact fun m' H' x hr => hi a m' st' H' x hr (h m' H' x hr)
  | exc c pl st' => exact h
  | stuck => exact h
theorem PostM.bind {f : α → M β} {g : M α} (h : PostM P w K XR E B m n R ((g >>= f) st)) :
    PostM P w K XR E B m n (fun a m1 st1 _ => PostM P w K XR E B m1 st1.length R (f a st1)) (g st) := by
  rw [M.bind_eq] at h
  cases e : g st with
  | ok a st1 => rw [e] at h; exact fun m1 H1 x _ => PostM.from x h
  | exc c pl st1 => rw [e] at h; exact h
  | stuck => rw [e] at h; exact h
end
end
end D


set_option Elab.async false
set_option linter.all false
set_option maxHeartbeats 1000000
/-! DC: readings by the evaluator; operations on values. -/
namespace D
open PySem PySem.Spec PyProof.Rows L2

theorem sOf_append (x y : List Char) : sOf (x ++ y) = sOf x ++ sOf y := by
  show (⟨((x ++ y).map Char.toNat).toArray⟩ : Str) = ⟨(x.map Char.toNat).toArray ++ (y.map Char.toNat).toArray⟩
  simp
theorem sOf_length (x : List Char) : (sOf x).length = x.length := by simp [sOf, Str.length]
theorem sOf_list (x : List Char) : (sOf x).cps.toList = x.map Char.toNat := by simp [sOf]
theorem toNat_inj {c d : Char} (h : c.toNat = d.toNat) : c = d := Char.ext (UInt32.toNat_inj.mp h)
theorem map_inj : ∀ {x y : List Char}, x.map Char.toNat = y.map Char.toNat → x = y
  | [], [], _ => rfl
  | [], _ :: _, h => by cases h
  | _ :: _, [], h => by cases h
  | a :: r, b :: t, h => by
    simp only [List.map_cons, List.cons.injEq] at h
    rw [toNat_inj h.1, map_inj h.2]
theorem sOf_inj {x y : List Char} (h : sOf x = sOf y) : x = y := map_inj (by rw [← sOf_list, ← sOf_list, h])
theorem sOf_string (s : String) : sOf s.toList = Str.ofString s := (Str.ofString_eq_toList s).symm
theorem lim_line {n : Nat} (h : n ≤ LIM) : n ≤ sizeLine := by
  unfold LIM at h
  rw [sizeLine_eq]
  omega
/-- an operation by what it does -/
def rSem (X : Cx) (f : Value → Value → Sem Value) : R2 := fun x y H Q => ∀ (pins : List (Addr × Obj)) (s : Shared) (σ : L2.St) (v u : Value), Inv X pins σ H s → RelV x v → RelV y u →
  wpAny (model X.prog X.w) X.A (f v u) (EP X pins σ Q) X.xe s
theorem opR_sem (X : Cx) (f : Value → Value → Sem Value) : OpR X f (rSem X f) := fun pins s σ H x y v u Q I rx ry h => h pins s σ v u I rx ry
theorem rSem_of {X : Cx} {f : Value → Value → Sem Value} {r : R2} (h : OpR X f r) {x y : V} {H : Hp} {Q : VK} (q : r x y H Q) : rSem X f x y H Q := fun pins s σ v u I rx ry => h pins s σ H x y v u Q I rx ry q
theorem PE.imp {X : Cx} {e : Expr} {t t' : TE} (h : PE X e t) (hi : ∀ σ H Q, t' σ H Q → t σ H Q) : PE X e t' := ⟨fun pins s σ H Q I q => h.run pins s σ H Q I (hi σ H Q q)⟩

section
variable (X : Cx) (W : WX) (XR : XRel)
/-- an expression's reading: what the evaluator says -/
def rdE (ev : Sl → M EV) : TE := fun σ H Q => ∃ (B : Hp) (ρ : Sl) (st : Store) (m : Nat → Addr), Sim X.prog X.w X.K H m ρ st σ ∧ Bs B m st.length H ∧
  PostM X.prog X.w X.K XR (WE W σ) B m st.length (fun x m' st' H' => ∀ v, EVRel X.prog X.w X.K H' m' st'.length B ρ σ x v → Q v H') (ev ρ st)
/-- a test's -/
def rdB (ev : Sl → M Bool) : TT := fun σ H Q => ∃ (B : Hp) (ρ : Sl) (st : Store) (m : Nat → Addr), Sim X.prog X.w X.K H m ρ st σ ∧ Bs B m st.length H ∧
  PostM X.prog X.w X.K XR (WE W σ) B m st.length (fun b _ _ H' => Q b H') (ev ρ st)
end
section
variable {X : Cx} {W : WX} {XR : XRel} {H H' B B' : Hp} {m m' : Nat → Addr} {st st' : Store} {ρ : Sl} {σ : L2.St} {α β : Type}
/-- the sub-expression, then the rest -/
theorem rd_seq {ea : Sl → M EV} {f : EV → M β} {R : β → (Nat → Addr) → Store → Hp → Prop} {Q : VK} (S : Sim X.prog X.w X.K H m ρ st σ) (b : Bs B m st.length H)
    (h : PostM X.prog X.w X.K XR (WE W σ) B m st.length R ((ea ρ >>= f) st))
    (k : ∀ x v m1 st1 H1, Step m st.length H m1 st1.length H1 → Sim X.prog X.w X.K H1 m1 ρ st1 σ → Bs B m1 st1.length H1 → EVRel X.prog X.w X.K H1 m1 st1.length (outB H m st.length) ρ σ x v →
      PostM X.prog X.w X.K XR (WE W σ) B m1 st1.length R (f x st1) → Q v H1) : rdE X W XR ea σ H Q := by
  refine ⟨outB H m st.length, ρ, st, m, S, bs_out _ _ _, (PostM.bind h).more b.le_out |>.imp fun x m1 st1 H1 x1 hr h2 v hv => ?_⟩
  have s1 := x1.step hr
  exact k x v m1 st1 H1 s1 (S.step s1 hr) (Nx.bs ⟨x1.le, x1.agree, fun a o e => x1.keep a o (b.le_out a o e), fun l h1 h2 => by
    have := x1.fresh l h1 h2
    cases q : B (m1 l) with
    | none => rfl
    | some o => rw [b.le_out _ _ q] at this; cases this⟩ b) hv h2
theorem PostM.done {a : α} {R : α → (Nat → Addr) → Store → Hp → Prop} {E : XK} (h : PostM X.prog X.w X.K XR E B m st.length R (.ok a st)) (b : Bs B m st.length H) (hr : HRel X.prog X.w X.K H m st) : R a m st H := h m H (Nx.refl b) hr
theorem PostM.alloc {a : α} {R : α → (Nat → Addr) → Store → Hp → Prop} {E : XK} (h : PostM X.prog X.w X.K XR E B m st.length R (.ok a st)) (b : Bs B m st.length H) (hr : HRel X.prog X.w X.K H m st) {p : Addr} (hp : H p = none) (o : HO) [NoT o] : R a m st (upd H p o) :=
  h m (upd H p o) (nx_alloc b hp o) (hr.alloc hp o)
/-- a new list -/
theorem ev_lst {P : Program} {w : World} {K : PySem.W.Frag} {vs : List Val} {ws : List V} {p : Addr} (b : Bs B m st.length H) (hr : HRel P w K H m st) (hp : H p = none) (r : VRels K H m st.length vs ws) :
    EVRel P w K (upd H p (.lst ws)) m st.length B ρ σ (.t (.lst vs)) (.ref p) := by
  refine ⟨p, rfl, ⟨ws, upd_same, r.stay (tups_alloc hp _) (fun _ _ => rfl) (Nat.le_refl _)⟩, fun l hl e => ?_, ?_⟩
  · obtain ⟨o, ho, _⟩ := hr.domAll l hl
    rw [e, hp] at ho; cases ho
  · cases q : B p with
    | none => rfl
    | some o => rw [b.sub p o q] at hp; cases hp
/-- a new tuple -/
theorem ev_tup {P : Program} {w : World} {K : PySem.W.Frag} {vs : List Val} {ws : List V} {p : Addr} (hp : H p = none) (r : VRels K H m st.length vs ws) :
    EVRel P w K (upd H p (.tup ws)) m st.length B ρ σ (.v (.tup vs)) (.ref p) :=
  ⟨p, ws, rfl, .inl (.inl upd_same), r.stay (tups_alloc hp _) (fun _ _ => rfl) (Nat.le_refl _)⟩
/-- the object at hand -/
theorem cell_rel {P : Program} {w : World} {K : PySem.W.Frag} {x : EV} {v : V} {c : Cell} (S : Sim P w K H m ρ st σ) (r : EVRel P w K H m st.length B ρ σ x v) (hc : cellOf st x = some c) : ∃ a, v = .ref a ∧ CRel P w K H m st.length c a := by
  cases x with
  | v y =>
    cases y with
    | loc l => exact ⟨m l, r.2, S.heap.cell l c hc⟩
    | _ => cases hc
  | t d => cases hc; obtain ⟨a, e, h, _⟩ := r; exact ⟨a, e, h⟩
  | b i d =>
    cases hc
    obtain ⟨⟨k, e1⟩, e2⟩ := r
    obtain ⟨u, e3, a, e4, h, _⟩ := S.slot.get i _ e1
    rw [e2] at e3
    cases e3
    exact ⟨a, e4, h⟩
theorem cell_lst {P : Program} {w : World} {K : PySem.W.Frag} {x : EV} {v : V} {vs : List Val} (S : Sim P w K H m ρ st σ) (r : EVRel P w K H m st.length B ρ σ x v) (hc : cellOf st x = some (.lst vs)) : ∃ a ws, v = .ref a ∧ H a = some (.lst ws) ∧ VRels K H m st.length vs ws := by
  obtain ⟨a, e, ws, h1, h2⟩ := cell_rel S r hc
  exact ⟨a, ws, e, h1, h2⟩
theorem VRels.cut {K : PySem.W.Frag} {n : Nat} {vs : List Val} {ws : List V} (r : VRels K H m n vs ws) (lo hi : Option Int) : VRels K H m n (cutL vs lo hi) (cutV ws lo hi) := by
  unfold cutL cutV
  rw [r.length]
  exact (r.drop _).take _
theorem VRels.at {K : PySem.W.Frag} {n : Nat} {vs : List Val} {ws : List V} {i : Int} {v : Val} (r : VRels K H m n vs ws) (h : atI vs i = some v) : ∃ x, atI ws i = some x ∧ VRel K H m n v x := by
  unfold atI at h ⊢
  rw [r.length] at h
  cases e : ixN ws.length i with
  | none => rw [e] at h; cases h
  | some j => rw [e] at h; exact r.get h

/-! ### + - * // % -/
def Bop.op : Bop → Operator
  | .add => .Add | .sub => .Sub | .mul => .Mult | .fdiv => .FloorDiv | .mod => .Mod | .bor => .BitOr | .pow => .Pow
abbrev RQ (X : Cx) (B : Hp) (ρ : Sl) (σ : L2.St) (Q : VK) : EV → (Nat → Addr) → Store → Hp → Prop := fun z m' st' H' => ∀ v, EVRel X.prog X.w X.K H' m' st'.length B ρ σ z v → Q v H'
theorem okInt_c {i j : Int} (h : okInt i j = true) : (-(2 ^ 64) < i ∧ i < 2 ^ 64) ∨ (-(2 ^ 64) < j ∧ j < 2 ^ 64) := by
  simpa [okInt] using h
theorem bop_sound {E : XK} {o : Bop} {x y : EV} {v u : V} {B1 B2 : Hp} {Q : VK} (S : Sim X.prog X.w X.K H m ρ st σ) (b : Bs B m st.length H)
    (rx : EVRel X.prog X.w X.K H m st.length B1 ρ σ x v) (ry : EVRel X.prog X.w X.K H m st.length B2 ρ σ y u) (h : PostM X.prog X.w X.K XR E B m st.length (RQ X B ρ σ Q) (bop o x y st)) :
    rSem X (binaryOp o.op) v u H Q := by
  unfold bop at h
  split at h
  · cases rx; cases ry
    exact rSem_of op_add ⟨_, _, rfl, rfl, h.done b S.heap _ rfl⟩
  · rename_i a c
    cases rx; cases ry
    split at h
    · rename_i hl
      refine rSem_of op_add_str ⟨_, _, rfl, rfl, lim_line (by rw [sOf_length, sOf_length]; exact hl), ?_⟩
      exact h.done b S.heap _ (by show V.str _ = V.str _; rw [sOf_append])
    · exact h.elim
  · rename_i a c
    obtain ⟨p, ws, rfl, h1, r1⟩ := rx
    obtain ⟨q, us, rfl, h2, r2⟩ := ry
    split at h
    · rename_i hl
      refine rSem_of op_catA ⟨p, q, ws, us, rfl, rfl, h1, h2, lim_line (by rw [← r1.length, ← r2.length]; exact hl), fun e => ?_, fun _ e => ?_, fun _ _ l hn => ?_⟩
      · subst e
        have : a = [] := by cases a with | nil => rfl | cons _ _ => obtain ⟨_, _, e, _⟩ := r1; cases e
        subst this
        exact h.done b S.heap _ ⟨q, us, rfl, h2, r2⟩
      · subst e
        have : c = [] := by cases c with | nil => rfl | cons _ _ => obtain ⟨_, _, e, _⟩ := r2; cases e
        subst this
        rw [List.append_nil] at h
        exact h.done b S.heap _ ⟨p, ws, rfl, h1, r1⟩
      · exact h.alloc b S.heap hn _ _ (ev_tup hn (r1.append r2))
    · exact h.elim
  · cases rx; cases ry
    exact rSem_of op_sub ⟨_, _, rfl, rfl, h.done b S.heap _ rfl⟩
  · cases rx; cases ry
    split at h
    · rename_i hc
      exact rSem_of op_mul ⟨_, _, rfl, rfl, okInt_c hc, h.done b S.heap _ rfl⟩
    · exact h.elim
  · cases rx; cases ry
    split at h
    · rename_i hc
      exact rSem_of op_fdivN ⟨_, _, rfl, rfl, ⟨by omega, by omega⟩, h.done b S.heap _ rfl⟩
    · exact h.elim
  · cases rx; cases ry
    split at h
    · rename_i hc
      exact rSem_of op_modN ⟨_, _, rfl, rfl, by omega, h.done b S.heap _ rfl⟩
    · exact h.elim
  · cases rx; cases ry
    split at h
    · rename_i hc
      exact rSem_of op_pow ⟨_, _, rfl, rfl, hc, h.done b S.heap _ rfl⟩
    · exact h.elim
  · split at h
    · rename_i ha hb
      obtain ⟨p, ws, rfl, h1, r1⟩ := cell_lst S rx ha
      obtain ⟨q, us, rfl, h2, r2⟩ := cell_lst S ry hb
      split at h
      · rename_i hl
        refine rSem_of op_cat ⟨p, q, ws, us, rfl, rfl, h1, h2, lim_line (by rw [← r1.length, ← r2.length]; exact hl), fun l hn => ?_⟩
        exact h.alloc b S.heap hn _ _ (ev_lst b S.heap hn (r1.append r2))
      · exact h.elim
    · exact h.elim
  · exact h.elim
theorem s_bin {ea eb : Sl → M EV} {a e : Expr} {o : Bop} {pos : Pos} (ha : PE X a (rdE X W XR ea)) (he : PE X e (rdE X W XR eb)) :
    PE X (.BinOp a o.op e pos) (rdE X W XR fun ρ => do let x ← ea ρ; let y ← eb ρ; bop o x y) := by
  refine PE.imp (pe_op (opR_sem X _) ha he) fun σ H Q ⟨B, ρ, st, m, S, b, h⟩ => ?_
  refine rd_seq S b h fun x v m1 st1 H1 s1 S1 b1 rx h1 => ?_
  refine rd_seq S1 b1 h1 fun y u m2 st2 H2 s2 S2 b2 ry h2 => ?_
  exact bop_sound S2 b2 (rx.step S1.heap s2) ry h2
end
end D


set_option Elab.async false
set_option linter.all false
set_option maxHeartbeats 1000000
/-! DD: names, constants, tests, displays, subscripts. -/
namespace D
open PySem PySem.Spec PyProof.Rows L2
theorem PT.imp {X : Cx} {e : Expr} {t t' : TT} (h : PT X e t) (hi : ∀ σ H Q, t' σ H Q → t σ H Q) : PT X e t' := ⟨fun pins s σ H Q I q => h.run pins s σ H Q I (hi σ H Q q)⟩
theorem PW.imp {X : Cx} {e : Expr} {t t' : TT} (h : PW X e t) (hi : ∀ σ H Q, t' σ H Q → t σ H Q) : PW X e t' := ⟨fun wh pins s σ H Q I q => h.run wh pins s σ H Q I (hi σ H Q q)⟩
theorem M.assoc {α β γ : Type} (m : M α) (f : α → M β) (g : β → M γ) : ((m >>= f) >>= g) = (m >>= fun x => f x >>= g) := by
  funext st
  simp only [M.bind_eq]
  cases m st <;> rfl
theorem asn {P : Program} {w : World} {K : PySem.W.Frag} {XR : XRel} {E : XK} {α β γ : Type} {B : Hp} {m : Nat → Addr} {n : Nat} {R : γ → (Nat → Addr) → Store → Hp → Prop} {f : M α} {g : α → M β} {k : β → M γ} {st : Store}
    (h : PostM P w K XR E B m n R (((f >>= g) >>= k) st)) : PostM P w K XR E B m n R ((f >>= fun x => g x >>= k) st) := by rw [M.assoc] at h; exact h
theorem asn' {P : Program} {w : World} {K : PySem.W.Frag} {XR : XRel} {E : XK} {α β γ : Type} {B : Hp} {m : Nat → Addr} {n : Nat} {R : γ → (Nat → Addr) → Store → Hp → Prop} {f : M α} {g : α → M β} {k : β → M γ} {st : Store}
    (h : PostM P w K XR E B m n R ((f >>= fun x => g x >>= k) st)) : PostM P w K XR E B m n R (((f >>= g) >>= k) st) := by rw [M.assoc]; exact h
theorem M.pure_bind {α β : Type} (a : α) (f : α → M β) : (M.pure a >>= f) = f a := rfl

/-- an expression and its evaluation: as a value, as a test -/
structure Snd (X : Cx) (W : WX) (XR : XRel) (ev : Sl → M EV) (e : Expr) : Prop where
  pe : PE X e (rdE X W XR ev)
  pt : PT X e (rdB X W XR fun ρ => ev ρ >>= isB)
section
variable {X : Cx} {W : WX} {XR : XRel} {H H' B B' : Hp} {m m' : Nat → Addr} {st st' : Store} {ρ : Sl} {σ : L2.St} {α β : Type} {pos : Pos}
theorem rdb_seq {ea : Sl → M Bool} {f : Bool → M β} {R : β → (Nat → Addr) → Store → Hp → Prop} {Q : Bool → Hp → Prop} (S : Sim X.prog X.w X.K H m ρ st σ) (b : Bs B m st.length H)
    (h : PostM X.prog X.w X.K XR (WE W σ) B m st.length R ((ea ρ >>= f) st))
    (k : ∀ x m1 st1 H1, Step m st.length H m1 st1.length H1 → Sim X.prog X.w X.K H1 m1 ρ st1 σ → Bs B m1 st1.length H1 →
      PostM X.prog X.w X.K XR (WE W σ) B m1 st1.length R (f x st1) → Q x H1) : rdB X W XR ea σ H Q := by
  refine ⟨outB H m st.length, ρ, st, m, S, bs_out _ _ _, (PostM.bind h).more b.le_out |>.imp fun x m1 st1 H1 x1 hr h2 => ?_⟩
  have s1 := x1.step hr
  exact k x m1 st1 H1 s1 (S.step s1 hr) (Nx.bs ⟨x1.le, x1.agree, fun a o e => x1.keep a o (b.le_out a o e), fun l h1 h2 => by
    have := x1.fresh l h1 h2
    cases q : B (m1 l) with
    | none => rfl
    | some o => rw [b.le_out _ _ q] at this; cases this⟩ b) h2
theorem isB_inv {x : EV} {f : Bool → M β} {E : XK} {n : Nat} {R : β → (Nat → Addr) → Store → Hp → Prop} (h : PostM X.prog X.w X.K XR E B m n R ((isB x >>= f) st)) :
    ∃ c, x = .v (.bool c) ∧ PostM X.prog X.w X.K XR E B m n R (f c st) := by
  cases x with
  | v y => cases y with
    | bool c => exact ⟨c, rfl, h⟩
    | _ => exact h.elim
  | _ => exact h.elim
theorem isB_inv1 {x : EV} {E : XK} {n : Nat} {R : Bool → (Nat → Addr) → Store → Hp → Prop} (h : PostM X.prog X.w X.K XR E B m n R (isB x st)) :
    ∃ c, x = .v (.bool c) ∧ PostM X.prog X.w X.K XR E B m n R (.ok c st) := by
  cases x with
  | v y => cases y with
    | bool c => exact ⟨c, rfl, h⟩
    | _ => exact h.elim
  | _ => exact h.elim
/-- by its value -/
theorem Snd.of {ev : Sl → M EV} {e : Expr} (h : PE X e (rdE X W XR ev)) (he : ∀ whole, isTrue e X.env whole = (do let v ← whole; standAt e.pos; holding [v] (truthy v))) : Snd X W XR ev e := by
  refine ⟨h, PT.imp (pt_val h he) fun σ H Q ⟨B, ρ, st, m, S, b, h⟩ => ?_⟩
  refine rd_seq S b h fun x v m1 st1 H1 s1 S1 b1 rx h1 => ?_
  obtain ⟨c, rfl, h2⟩ := isB_inv1 h1
  cases rx
  exact ⟨c, rfl, h2.done b1 S1.heap⟩

/-! ### names, constants -/
theorem s_var {i : Nat} {x : Str} {Γ : Calls} (hN : X.N[i]? = some x) (hv : Vis X.env.scope x) (hd : (x == ("__debug__" : Str)) = false) (hcd : (x == ("__classdict__" : Str)) = false) : Snd X W XR (evalE Γ (.var i)) (.Name x pos) := by
  refine .of (PE.imp (pe_var hN hv hd hcd) fun σ H Q ⟨B, ρ, st, m, S, b, h⟩ => ?_) fun _ => rfl
  simp only [evalE] at h
  cases e : ρ[i]? with
  | none => rw [e] at h; exact h.elim
  | some o =>
    rw [e] at h
    cases o with
    | none => exact h.elim
    | some y =>
      obtain ⟨v, e1, r⟩ := S.slot.get i y e
      refine ⟨v, e1, ?_⟩
      cases y with
      | v z => exact h.done b S.heap v r
      | t c k => exact h.done b S.heap v ⟨⟨k, e⟩, e1⟩
theorem s_con {Γ : Calls} {v : Val} {c : Expr} {y : V} (h : PE X c (tC y)) (hr : ∀ (H : Hp) (m : Nat → Addr) (n : Nat), VRel X.K H m n v y) (he : ∀ whole, isTrue c X.env whole = (do let v ← whole; standAt c.pos; holding [v] (truthy v))) : Snd X W XR (evalE Γ (.con v)) c := by
  refine .of (PE.imp h fun σ H Q ⟨B, ρ, st, m, S, b, h⟩ => ?_) he
  simp only [evalE] at h
  exact h.done b S.heap y (hr _ _ _)
theorem s_glob {Γ : Calls} {g : String} {v : Val} {c : Expr} {y : V} (h : PE X c (tC y)) (hr : ∀ (H : Hp) (m : Nat → Addr) (n : Nat), VRel X.K H m n v y) (he : ∀ whole, isTrue c X.env whole = (do let v ← whole; standAt c.pos; holding [v] (truthy v))) : Snd X W XR (evalE Γ (.glob g v)) c := by
  refine .of (PE.imp h fun σ H Q ⟨B, ρ, st, m, S, b, h⟩ => ?_) he
  simp only [evalE] at h
  exact h.done b S.heap y (hr _ _ _)
theorem s_int {Γ : Calls} {i : Int} {j : Nat} : Snd X W XR (evalE Γ (.con (.int i))) (.Constant (.int i) j pos) := s_con pe_int (fun _ _ _ => rfl) fun _ => rfl
theorem s_non {Γ : Calls} {j : Nat} : Snd X W XR (evalE Γ (.con .non)) (.Constant .none j pos) := s_con pe_non (fun _ _ _ => rfl) fun _ => rfl
theorem s_str {Γ : Calls} {x : List Char} {z : Str} {j : Nat} (hz : z = sOf x) : Snd X W XR (evalE Γ (.con (.str x))) (.Constant (.str z) j pos) := s_con pe_str (fun _ _ _ => by show V.str z = V.str _; rw [hz]) fun _ => rfl
theorem s_boolE {Γ : Calls} {c : Bool} {j : Nat} : PE X (.Constant (.bool c) j pos) (rdE X W XR (evalE Γ (.con (.bool c)))) := by
  refine PE.imp pe_bl fun σ H Q ⟨B, ρ, st, m, S, b, h⟩ => ?_
  simp only [evalE] at h
  exact h.done b S.heap _ rfl

/-! ### tests -/
theorem s_not {ea : Sl → M EV} {a : Expr} (ha : Snd X W XR ea a) : Snd X W XR (fun ρ => do let x ← ea ρ; let p ← isB x; .pure (.v (.bool (!p)))) (.UnaryOp .Not a pos) := by
  refine ⟨PE.imp (L2.pe_not ha.pe) fun σ H Q ⟨B, ρ, st, m, S, b, h⟩ => ?_, PT.imp (L2.pt_not ha.pt) fun σ H Q ⟨B, ρ, st, m, S, b, h⟩ => ?_⟩
  · refine rd_seq S b h fun x v m1 st1 H1 s1 S1 b1 rx h1 => ?_
    obtain ⟨c, rfl, h2⟩ := isB_inv h1
    cases rx
    exact ⟨c, rfl, h2.done b1 S1.heap _ rfl⟩
  · have h := asn h
    refine rdb_seq (ea := fun ρ => ea ρ >>= isB) (f := fun p => .pure (!p)) S b (R := fun c _ _ H' => Q c H') (asn' ?_) fun c m1 st1 H1 s1 S1 b1 h1 => h1.done b1 S1.heap
    have e1 : (fun x => (isB x >>= fun p => M.pure (!p))) = fun x => ((isB x >>= fun p => M.pure (EV.v (Val.bool (!p)))) >>= isB) := by
      funext x
      rw [M.assoc]
      rfl
    rw [e1]
    exact h
/-- a BoolOp's operands from here on -/
structure SndA (X : Cx) (W : WX) (XR : XRel) (ev : Sl → M EV) (op : BoolOp) (es : List Expr) (pos : Pos) : Prop where
  pe : PE X (.BoolOp op es pos) (rdE X W XR ev)
  pw : PW X (.BoolOp op es pos) (rdB X W XR fun ρ => ev ρ >>= isB)
theorem SndA.snd {ev : Sl → M EV} {op : BoolOp} {es : List Expr} (h : SndA X W XR ev op es pos) : Snd X W XR ev (.BoolOp op es pos) := ⟨h.pe, h.pw.pt⟩
theorem s_and1 {ev : Sl → M EV} {e : Expr} (h : Snd X W XR ev e) : SndA X W XR ev .And [e] pos := ⟨pe_one h.pe, pw_and1 h.pt⟩
theorem s_or1 {ev : Sl → M EV} {e : Expr} (h : Snd X W XR ev e) : SndA X W XR ev .Or [e] pos := ⟨pe_one h.pe, pw_or1 h.pt⟩
theorem s_and {ea eb : Sl → M EV} {a e : Expr} {rest : List Expr} (ha : Snd X W XR ea a) (hb : SndA X W XR eb .And (e :: rest) pos) :
    SndA X W XR (fun ρ => do
      let x ← ea ρ
      let p ← isB x
      if p then do
        let y ← eb ρ
        let q ← isB y
        .pure (.v (.bool q))
      else .pure (.v (.bool false))) .And (a :: e :: rest) pos := by
  refine ⟨PE.imp (L2.pe_and ha.pe hb.pe) fun σ H Q ⟨B, ρ, st, m, S, b, h⟩ => ?_, PW.imp (L2.pw_and ha.pt hb.pw) fun σ H Q ⟨B, ρ, st, m, S, b, h⟩ => ?_⟩
  · refine rd_seq S b h fun x v m1 st1 H1 s1 S1 b1 rx h1 => ?_
    obtain ⟨c, rfl, h2⟩ := isB_inv h1
    cases rx
    refine ⟨c, rfl, ?_⟩
    cases c with
    | false => exact h2.done b1 S1.heap _ rfl
    | true =>
      rw [if_pos rfl] at h2 ⊢
      refine rd_seq S1 b1 h2 fun y u m2 st2 H2 s2 S2 b2 ry h3 => ?_
      obtain ⟨d, rfl, h4⟩ := isB_inv h3
      cases ry
      exact h4.done b2 S2.heap _ rfl
  · have h := asn h
    refine rdb_seq (ea := fun ρ => ea ρ >>= isB) (f := fun p => if p then eb ρ >>= isB else .pure false) S b (R := fun c _ _ H' => Q c H') ?_ fun c m1 st1 H1 s1 S1 b1 h1 => ?_
    · refine asn' ?_
      have e1 : (fun x => (isB x >>= fun p => if p then eb ρ >>= isB else M.pure false)) = fun x => ((isB x >>= fun p => if p = true then (do let y ← eb ρ; let q ← isB y; M.pure (EV.v (Val.bool q))) else M.pure (EV.v (Val.bool false))) >>= isB) := by
        funext x
        rw [M.assoc]
        congr 1
        funext p
        cases p
        · rfl
        · simp only [if_true]
          rw [M.assoc]
          congr 1
          funext y
          rw [M.assoc]
          funext s
          rw [M.bind_eq]
          cases isB y s <;> rfl
      rw [e1]
      exact h
    · cases c with
      | false => exact h1.done b1 S1.heap
      | true =>
        rw [if_pos rfl] at h1 ⊢
        refine ⟨B, ρ, st1, m1, S1, b1, h1⟩
theorem s_or {ea eb : Sl → M EV} {a e : Expr} {rest : List Expr} (ha : Snd X W XR ea a) (hb : SndA X W XR eb .Or (e :: rest) pos) :
    SndA X W XR (fun ρ => do
      let x ← ea ρ
      let p ← isB x
      if p then .pure (.v (.bool true)) else do
        let y ← eb ρ
        let q ← isB y
        .pure (.v (.bool q))) .Or (a :: e :: rest) pos := by
  refine ⟨PE.imp (L2.pe_or ha.pe hb.pe) fun σ H Q ⟨B, ρ, st, m, S, b, h⟩ => ?_, PW.imp (L2.pw_or ha.pt hb.pw) fun σ H Q ⟨B, ρ, st, m, S, b, h⟩ => ?_⟩
  · refine rd_seq S b h fun x v m1 st1 H1 s1 S1 b1 rx h1 => ?_
    obtain ⟨c, rfl, h2⟩ := isB_inv h1
    cases rx
    refine ⟨c, rfl, ?_⟩
    cases c with
    | true => exact h2.done b1 S1.heap _ rfl
    | false =>
      rw [if_neg (by decide)] at h2 ⊢
      refine rd_seq S1 b1 h2 fun y u m2 st2 H2 s2 S2 b2 ry h3 => ?_
      obtain ⟨d, rfl, h4⟩ := isB_inv h3
      cases ry
      exact h4.done b2 S2.heap _ rfl
  · have h := asn h
    refine rdb_seq (ea := fun ρ => ea ρ >>= isB) (f := fun p => if p then .pure true else eb ρ >>= isB) S b (R := fun c _ _ H' => Q c H') ?_ fun c m1 st1 H1 s1 S1 b1 h1 => ?_
    · refine asn' ?_
      have e1 : (fun x => (isB x >>= fun p => if p then M.pure true else eb ρ >>= isB)) = fun x => ((isB x >>= fun p => if p = true then M.pure (EV.v (Val.bool true)) else (do let y ← eb ρ; let q ← isB y; M.pure (EV.v (Val.bool q)))) >>= isB) := by
        funext x
        rw [M.assoc]
        congr 1
        funext p
        cases p
        · simp only [Bool.false_eq_true, if_false]
          rw [M.assoc]
          congr 1
          funext y
          rw [M.assoc]
          funext s
          rw [M.bind_eq]
          cases isB y s <;> rfl
        · rfl
      rw [e1]
      exact h
    · cases c with
      | true => exact h1.done b1 S1.heap
      | false =>
        rw [if_neg (by decide)] at h1 ⊢
        refine ⟨B, ρ, st1, m1, S1, b1, h1⟩
theorem s_ite {ec ea eb : Sl → M EV} {c a e : Expr} (hc : PT X c (rdB X W XR fun ρ => ec ρ >>= isB)) (ha : PE X a (rdE X W XR ea)) (hb : PE X e (rdE X W XR eb)) :
    PE X (.IfExp c a e pos) (rdE X W XR (fun ρ => do let x ← ec ρ; let p ← isB x; if p then ea ρ else eb ρ)) := by
  refine PE.imp (pe_ifExp hc ha hb) fun σ H Q ⟨B, ρ, st, m, S, b, h⟩ => ?_
  refine rdb_seq (ea := fun ρ => ec ρ >>= isB) (f := fun p => if p then ea ρ else eb ρ) S b (R := RQ X B ρ σ Q) (by rw [M.assoc]; exact h) fun d m1 st1 H1 s1 S1 b1 h1 => ?_
  cases d with
  | true => exact ⟨B, ρ, st1, m1, S1, b1, h1⟩
  | false => exact ⟨B, ρ, st1, m1, S1, b1, h1⟩
end
end D


set_option Elab.async false
set_option linter.all false
set_option maxHeartbeats 1000000
/-! DE: comparisons. -/
namespace D
open PySem PySem.Spec PyProof.Rows L2

mutual
/-- a tree as data -/
def Val.pd : Val → PyData
  | .non => .none
  | .bool b => .bool b
  | .int i => .int i
  | .str x => .str (sOf x)
  | .tup vs => .tuple (Val.pds vs)
  | .loc _ => .none
  | .cst _ => .none
def Val.pds : List Val → List PyData
  | [] => []
  | v :: vs => Val.pd v :: Val.pds vs
end
theorem pds_map : ∀ vs : List Val, Val.pds vs = vs.map Val.pd
  | [] => rfl
  | v :: vs => by rw [Val.pds, pds_map vs]; rfl
theorem strOk_sOf (x : List Char) : PyData.strOk (sOf x) = true := by
  unfold PyData.strOk
  rw [← Array.all_toList, sOf_list, List.all_map, List.all_eq_true]
  intro c _
  have h := c.valid
  simp only [Function.comp, decide_eq_true_eq]
  simp only [UInt32.isValidChar, Nat.isValidChar] at h
  have : c.toNat = c.val.toNat := rfl
  omega
/-- of pure trees -/
theorem pure_lay : ∀ (n : Nat) (v : Val), v.pureN n = true → (v.pd).canLay0 = true ∧ (v.pd).depth ≤ n := by
  intro n
  induction n with
  | zero =>
    intro v h
    cases v with
    | non => exact ⟨by simp [Val.pd, PyData.canLay0], by simp [Val.pd, PyData.depth]⟩
    | bool b => exact ⟨by simp [Val.pd, PyData.canLay0], by simp [Val.pd, PyData.depth]⟩
    | int i => exact ⟨by simp [Val.pd, PyData.canLay0], by simp [Val.pd, PyData.depth]⟩
    | str x => exact ⟨by simp [Val.pd, PyData.canLay0, strOk_sOf], by simp [Val.pd, PyData.depth]⟩
    | tup vs => cases h
    | loc l => cases h
    | cst c => cases h
  | succ n ih =>
    intro v h
    cases v with
    | non => exact ⟨by simp [Val.pd, PyData.canLay0], by simp [Val.pd, PyData.depth]⟩
    | bool b => exact ⟨by simp [Val.pd, PyData.canLay0], by simp [Val.pd, PyData.depth]⟩
    | int i => exact ⟨by simp [Val.pd, PyData.canLay0], by simp [Val.pd, PyData.depth]⟩
    | str x => exact ⟨by simp [Val.pd, PyData.canLay0, strOk_sOf], by simp [Val.pd, PyData.depth]⟩
    | tup vs =>
      have hv : vs.all (Val.pureN n) = true := h
      have key : ∀ us : List Val, us.all (Val.pureN n) = true → PyData.canLayAll0 (Val.pds us) = true ∧ PyData.depthAll (Val.pds us) ≤ n := by
        intro us
        induction us with
        | nil => intro _; exact ⟨by simp [Val.pds, PyData.canLayAll0], by simp [Val.pds, PyData.depthAll]⟩
        | cons u us ih2 =>
          intro hu
          simp only [List.all_cons, Bool.and_eq_true] at hu
          obtain ⟨a, b⟩ := ih u hu.1
          obtain ⟨c, d⟩ := ih2 hu.2
          refine ⟨by simp [Val.pds, PyData.canLayAll0, a, c], ?_⟩
          simp only [Val.pds, PyData.depthAll]
          exact Nat.max_le.mpr ⟨b, d⟩
      obtain ⟨a, b⟩ := key vs hv
      exact ⟨by simp [Val.pd, PyData.canLay0, a], by simp only [Val.pd, PyData.depth]; omega⟩
    | loc l => cases h
    | cst c => cases h
theorem pure_shaped {v : Val} (h : v.pure = true) : SeqAt.shaped v.pd = true := by
  obtain ⟨a, b⟩ := pure_lay 60 v h
  unfold SeqAt.shaped
  rw [a, decide_eq_true (by omega)]
  rfl
theorem pures_shaped {vs : List Val} (h : vs.all (·.pure) = true) (l : Bool) : SeqAt.shaped (if l then .list (Val.pds vs) else .tuple (Val.pds vs)) = true := by
  obtain ⟨a, b⟩ := pure_lay 61 (.tup vs) h
  simp only [Val.pd, PyData.canLay0, PyData.depth] at a b
  cases l
  · unfold SeqAt.shaped
    simp only [Bool.false_eq_true, if_false, PyData.canLay0, a, PyData.depth]
    rw [decide_eq_true (by omega)]
    rfl
  · unfold SeqAt.shaped
    simp only [if_true, PyData.canLay0, a, PyData.depth]
    rw [decide_eq_true (by omega)]
    rfl
section
variable {K : PySem.W.Frag} {H : Hp} {m : Nat → Addr} {k : Nat}
mutual
theorem VRel.dp : ∀ (n : Nat) (v : Val) (x : V), v.pureN n = true → VRel K H m k v x → Dp K H x v.pd
  | _, .non, _, _, h => by cases h; exact .non
  | _, .bool b, _, _, h => by cases h; exact .bl b
  | _, .int i, _, _, h => by cases h; exact .int i
  | _, .str s, _, _, h => by cases h; exact .str _
  | n + 1, .tup vs, _, p, h => by obtain ⟨a, ws, rfl, s, r⟩ := h; exact .tup s (VRels.dp n vs ws p r)
  | 0, .tup vs, _, p, _ => by cases p
  | 0, .loc l, _, p, _ => by cases p
  | 0, .cst l, _, p, _ => by cases p
  | _ + 1, .loc l, _, p, _ => by cases p
  | _ + 1, .cst l, _, p, _ => by cases p
theorem VRels.dp : ∀ (n : Nat) (vs : List Val) (ws : List V), vs.all (Val.pureN n) = true → VRels K H m k vs ws → DpAll K H ws (Val.pds vs)
  | _, [], _, _, h => by cases h; exact .nil
  | n, v :: vs, _, p, h => by
    obtain ⟨u, us, rfl, r, rs⟩ := h
    simp only [List.all_cons, Bool.and_eq_true] at p
    exact .cons (VRel.dp n v u p.1 r) (VRels.dp n vs us p.2 rs)
end
end
theorem sOf_beq (x y : List Char) : (sOf x == sOf y) = (x == y) := by
  rw [Bool.eq_iff_iff, beq_iff_eq, beq_iff_eq]
  exact ⟨sOf_inj, fun h => by rw [h]⟩
mutual
theorem eqv_pd : ∀ (n : Nat) (a b : Val), a.pureN n = true → b.pureN n = true → PyData.eqv a.pd b.pd = a.eqv b
  | _, .non, .non, _, _ => by simp [Val.pd, Val.eqv, PyData.eqv]
  | _, .non, .bool _, _, _ | _, .non, .int _, _, _ | _, .non, .str _, _, _ | _, .non, .tup _, _, _ => by simp [Val.pd, Val.eqv, PyData.eqv]
  | _, .bool _, .non, _, _ | _, .bool _, .bool _, _, _ | _, .bool _, .int _, _, _ | _, .bool _, .str _, _, _ | _, .bool _, .tup _, _, _ => by simp [Val.pd, Val.eqv, PyData.eqv]
  | _, .int _, .non, _, _ | _, .int _, .bool _, _, _ | _, .int _, .int _, _, _ | _, .int _, .str _, _, _ | _, .int _, .tup _, _, _ => by simp [Val.pd, Val.eqv, PyData.eqv]
  | _, .str _, .non, _, _ | _, .str _, .bool _, _, _ | _, .str _, .int _, _, _ | _, .str _, .tup _, _, _ => by simp [Val.pd, Val.eqv, PyData.eqv]
  | _, .str x, .str y, _, _ => by simp only [Val.pd, Val.eqv, PyData.eqv]; exact sOf_beq x y
  | _, .tup _, .non, _, _ | _, .tup _, .bool _, _, _ | _, .tup _, .int _, _, _ | _, .tup _, .str _, _, _ => by simp [Val.pd, Val.eqv, PyData.eqv]
  | n + 1, .tup a, .tup b, p, q => by simp only [Val.pd, Val.eqv, PyData.eqv]; exact eqvs_pd n a b p q
  | 0, .tup a, .tup b, p, _ => by cases p
  | 0, .loc _, _, p, _ => by cases p
  | _ + 1, .loc _, _, p, _ => by cases p
  | 0, .cst _, _, p, _ => by cases p
  | _ + 1, .cst _, _, p, _ => by cases p
  | 0, _, .loc _, _, p => by cases p
  | _ + 1, _, .loc _, _, p => by cases p
  | 0, _, .cst _, _, p => by cases p
  | _ + 1, _, .cst _, _, p => by cases p
theorem eqvs_pd : ∀ (n : Nat) (a b : List Val), a.all (Val.pureN n) = true → b.all (Val.pureN n) = true → PyData.eqvAll (Val.pds a) (Val.pds b) = Val.eqvs a b
  | _, [], [], _, _ => by simp [Val.pds, Val.eqvs, PyData.eqvAll]
  | _, [], _ :: _, _, _ => by simp [Val.pds, Val.eqvs, PyData.eqvAll]
  | _, _ :: _, [], _, _ => by simp [Val.pds, Val.eqvs, PyData.eqvAll]
  | n, x :: a, y :: b, p, q => by
    simp only [List.all_cons, Bool.and_eq_true] at p q
    simp only [Val.pds, Val.eqvs, PyData.eqvAll, eqv_pd n x y p.1 q.1, eqvs_pd n a b p.2 q.2]
end
section
variable {X : Cx} {W : WX} {XR : XRel} {H H' B B' : Hp} {m m' : Nat → Addr} {st st' : Store} {ρ : Sl} {σ : L2.St} {α β : Type} {pos : Pos}
def Cop.op : Cop → CmpOp
  | .eq => .Eq | .ne => .NotEq | .lt => .Lt | .le => .LtE | .gt => .Gt | .ge => .GtE | .mem => .In | .nmem => .NotIn | .isN => .Is | .notN => .IsNot
/-- x in a tuple -/
def rInDT (K : PySem.W.Frag) : R2 := fun x y H Q => ∃ d ds, Dp K H x d ∧ Dp K H y (.tuple ds) ∧ SeqAt.shaped d = true ∧ SeqAt.shaped (.tuple ds) = true ∧ Q (.bl (ds.any fun z => PyData.eqv z d)) H
def rNotInDT (K : PySem.W.Frag) : R2 := fun x y H Q => ∃ d ds, Dp K H x d ∧ Dp K H y (.tuple ds) ∧ SeqAt.shaped d = true ∧ SeqAt.shaped (.tuple ds) = true ∧ Q (.bl (!ds.any fun z => PyData.eqv z d)) H
theorem room_in_shapedT {A : Around} {d : PyData} {ds : List PyData} (sd : SeqAt.shaped d = true) (hu : A.units + 65 < cLine) : A.units + 1 + min (PyData.depthAll ds) d.depth < cLine := by
  have h1 := SeqAt.depth_of_shaped sd
  have h2 : min (PyData.depthAll ds) d.depth ≤ d.depth := Nat.min_le_right _ _
  omega
theorem op_inDT (hu : X.A.units + 65 < cLine) : OpR X (compareOp .In) (rInDT X.K) := by
  intro pins s σ H x y v u Q I rx ry h
  obtain ⟨d, ds, hd, he, sd, se, q⟩ := h
  obtain ⟨as, r1⟩ := Dp.reads I d x v hd rx
  obtain ⟨bs, r2⟩ := Dp.reads I (.tuple ds) y u he ry
  exact SeqAt.in_tuple_reads r2 r1 (SeqAt.canLay_of_shaped se) (SeqAt.canLay_of_shaped sd) (room_in_shapedT sd hu) ⟨.bl _, H, I, rfl, q⟩
theorem op_notInDT (hu : X.A.units + 65 < cLine) : OpR X (compareOp .NotIn) (rNotInDT X.K) := by
  intro pins s σ H x y v u Q I rx ry h
  obtain ⟨d, ds, hd, he, sd, se, q⟩ := h
  obtain ⟨as, r1⟩ := Dp.reads I d x v hd rx
  obtain ⟨bs, r2⟩ := Dp.reads I (.tuple ds) y u he ry
  exact SeqAt.notIn_tuple_reads r2 r1 (SeqAt.canLay_of_shaped se) (SeqAt.canLay_of_shaped sd) (room_in_shapedT sd hu) ⟨.bl _, H, I, rfl, q⟩
end
end D


set_option Elab.async false
set_option linter.all false
set_option maxHeartbeats 1000000
/-! DF: dicts with keys that are texts and ints, or tuples. -/
namespace D
open PySem PySem.Spec PyProof.Rows L2

theorem leaf_inj {a b : Val} {k : Key} (ha : a.leaf = some k) (hb : b.leaf = some k) : a = b := by
  cases a <;> cases b <;> simp only [Val.leaf] at ha hb <;> (try cases ha) <;> (try cases hb) <;> try rfl
  · rename_i x y
    injection hb with hb
    injection hb with hb
    rw [sOf_inj hb]
theorem leaf_notTup {a : Val} {k : Key} (ha : a.leaf = some k) : a.isTup = false := by
  cases a <;> first | rfl | cases ha
theorem leaf_of {a : Val} (h : a.key = true) (ht : a.isTup = false) : ∃ k, a.leaf = some k := by
  cases a with
  | int i => exact ⟨_, rfl⟩
  | str x => exact ⟨_, rfl⟩
  | tup vs => cases ht
  | non => cases h
  | bool _ => cases h
  | loc _ => cases h
  | cst _ => cases h
theorem nk_inj : ∀ (n : Nat) (a b : Val) (k : NestedKey), a.nk n = some k → b.nk n = some k → a = b := by
  have leafs : ∀ (n : Nat) (a : Val) (k : NestedKey), a.isTup = false → a.nk n = some k → (a = .non ∧ k = .none) ∨ (∃ i, a = .int i ∧ k = .num i) ∨ ∃ x, a = .str x ∧ k = .text (sOf x) := by
    intro n a k ht h
    cases a with
    | non => cases n <;> (simp only [Val.nk, Option.some.injEq] at h; exact .inl ⟨rfl, h.symm⟩)
    | int i => cases n <;> (simp only [Val.nk, Option.some.injEq] at h; exact .inr (.inl ⟨i, rfl, h.symm⟩))
    | str x => cases n <;> (simp only [Val.nk, Option.some.injEq] at h; exact .inr (.inr ⟨x, rfl, h.symm⟩))
    | bool _ => cases n <;> simp [Val.nk] at h
    | tup _ => cases ht
    | loc _ => cases n <;> simp [Val.nk] at h
    | cst _ => cases n <;> simp [Val.nk] at h
  have leafs2 : ∀ (n : Nat) (a b : Val) (k : NestedKey), a.isTup = false → b.isTup = false → a.nk n = some k → b.nk n = some k → a = b := by
    intro n a b k t1 t2 h1 h2
    rcases leafs n a k t1 h1 with ⟨rfl, rfl⟩ | ⟨i, rfl, rfl⟩ | ⟨x, rfl, rfl⟩ <;> rcases leafs n b _ t2 h2 with ⟨rfl, e⟩ | ⟨j, rfl, e⟩ | ⟨y, rfl, e⟩ <;> first | rfl | cases e | skip
    · rfl
    · injection e with e
      rw [sOf_inj e]
  intro n
  induction n with
  | zero =>
    intro a b k ha hb
    cases ta : a.isTup with
    | true => cases a with
      | tup vs => simp [Val.nk] at ha
      | _ => cases ta
    | false => cases tb : b.isTup with
      | true => cases b with
        | tup vs => simp [Val.nk] at hb
        | _ => cases tb
      | false => exact leafs2 0 a b k ta tb ha hb
  | succ n ih =>
    have all : ∀ (vs us : List Val) (ks : List NestedKey), Val.nks n vs = some ks → Val.nks n us = some ks → vs = us := by
      intro vs
      induction vs with
      | nil =>
        intro us ks h1 h2
        simp only [Val.nks, Option.some.injEq] at h1
        subst h1
        cases us with
        | nil => rfl
        | cons u us =>
          simp only [Val.nks] at h2
          split at h2 <;> simp at h2
      | cons v vs ih2 =>
        intro us ks h1 h2
        simp only [Val.nks] at h1
        split at h1
        · rename_i k1 ks1 e1 e2
          simp only [Option.some.injEq] at h1
          subst h1
          cases us with
          | nil => simp [Val.nks] at h2
          | cons u us =>
            simp only [Val.nks] at h2
            split at h2
            · rename_i k2 ks2 e3 e4
              simp only [Option.some.injEq, List.cons.injEq] at h2
              obtain ⟨rfl, rfl⟩ := h2
              rw [ih v u _ e1 e3, ih2 us _ e2 e4]
            · cases h2
        · cases h1
    intro a b k ha hb
    cases ta : a.isTup with
    | true =>
      cases a with
      | tup vs =>
        simp only [Val.nk, Option.map_eq_some_iff] at ha
        obtain ⟨ks, e1, rfl⟩ := ha
        cases tb : b.isTup with
        | true =>
          cases b with
          | tup us =>
            simp only [Val.nk, Option.map_eq_some_iff] at hb
            obtain ⟨ls, e2, e3⟩ := hb
            injection e3 with e3
            subst e3
            rw [all vs us _ e1 e2]
          | _ => cases tb
        | false => rcases leafs _ b _ tb hb with ⟨_, e⟩ | ⟨_, _, e⟩ | ⟨_, _, e⟩ <;> cases e
      | _ => cases ta
    | false => cases tb : b.isTup with
      | true =>
        cases b with
        | tup us =>
          simp only [Val.nk, Option.map_eq_some_iff] at hb
          obtain ⟨ls, e2, rfl⟩ := hb
          rcases leafs _ a _ ta ha with ⟨_, e⟩ | ⟨_, _, e⟩ | ⟨_, _, e⟩ <;> cases e
        | _ => cases tb
      | false => exact leafs2 _ a b k ta tb ha hb
theorem nk_depth : ∀ (n : Nat) (a : Val) (k : NestedKey), a.nk n = some k → k.depth ≤ n := by
  intro n
  induction n with
  | zero =>
    intro a k h
    cases a <;> simp only [Val.nk, Option.some.injEq] at h <;> first | (subst h; exact Nat.le_refl 0) | cases h
  | succ n ih =>
    intro a k h
    cases a with
    | tup vs =>
      simp only [Val.nk, Option.map_eq_some_iff] at h
      obtain ⟨ks, e, rfl⟩ := h
      have all : ∀ (vs : List Val) (ks : List NestedKey), Val.nks n vs = some ks → NestedKey.depthAll ks ≤ n := by
        intro vs
        induction vs with
        | nil => intro ks h; simp only [Val.nks, Option.some.injEq] at h; subst h; exact Nat.zero_le _
        | cons v vs ih2 =>
          intro ks h
          simp only [Val.nks] at h
          split at h
          · rename_i k1 ks1 e1 e2
            simp only [Option.some.injEq] at h
            subst h
            exact Nat.max_le.mpr ⟨ih _ _ e1, ih2 _ e2⟩
          · cases h
      have := all vs ks e
      show NestedKey.depthAll ks + 1 ≤ n + 1
      omega
    | _ => simp only [Val.nk, Option.some.injEq] at h <;> first | (subst h; exact Nat.zero_le _) | cases h

section
variable {X : Cx} {pins : List (Addr × Obj)} {σ : L2.St} {H : Hp} {s : Shared} {m : Nat → Addr} {n : Nat}
mutual
theorem VRel.nested (I : Inv X pins σ H s) : ∀ (d : Nat) (v : Val) (x : V) (u : Value) (k : NestedKey), v.nk d = some k → VRel X.K H m n v x → RelV x u → NestedIs s.heap k u
  | d, .non, _, _, k, h, r, q => by
    cases r; cases q
    cases d <;> (simp only [Val.nk, Option.some.injEq] at h; subst h; exact .none)
  | d, .int i, _, _, k, h, r, q => by
    cases r; obtain ⟨t, rfl⟩ := q
    cases d <;> (simp only [Val.nk, Option.some.injEq] at h; subst h; exact .int i t)
  | d, .str z, _, _, k, h, r, q => by
    cases r; obtain ⟨t, rfl⟩ := q
    cases d <;> (simp only [Val.nk, Option.some.injEq] at h; subst h; exact .text _ t)
  | d, .bool _, _, _, k, h, _, _ => by cases d <;> simp [Val.nk] at h
  | d, .loc _, _, _, k, h, _, _ => by cases d <;> simp [Val.nk] at h
  | d, .cst _, _, _, k, h, _, _ => by cases d <;> simp [Val.nk] at h
  | 0, .tup _, _, _, k, h, _, _ => by simp [Val.nk] at h
  | d + 1, .tup vs, _, _, k, h, r, q => by
    simp only [Val.nk, Option.map_eq_some_iff] at h
    obtain ⟨ks, e, rfl⟩ := h
    obtain ⟨p, ws, rfl, hs, rs⟩ := r
    cases q
    obtain ⟨its, rv, ⟨o, ho, hc, n', hd⟩, _⟩ := I.tuple hs
    exact .tup ho hc hd (by rw [List.toList_toArray]; exact VRels.nested I d vs ws its ks e rs rv)
theorem VRels.nested (I : Inv X pins σ H s) : ∀ (d : Nat) (vs : List Val) (ws : List V) (us : List Value) (ks : List NestedKey), Val.nks d vs = some ks → VRels X.K H m n vs ws → Vals ws us → NestedAll s.heap ks us
  | d, [], _, _, ks, h, r, q => by
    cases r; cases q
    simp only [Val.nks, Option.some.injEq] at h
    subst h; exact .nil
  | d, v :: vs, _, _, ks, h, r, q => by
    obtain ⟨y, ys, rfl, r1, r2⟩ := r
    cases q with
    | cons q1 q2 =>
      simp only [Val.nks] at h
      split at h
      · rename_i k1 ks1 e1 e2
        simp only [Option.some.injEq] at h
        subst h
        exact .cons (VRel.nested I d v y _ k1 e1 r1 q1) (VRels.nested I d vs ys _ ks1 e2 r2 q2)
      · cases h
end
abbrev PLeaf (K : PySem.W.Frag) (H : Hp) (m : Nat → Addr) (n : Nat) (p : Val × Val) (q : Key × V) : Prop := p.1.leaf = some q.1 ∧ VRel K H m n p.2 q.2
abbrev PTup (K : PySem.W.Frag) (H : Hp) (m : Nat → Addr) (n : Nat) (p : Val × Val) (x : NestedKey × Addr × Value) : Prop := p.1.isTup = true ∧ p.1.nk 8 = some x.1 ∧ VRel K H m n p.1 (.ref x.2.1) ∧ ∃ v, VRel K H m n p.2 v ∧ RelV v x.2.2
theorem Paired.memL {α β : Type} {F : α → β → Prop} : ∀ {l : List α} {r : List β}, Paired F l r → ∀ b ∈ r, ∃ a ∈ l, F a b
  | _, _, .nil, _, h => by cases h
  | _, _, .cons f t, b, h => by
    rcases List.mem_cons.mp h with rfl | h
    · exact ⟨_, List.mem_cons_self, f⟩
    · obtain ⟨a, ha, hf⟩ := Paired.memL t b h
      exact ⟨a, List.mem_cons_of_mem _ ha, hf⟩
theorem Paired.memR {α β : Type} {F : α → β → Prop} : ∀ {l : List α} {r : List β}, Paired F l r → ∀ a ∈ l, ∃ b ∈ r, F a b
  | _, _, .nil, _, h => by cases h
  | _, _, .cons f t, a, h => by
    rcases List.mem_cons.mp h with rfl | h
    · exact ⟨_, List.mem_cons_self, f⟩
    · obtain ⟨b, hb, hf⟩ := Paired.memR t a h
      exact ⟨b, List.mem_cons_of_mem _ hb, hf⟩
theorem Paired.len {α β : Type} {F : α → β → Prop} : ∀ {l : List α} {r : List β}, Paired F l r → l.length = r.length
  | _, _, .nil => rfl
  | _, _, .cons _ t => by simp [Paired.len t]
theorem Paired.app {α β : Type} {F : α → β → Prop} : ∀ {l l' : List α} {r r' : List β}, Paired F l r → Paired F l' r' → Paired F (l ++ l') (r ++ r')
  | _, _, _, _, .nil, t => t
  | _, _, _, _, .cons f s, t => .cons f (Paired.app s t)
/-- an object at hand -/
theorem at_obj (I : Inv X pins σ H s) {a : Addr} {o : Obj} (e : H a = some (AtO a o)) : s.heap.get? a = some o := (I.hok a _ e).1
theorem dleaf_at (I : Inv X pins σ H s) {a : Addr} {o : Obj} {kvs : List (Val × Val)} (e : H a = some (AtO a o)) (d : DLeaf X.prog X.w X.K H m n kvs o) :
    ∃ (kv : List (Key × V)) (vs : List (Key × Value)), s.heap.DictOf (mixKind X.prog X.w) a vs ∧ KV kv vs ∧ Paired (PLeaf X.K H m n) kvs kv := by
  obtain ⟨kv, vs, ⟨es, ep, h1, h2, h3, h4, h5⟩, r, p⟩ := d
  exact ⟨kv, vs, ⟨o, es, ep, at_obj I e, h1, h2, h3, h4, h5⟩, r, p⟩
theorem dtup_at (I : Inv X pins σ H s) {a : Addr} {o : Obj} {kvs : List (Val × Val)} (e : H a = some (AtO a o)) (d : DTup X.prog X.w X.K H m n kvs o) :
    ∃ xs : List (NestedKey × Addr × Value), s.heap.DictOfH (nestedKind X.prog X.w) a xs ∧ Paired (PTup X.K H m n) kvs xs := by
  obtain ⟨xs, ⟨es, ep, h1, h2, h3, h4⟩, p⟩ := d
  refine ⟨xs, ⟨o, es, ep, at_obj I e, h1, h2, h3, fun x hx => ?_, h4⟩, p⟩
  obtain ⟨q, _, q1, q2, q3, _⟩ := Paired.memL p x hx
  exact ⟨VRel.nested I 8 q.1 _ _ _ q2 q3 rfl, nk_depth 8 q.1 _ q2⟩
/-- one way or the other, by the key -/
theorem dict_kind {a : Addr} {kvs : List (Val × Val)} {k : Val} (c : CRel X.prog X.w X.K H m n (.dict kvs) a) (hk : dkOk kvs k = true) :
    (a == sysModules) = false ∧ kvs.length ≤ sizeLine ∧ ∃ o, H a = some (AtO a o) ∧ ((k.isTup = false ∧ DLeaf X.prog X.w X.K H m n kvs o) ∨ (k.isTup = true ∧ DTup X.prog X.w X.K H m n kvs o)) := by
  obtain ⟨h1, h2, o, e, d⟩ := c
  refine ⟨h1, h2, o, e, ?_⟩
  simp only [dkOk, Bool.and_eq_true, List.all_eq_true, beq_iff_eq] at hk
  rcases d with d | d
  · cases ht : k.isTup with
    | false => exact .inl ⟨rfl, d⟩
    | true =>
      obtain ⟨kv, vs, ⟨es, ep, g1, g2, g3, g4, g5⟩, r, p⟩ := d
      cases p with
      | nil =>
        cases r
        refine .inr ⟨rfl, [], ⟨es, ep, g1, g2, ?_, .nil⟩, .nil⟩
        have := g4.length
        cases he : es.toList with
        | nil => rfl
        | cons _ _ => rw [he] at this; simp at this
      | cons f t =>
        have := hk.2 _ List.mem_cons_self
        rw [leaf_notTup f.1, ht] at this
        cases this
  · cases ht : k.isTup with
    | true => exact .inr ⟨rfl, d⟩
    | false =>
      obtain ⟨xs, ⟨es, ep, g1, g2, g3, g4⟩, p⟩ := d
      cases p with
      | nil =>
        refine .inl ⟨rfl, [], [], ⟨es, ep, g1, g2, ?_, ?_, .nil⟩, .nil, .nil⟩
        · intro e he
          have : es.toList = [] := g3
          rw [← Array.mem_toList_iff, this] at he
          cases he
        · rw [show es.toList = [] from g3]; exact .nil
      | cons f t =>
        have := hk.2 _ List.mem_cons_self
        rw [f.1, ht] at this
        cases this
theorem dlook_cons (p : Val × Val) (kvs : List (Val × Val)) (k : Val) : dlook (p :: kvs) k = if p.1 = k then some p.2 else dlook kvs k := by
  unfold dlook
  by_cases h : p.1 = k
  · simp [List.find?_cons, h]
  · have : (p.1 == k) = false := by simpa using h
    simp [List.find?_cons, this, h]
/-- the value found -/
theorem look_leaf {kvs : List (Val × Val)} {kv : List (Key × V)} {vs : List (Key × Value)} {k : Val} {c : Key} (p : Paired (PLeaf X.K H m n) kvs kv) (r : KV kv vs) (hk : k.leaf = some c) :
    (dlook kvs k = none ∧ valueAt vs c = none) ∨ ∃ v x u, dlook kvs k = some v ∧ valueAt vs c = some u ∧ VRel X.K H m n v x ∧ RelV x u := by
  induction p generalizing vs with
  | nil => cases r; exact .inl ⟨rfl, rfl⟩
  | cons f t ih =>
    rename_i a b l₁ l₂
    cases r with
    | cons r1 r2 =>
      rename_i q qs
      rw [dlook_cons, valueAt_cons]
      by_cases h : a.1 = k
      · have : q.1 = c := by
          rw [← r1.1]
          have := f.1
          rw [h, hk] at this
          exact (Option.some.inj this).symm
        rw [if_pos h, if_pos this]
        exact .inr ⟨a.2, b.2, q.2, rfl, rfl, f.2, r1.2⟩
      · have : ¬ q.1 = c := fun e => h (leaf_inj (by rw [f.1, r1.1, e]) hk)
        rw [if_neg h, if_neg this]
        exact ih r2
theorem atKey_cons {K : Type} [DecidableEq K] (p : K × Addr × Value) (xs : List (K × Addr × Value)) (k : K) : atKey (p :: xs) k = if p.1 = k then some p.2 else atKey xs k := by
  unfold atKey
  by_cases h : p.1 = k <;> simp [h]
theorem look_tup {kvs : List (Val × Val)} {xs : List (NestedKey × Addr × Value)} {k : Val} {c : NestedKey} (p : Paired (PTup X.K H m n) kvs xs) (hk : k.nk 8 = some c) :
    (dlook kvs k = none ∧ atKey xs c = none) ∨ ∃ v x u, dlook kvs k = some v ∧ atKey xs c = some u ∧ VRel X.K H m n v x ∧ RelV x u.2 := by
  induction p with
  | nil => exact .inl ⟨rfl, rfl⟩
  | cons f t ih =>
    rename_i a b l₁ l₂
    rw [dlook_cons, atKey_cons]
    by_cases h : a.1 = k
    · have : b.1 = c := by
        have := f.2.1
        rw [h, hk] at this
        exact (Option.some.inj this).symm
      rw [if_pos h, if_pos this]
      obtain ⟨_, _, _, v, h1, h2⟩ := f
      exact .inr ⟨a.2, v, b.2, rfl, rfl, h1, h2⟩
    · have : ¬ b.1 = c := fun e => h (nk_inj 8 _ _ _ (by rw [f.2.1, e]) hk)
      rw [if_neg h, if_neg this]
      exact ih
end
end D


set_option Elab.async false
set_option linter.all false
set_option maxHeartbeats 1000000
/-! DG: comparisons' soundness. -/
namespace D
open PySem PySem.Spec PyProof.Rows L2
section
variable {X : Cx} {W : WX} {XR : XRel} {H H' B B' : Hp} {m m' : Nat → Addr} {st st' : Store} {ρ : Sl} {σ : L2.St} {α β : Type} {pos : Pos}
theorem ltChars_lt : ∀ (a b : List Char), ltChars a b = decide (a.map Char.toNat < b.map Char.toNat)
  | [], [] => by simp [ltChars]
  | [], _ :: _ => by simp [ltChars]
  | _ :: _, [] => by simp [ltChars]
  | a :: r, b :: t => by
    have ih := ltChars_lt r t
    rw [ltChars, ih, List.map_cons, List.map_cons, Bool.eq_iff_iff]
    simp only [Bool.or_eq_true, decide_eq_true_eq, Bool.and_eq_true, beq_iff_eq, List.cons_lt_cons_iff]
    constructor
    · rintro (h | ⟨h1, h2⟩)
      · exact .inl h
      · exact .inr ⟨by rw [h1], h2⟩
    · rintro (h | ⟨h1, h2⟩)
      · exact .inl h
      · exact .inr ⟨toNat_inj h1, h2⟩
/-- in and not in of dicts, by what they do -/
theorem in_dict {K : PySem.W.Frag} (hu : X.A.units + 100 < cLine) {n : Nat} {a : Addr} {kvs : List (Val × Val)} {k : Val} {x : V} {Q : VK} (c : CRel X.prog X.w X.K H m n (.dict kvs) a) (hk : dkOk kvs k = true) (r : VRel X.K H m n k x)
    (neg : Bool) (h : Q (.bl (if neg then !(dlook kvs k).isSome else (dlook kvs k).isSome)) H) : rSem X (compareOp (if neg then .NotIn else .In)) x (.ref a) H Q := by
  intro pins s σ v u I rx ry
  cases ry
  obtain ⟨h1, h2, o, e, d⟩ := dict_kind c hk
  have hk1 : k.key = true := by
    simp only [dkOk, Bool.and_eq_true] at hk
    exact hk.1
  rcases d with ⟨ht, d⟩ | ⟨ht, d⟩
  · obtain ⟨kv, vs, D, rel, p⟩ := dleaf_at I e d
    obtain ⟨c, hc⟩ := leaf_of hk1 ht
    have his : (mixKind X.prog X.w).is c v = true := by
      cases k with
      | int i => cases hc; cases r; obtain ⟨t, rfl⟩ := rx; exact keyIs_int i t
      | str z => cases hc; cases r; obtain ⟨t, rfl⟩ := rx; exact keyIs_str _ t
      | _ => cases hc
    have hs : (valueAt vs c).isSome = (dlook kvs k).isSome := by
      rcases look_leaf p rel hc with ⟨e1, e2⟩ | ⟨_, _, _, e1, e2, _⟩ <;> rw [e1, e2] <;> rfl
    cases neg with
    | false => exact wpAny_in_of his h1 D.mapOf (by rw [hs]; exact ⟨.bl _, H, I.tok _, rfl, h⟩)
    | true => exact wpAny_notIn_of his h1 D.mapOf (by rw [hs]; exact ⟨.bl _, H, I.tok _, rfl, h⟩)
  · obtain ⟨xs, D, p⟩ := dtup_at I e d
    cases k with
    | tup us =>
      obtain ⟨c, hc⟩ : ∃ c, (Val.tup us).nk 8 = some c := Option.isSome_iff_exists.mp hk1
      obtain ⟨q, ws, rfl, hq, rq⟩ := id r
      cases rx
      have his : (nestedKind X.prog X.w).is s.heap c q := ⟨VRel.nested I 8 _ _ _ _ hc r rfl, nk_depth 8 _ _ hc⟩
      have hr : (nestedKind X.prog X.w).room X.A.in1 := by show X.A.units + 1 + 8 < cLine; omega
      have hs : (atKey xs c).isSome = (dlook kvs (.tup us)).isSome := by
        rcases look_tup p hc with ⟨e1, e2⟩ | ⟨_, _, _, e1, e2, _⟩ <;> rw [e1, e2] <;> rfl
      cases neg with
      | false => exact wpAny_in_heap hr his h1 D (by rw [hs]; exact ⟨.bl _, H, I.tok _, rfl, h⟩)
      | true =>
        show wpAny _ _ (do return Value.bool (!(← contains (.ref a) (.ref q)))) _ _ s
        exact wpAny_bind (wpAny_contains_heap hr his h1 D (wpAny_pure (by rw [hs]; exact ⟨.bl _, H, I.tok _, rfl, h⟩)))
    | _ => cases ht
theorem eqv_list {a b : List Val} (ha : a.all (·.pure) = true) (hb : b.all (·.pure) = true) : PyData.eqv (.list (Val.pds a)) (.list (Val.pds b)) = Val.eqvs a b := by
  simp only [PyData.eqv]
  exact eqvs_pd 60 a b ha hb
theorem any_pds {vs : List Val} {x : Val} (hx : x.pure = true) (hv : vs.all (·.pure) = true) : ((Val.pds vs).any fun z => PyData.eqv z x.pd) = vs.any fun y => y.eqv x := by
  rw [pds_map]
  induction vs with
  | nil => rfl
  | cons y ys ih =>
    simp only [List.all_cons, Bool.and_eq_true] at hv
    rw [List.map_cons, List.any_cons, List.any_cons, ih hv.2]
    congr 1
    exact eqv_pd 60 y x hv.1 hx
theorem evNon {x : EV} {v : V} (hx : ∀ c, x ≠ .v (.cst c)) (S : Sim X.prog X.w X.K H m ρ st σ) (r : EVRel X.prog X.w X.K H m st.length B ρ σ x v) : decide (v = .non) = decide (x = .v .non) := by
  have key : ∀ a, v = V.ref a → decide (v = V.non) = false := fun a e => by rw [e]; rfl
  cases x with
  | v y =>
    cases y with
    | non => cases r; rfl
    | bool _ => cases r; rfl
    | int _ => cases r; rfl
    | str _ => cases r; rfl
    | tup _ => obtain ⟨p, _, e, _⟩ := r; exact key p e
    | loc l => exact key _ r.2
    | cst c => exact absurd rfl (hx c)
  | t c => obtain ⟨p, e, _⟩ := r; exact key p e
  | b i c =>
    obtain ⟨⟨_, e1⟩, e2⟩ := r
    obtain ⟨u, e3, a, e4, _⟩ := S.slot.get i _ e1
    rw [e2] at e3
    cases e3
    exact key a e4
theorem occ_empty (z : Str) : (Builtin.Str.occurrences z (sOf []) 0 z.length 1).isEmpty = false := by
  have h : (forIn (List.range' 0 (z.length + 1 - 0)) ((#[], 0) : Array Nat × Nat) (StrLaws.occBody z (sOf []) z.length 1)).run.fst ≠ #[] := by
    intro e
    have := (StrLaws.occ_none z (sOf []) z.length (List.range' 0 (z.length + 1 - 0)) 0 (fun _ _ => Nat.zero_le _)).mp e 0 (by simp [List.mem_range'])
    exact this (by simp [sOf, Str.length, Builtin.Str.subAt])
  rw [StrLaws.occ_eq]
  cases e : (forIn (List.range' 0 (z.length + 1 - 0)) ((#[], 0) : Array Nat × Nat) (StrLaws.occBody z (sOf []) z.length 1)).run.fst.toList with
  | nil => exact absurd (Array.toList_eq_nil_iff.mp e) h
  | cons _ _ => rfl
abbrev KeqHitsIn' (prog : Program) (w : World) (A : Around) (s : Shared) (kb ka : List (Key × Value)) (r : Bool) : Prop := PySem.W.KeqHitsIn prog w A s kb ka r
theorem keq_neIn {prog : Program} {w : World} {K : Type} [DecidableEq K] {knd : PySem.KeyKind prog w K} {A : Around} {E : Value → Shared → Prop} {s : Shared} {a b : Addr} {ka kb : List (K × Value)} {r : Bool} {Q : Value → Shared → Prop} (ha : (a == sysModules) = false) (hb : (b == sysModules) = false)
    (da : s.heap.DictOf knd a ka) (db : s.heap.DictOf knd b kb) (hu : A.units < cLine) (hits : ka.length = kb.length → PySem.W.KeqHitsIn prog w A.in1 s kb ka r) (h : Q (.bool (!(ka.length == kb.length && r))) s) :
    wpAny (model prog w) A (compareOp .NotEq (.ref a) (.ref b)) Q E s := by
  refine wpAny_richCompare_same_room (op := .NotEq) da.typeIs db.typeIs PySem.F.slot_dict_ne (wpAny_call_entry PySem.F.slot_dict_ne da.typeIs PySem.F.entry_dict_ne ?_ (PySem.F.args_dict_ne_2 _ _)) hu
  show wpAny _ _ (Builtin.Dict.dictSlotArgs "__ne__" ⟨[.ref a, .ref b], []⟩ >>= _) _ _ s
  refine wpAny_bind ?_
  unfold Builtin.Dict.dictSlotArgs
  refine wpAny_bind (wpAny_notOrdered_dict da.typeIs ?_)
  show wpAny _ _ (pure (Value.ref a, Value.ref b)) _ _ s
  refine wpAny_pure ?_
  refine wpAny_bind (wpAny_isInstance (T := "dict") db.typeIs PySem.F.sub_dict_dict ?_)
  simp only [Bool.not_true, Bool.false_eq_true, if_false]
  refine wpAny_bind (wpAny_pure (wpAny_bind (wpAny_pure ?_)))
  refine wpAny_bind (PySem.W.keq_samePairsIn ha hb da db hits ?_)
  refine wpAny_pure ⟨_, rfl, ?_, ?_⟩
  · exact fun x => nomatch x
  · simpa using h
theorem pair_at {K : PySem.W.Frag} {n : Nat} {ka : List (Val × Val)} {kva : List (Key × V)} {va : List (Key × Value)} (p : Paired (PLeaf K H m n) ka kva) (r : KV kva va) (nd : (va.map (·.1)).Nodup) : ∀ c v, (c, v) ∈ va →
    ∃ kv x, kv ∈ ka ∧ kv.1.leaf = some c ∧ ka.find? (fun kv => decide (kv.1.leaf = some c)) = some kv ∧ VRel K H m n kv.2 x ∧ RelV x v := by
  induction p generalizing va with
  | nil => intro c v hm; cases r; cases hm
  | cons f t ih =>
    rename_i p0 q0 _ _
    intro c v hm
    cases r with
    | cons r1 r2 =>
      rename_i u0 us
      rw [List.map_cons, List.nodup_cons] at nd
      rcases List.mem_cons.mp hm with e | hm
      · have e1 : c = u0.1 := congrArg Prod.fst e
        have e2 : v = u0.2 := congrArg Prod.snd e
        refine ⟨p0, q0.2, List.mem_cons_self, by rw [f.1, r1.1, e1], ?_, f.2, by rw [e2]; exact r1.2⟩
        rw [List.find?_cons, decide_eq_true (by rw [f.1, r1.1, e1])]
      · obtain ⟨kv, x, g1, g2, g3, g4, g5⟩ := ih r2 nd.2 c v hm
        refine ⟨kv, x, List.mem_cons_of_mem _ g1, g2, ?_, g4, g5⟩
        rw [List.find?_cons, decide_eq_false, g3]
        intro z
        rw [f.1, r1.1] at z
        exact nd.1 (List.mem_map.mpr ⟨(c, v), hm, (Option.some.inj z).symm⟩)
theorem pair_self {K : PySem.W.Frag} {n : Nat} {ka : List (Val × Val)} {kva : List (Key × V)} {va : List (Key × Value)} (p : Paired (PLeaf K H m n) ka kva) (r : KV kva va) (nd : (va.map (·.1)).Nodup) :
    ∀ kv ∈ ka, ka.find? (fun z => decide (z.1.leaf = kv.1.leaf)) = some kv := by
  induction p generalizing va with
  | nil => intro kv h; cases h
  | cons f t ih =>
    rename_i p0 q0 l1 l2
    intro kv hm
    cases r with
    | cons r1 r2 =>
      rename_i u0 us
      rw [List.map_cons, List.nodup_cons] at nd
      rcases List.mem_cons.mp hm with e | hm
      · subst e
        rw [List.find?_cons, decide_eq_true rfl]
      · rw [List.find?_cons, decide_eq_false, ih r2 nd.2 kv hm]
        intro z
        obtain ⟨q, hq, fq⟩ := Paired.memR t kv hm
        obtain ⟨y, hy, fy⟩ := Paired.memR r2 q hq
        rw [f.1, r1.1, fq.1, fy.1] at z
        exact nd.1 (List.mem_map.mpr ⟨y, hy, (Option.some.inj z).symm⟩)
/-- at a key c, whether the two values are alike -/
def eqAtKey (ka kb : List (Val × Val)) (c : Key) : Bool := match ka.find? (fun kv => decide (kv.1.leaf = some c)) with
  | some kv => (match dlook kb kv.1 with
    | some v => kv.2.eqv v
    | none => false)
  | none => false
theorem dict_cells_eq {a b : Addr} {n : Nat} {ka kb : List (Val × Val)} {r : Bool} {Q : VK} {neg : Bool} (hu : X.A.units + 200 < cLine) (ca : CRel X.prog X.w X.K H m n (.dict ka) a) (cb : CRel X.prog X.w X.K H m n (.dict kb) b)
    (h : ceq (.dict ka) (.dict kb) = some r) (q : Q (.bl (if neg then !r else r)) H) : rSem X (compareOp (if neg then .NotEq else .Eq)) (.ref a) (.ref b) H Q := by
  simp only [ceq] at h
  split at h
  · rename_i hc
    simp only [Bool.and_eq_true] at hc
    obtain ⟨⟨⟨⟨⟨h1, h2⟩, h3⟩, h4⟩, h5⟩, h6⟩ := hc
    cases h
    have leafD : ∀ {kvs : List (Val × Val)} {a : Addr}, hom kvs = true → (kvs.all fun kv => !kv.1.isTup) = true → CRel X.prog X.w X.K H m n (.dict kvs) a → (a == sysModules) = false ∧ ∃ o, H a = some (AtO a o) ∧ DLeaf X.prog X.w X.K H m n kvs o := by
      intro kvs a g1 g2 c
      have : dkOk kvs (.int 0) = true := by
        simp only [dkOk, Val.key, Bool.true_and, List.all_eq_true, beq_iff_eq]
        intro x hx
        have := List.all_eq_true.mp g2 x hx
        simpa [Val.isTup] using this
      obtain ⟨e1, _, o, e2, d⟩ := dict_kind c this
      rcases d with ⟨_, d⟩ | ⟨z, _⟩
      · exact ⟨e1, o, e2, d⟩
      · cases z
    obtain ⟨sa, oa, ea, da⟩ := leafD h1 h5 ca
    obtain ⟨sb, ob, eb, db⟩ := leafD h2 h6 cb
    intro pins s σ v u I rx ry
    cases rx; cases ry
    obtain ⟨kva, va, Da, ra, pa⟩ := dleaf_at I ea da
    obtain ⟨kvb, vb, Db, rb, pb⟩ := dleaf_at I eb db
    have nda : (va.map (·.1)).Nodup := by obtain ⟨_, _, _, _, _, _, _, _, nd⟩ := Da; exact nd
    have tree : ∀ c v y, (c, v) ∈ va → valueAt vb c = some y → PySem.W.EqTree X.prog X.w s 60 v y (eqAtKey ka kb c) := by
      intro c v y hm hv
      obtain ⟨kv, x, g1, g2, g3, g4, g5⟩ := pair_at pa ra nda c v hm
      have hb2 : ∃ w2 x2, dlook kb kv.1 = some w2 ∧ VRel X.K H m n w2 x2 ∧ RelV x2 y := by
        rcases look_leaf pb rb g2 with ⟨_, e2⟩ | ⟨w2, x2, u2, e1, e2, e3, e4⟩
        · rw [hv] at e2; cases e2
        · rw [hv] at e2; cases e2; exact ⟨w2, x2, e1, e3, e4⟩
      obtain ⟨w2, x2, e1, e3, e4⟩ := hb2
      have pv : kv.2.pure = true := List.all_eq_true.mp h3 kv g1
      have pw : w2.pure = true := by
        unfold dlook at e1
        obtain ⟨z, hz, rfl⟩ := Option.map_eq_some_iff.mp e1
        exact List.all_eq_true.mp h4 z (List.mem_of_find?_eq_some hz)
      have eE : eqAtKey ka kb c = kv.2.eqv w2 := by unfold eqAtKey; rw [g3]; dsimp only; rw [e1]
      rw [eE]
      obtain ⟨as1, rd1⟩ := Dp.reads I _ _ _ (VRel.dp 60 _ _ pv g4) g5
      obtain ⟨as2, rd2⟩ := Dp.reads I _ _ _ (VRel.dp 60 _ _ pw e3) e4
      have d1 := pure_lay 60 _ pv
      have d2 := pure_lay 60 _ pw
      refine .leaf fun A' hA => ?_
      rw [← eqv_pd 60 _ _ pv pw]
      exact SeqAt.eqAt_reads _ _ A' s v y _ _ rd1 rd2 d1.1 d2.1 (Nat.lt_of_le_of_lt (Nat.add_le_add_left (Nat.le_trans (Nat.min_le_left _ _) d1.2) _) hA)
    have l1 : va.length = ka.length := by rw [← ra.length, ← Paired.len pa]
    have l2 : vb.length = kb.length := by rw [← rb.length, ← Paired.len pb]
    have gen : ∀ (ka' : List (Val × Val)) (kva' : List (Key × V)) (va' : List (Key × Value)), Paired (PLeaf X.K H m n) ka' kva' → KV kva' va' → (∀ kv ∈ ka', ka.find? (fun z => decide (z.1.leaf = kv.1.leaf)) = some kv) →
        (va'.all fun p => (valueAt vb p.1).isSome && eqAtKey ka kb p.1) = ka'.all fun kv => match dlook kb kv.1 with | none => false | some v => kv.2.eqv v := by
      intro ka' kva' va' p
      induction p generalizing va' with
      | nil => intro r _; cases r; rfl
      | cons f t ih =>
        rename_i p0 q0 _ _
        intro r hf
        cases r with
        | cons r1 r2 =>
          rename_i u0 us
          rw [List.all_cons, List.all_cons, ih us r2 fun kv hk => hf kv (List.mem_cons_of_mem _ hk)]
          congr 1
          have hl : p0.1.leaf = some u0.1 := by rw [f.1, r1.1]
          have eE : eqAtKey ka kb u0.1 = match dlook kb p0.1 with | none => false | some v => p0.2.eqv v := by
            unfold eqAtKey
            have := hf p0 List.mem_cons_self
            rw [hl] at this
            rw [this]
            dsimp only
            cases dlook kb p0.1 <;> rfl
          rw [eE]
          rcases look_leaf pb rb hl with ⟨e1, e2⟩ | ⟨_, _, _, e1, e2, _⟩ <;> rw [e1, e2] <;> simp
    have eall := gen ka kva va pa ra (pair_self pa ra nda)
    have eb : (va.length == vb.length && va.all fun p => (valueAt vb p.1).isSome && eqAtKey ka kb p.1) = (ka.length == kb.length && ka.all fun kv => match dlook kb kv.1 with | none => false | some v => kv.2.eqv v) := by rw [eall, l1, l2]
    have hits : KeqHitsIn' X.prog X.w X.A.in1 s vb va (va.all fun p => (valueAt vb p.1).isSome && eqAtKey ka kb p.1) :=
      PySem.W.KeqHitsIn.of _ fun k v y hm hv => (tree k v y hm hv).at X.A.in1 (by show X.A.units + 1 + 60 < cLine; omega)
    cases neg with
    | false =>
      refine PySem.W.keq_eqIn sa sb Da Db (by omega) (fun _ => hits) ?_
      rw [eb]
      exact ⟨.bl _, H, I, rfl, q⟩
    | true =>
      refine keq_neIn sa sb Da Db (by omega) (fun _ => hits) ?_
      rw [eb]
      exact ⟨.bl _, H, I, rfl, q⟩
  · cases h
theorem cop_sound {E : XK} {o : Cop} {x y : EV} {v u : V} {B1 B2 : Hp} {Q : VK} (hu : X.A.units + 200 < cLine) (S : Sim X.prog X.w X.K H m ρ st σ) (b : Bs B m st.length H)
    (rx : EVRel X.prog X.w X.K H m st.length B1 ρ σ x v) (ry : EVRel X.prog X.w X.K H m st.length B2 ρ σ y u) (h : PostM X.prog X.w X.K XR E B m st.length (fun c _ _ H' => Q (.bl c) H') (cop o x y st)) :
    rSem X (compareOp o.op) v u H Q := by
  -- equality
  have eqS : ∀ (neg : Bool) (r : Bool), eqEV st x y = some r → Q (.bl (if neg then !r else r)) H → rSem X (compareOp (if neg then .NotEq else .Eq)) v u H Q := by
    intro neg r e q
    unfold eqEV at e
    split at e
    · rename_i c d hc hd
      obtain ⟨pa, rfl, ca⟩ := cell_rel S rx hc
      obtain ⟨pb, rfl, cb⟩ := cell_rel S ry hd
      cases c with
      | lst vs =>
        cases d with
        | lst us =>
          simp only [ceq, Val.peqs] at e
          by_cases hlen : vs.length = us.length
          case neg =>
            rw [if_neg hlen] at e
            cases e
            obtain ⟨ws, e1, r1⟩ := ca
            obtain ⟨xs, e2, r2⟩ := cb
            intro pins s σ' v' u' I rv ru
            cases rv; cases ru
            obtain ⟨i1, t1, p1, _⟩ := I.list (.of e1)
            obtain ⟨i2, t2, p2, _⟩ := I.list (.of e2)
            have hsz : (i1.toArray.size != i2.toArray.size) = true := by
              have h1 := t1.length
              have h2 := t2.length
              rw [← r1.length] at h1
              rw [← r2.length] at h2
              simp only [List.size_toArray, bne_iff_ne]
              omega
            cases neg with
            | false => exact SeqAt.eq_list_lengthsAt p1.isList p2.isList hsz (by omega) ⟨.bl false, H, I, rfl, q⟩
            | true => exact SeqAt.RcNeAt.lists_lengths p1.isList p2.isList hsz (by omega) X.prog X.w _ _ ⟨.bl true, H, I, rfl, q⟩
          rw [if_pos hlen] at e
          split at e
          · rename_i hp
            simp only [Bool.and_eq_true] at hp
            cases e
            obtain ⟨ws, e1, r1⟩ := ca
            obtain ⟨xs, e2, r2⟩ := cb
            have d1 : Dp X.K H (.ref pa) (.list (Val.pds vs)) := .lst (.of e1) (VRels.dp 60 vs ws hp.1 r1)
            have d2 : Dp X.K H (.ref pb) (.list (Val.pds us)) := .lst (.of e2) (VRels.dp 60 us xs hp.2 r2)
            rw [← eqv_list hp.1 hp.2] at q
            cases neg with
            | false => exact rSem_of (op_eqD (by omega)) ⟨_, _, d1, d2, pures_shaped hp.1 true, pures_shaped hp.2 true, q⟩
            | true => exact rSem_of (op_neD (by omega)) ⟨_, _, d1, d2, pures_shaped hp.1 true, pures_shaped hp.2 true, q⟩
          · cases e
        | _ => cases e
      | dict ka =>
        cases d with
        | dict kb => exact dict_cells_eq hu ca cb e q
        | _ => cases e
      | _ => cases e
    · split at e
      · rename_i a c _ _
        unfold Val.peq at e
        split at e
        · rename_i hp
          simp only [Bool.and_eq_true] at hp
          cases e
          have d1 := VRel.dp 60 a v hp.1 rx
          have d2 := VRel.dp 60 c u hp.2 ry
          rw [← eqv_pd 60 a c hp.1 hp.2] at q
          cases neg with
          | false => exact rSem_of (op_eqD (by omega)) ⟨_, _, d1, d2, pure_shaped hp.1, pure_shaped hp.2, q⟩
          | true => exact rSem_of (op_neD (by omega)) ⟨_, _, d1, d2, pure_shaped hp.1, pure_shaped hp.2, q⟩
        · cases e
      · cases e
    · cases e
  have memS : ∀ (neg : Bool) (r : Bool), memEV st x y = some r → Q (.bl (if neg then !r else r)) H → rSem X (compareOp (if neg then .NotIn else .In)) v u H Q := by
    intro neg r e q
    unfold memEV at e
    split at e
    · rename_i c
      cases e
      cases rx; cases ry
      cases neg with
      | false =>
        refine rSem_of op_in_str ⟨_, _, rfl, rfl, ?_⟩
        rw [occ_empty]
        exact q
      | true =>
        refine rSem_of op_notin_str ⟨_, _, rfl, rfl, ?_⟩
        rw [occ_empty]
        exact q
    · rename_i c d
      cases e
      cases rx; cases ry
      have e1 : decide (c.toNat ∈ (sOf d).cps.toList) = d.contains c := by
        rw [sOf_list, Bool.eq_iff_iff, decide_eq_true_eq, List.contains_iff_mem, List.mem_map]
        exact ⟨fun ⟨z, hz, e⟩ => toNat_inj e ▸ hz, fun h => ⟨c, h, rfl⟩⟩
      cases neg with
      | false => exact rSem_of op_in_sign ⟨_, _, rfl, rfl, by rw [e1]; exact q⟩
      | true => exact rSem_of op_notIn_sign ⟨_, _, rfl, rfl, by rw [e1]; exact q⟩
    · rename_i a vs
      unfold memL at e
      split at e
      · rename_i hp
        simp only [Bool.and_eq_true] at hp
        cases e
        obtain ⟨p, ws, rfl, s1, r1⟩ := ry
        have d1 := VRel.dp 60 a v hp.1 rx
        have d2 : Dp X.K H (.ref p) (.tuple (Val.pds vs)) := .tup s1 (VRels.dp 60 vs ws hp.2 r1)
        rw [← any_pds hp.1 hp.2] at q
        cases neg with
        | false => exact rSem_of (op_inDT (by omega)) ⟨_, _, d1, d2, pure_shaped hp.1, pures_shaped hp.2 false, q⟩
        | true => exact rSem_of (op_notInDT (by omega)) ⟨_, _, d1, d2, pure_shaped hp.1, pures_shaped hp.2 false, q⟩
      · cases e
    · rename_i a _ _ _
      split at e
      · rename_i vs hc
        unfold memL at e
        split at e
        · rename_i hp
          simp only [Bool.and_eq_true] at hp
          cases e
          obtain ⟨p, ws, rfl, e1, r1⟩ := cell_lst S ry hc
          have d1 := VRel.dp 60 a v hp.1 rx
          have d2 : Dp X.K H (.ref p) (.list (Val.pds vs)) := .lst (.of e1) (VRels.dp 60 vs ws hp.2 r1)
          rw [← any_pds hp.1 hp.2] at q
          cases neg with
          | false => exact rSem_of (op_inD (by omega)) ⟨_, _, d1, d2, pure_shaped hp.1, pures_shaped hp.2 true, q⟩
          | true => exact rSem_of (op_notInD (by omega)) ⟨_, _, d1, d2, pure_shaped hp.1, pures_shaped hp.2 true, q⟩
        · cases e
      · rename_i kvs hc
        split at e
        · rename_i hk
          cases e
          obtain ⟨p, rfl, c⟩ := cell_rel S ry hc
          exact in_dict (K := X.K) (by omega) c hk rx neg q
        · cases e
      · cases e
    · cases e
  unfold cop at h
  cases o with
  | eq =>
    dsimp only at h
    cases e : eqEV st x y with
    | none => rw [e] at h; exact h.elim
    | some r => rw [e] at h; exact eqS false r e (h.done b S.heap)
  | ne =>
    dsimp only at h
    cases e : eqEV st x y with
    | none => rw [e] at h; exact h.elim
    | some r => rw [e] at h; exact eqS true r e (h.done b S.heap)
  | mem =>
    dsimp only at h
    cases e : memEV st x y with
    | none => rw [e] at h; exact h.elim
    | some r => rw [e] at h; exact memS false r e (h.done b S.heap)
  | nmem =>
    dsimp only at h
    cases e : memEV st x y with
    | none => rw [e] at h; exact h.elim
    | some r => rw [e] at h; exact memS true r e (h.done b S.heap)
  | isN =>
    dsimp only at h
    split at h
    · exact h.elim
    · rename_i hx
      cases ry
      refine rSem_of op_isN ⟨rfl, ?_⟩
      rw [evNon (fun c e => hx c e) S rx]
      exact h.done b S.heap
    · exact h.elim
  | notN =>
    dsimp only at h
    split at h
    · exact h.elim
    · rename_i hx
      cases ry
      refine rSem_of op_notN ⟨rfl, ?_⟩
      rw [evNon (fun c e => hx c e) S rx]
      exact h.done b S.heap
    · exact h.elim
  | lt =>
    dsimp only at h
    split at h
    · cases rx; cases ry; exact rSem_of op_lt ⟨_, _, rfl, rfl, h.done b S.heap⟩
    · rename_i a c
      cases rx; cases ry
      refine rSem_of op_lt_str ⟨_, _, rfl, rfl, ?_⟩
      rw [sOf_list, sOf_list, ← ltChars_lt]
      exact h.done b S.heap
    · exact h.elim
  | gt =>
    dsimp only at h
    split at h
    · cases rx; cases ry; exact rSem_of op_gt ⟨_, _, rfl, rfl, h.done b S.heap⟩
    · exact h.elim
  | le =>
    dsimp only at h
    split at h
    · cases rx; cases ry; exact rSem_of op_le ⟨_, _, rfl, rfl, h.done b S.heap⟩
    · exact h.elim
  | ge =>
    dsimp only at h
    split at h
    · cases rx; cases ry; exact rSem_of op_ge ⟨_, _, rfl, rfl, h.done b S.heap⟩
    · rename_i a c
      cases rx; cases ry
      refine rSem_of op_ge_str ⟨_, _, rfl, rfl, ?_⟩
      rw [sOf_list, sOf_list, ← ltChars_lt]
      exact h.done b S.heap
    · exact h.elim
end
end D


set_option Elab.async false
set_option linter.all false
set_option maxHeartbeats 1000000
/-! DH: comparisons, displays, arguments, subscripts, calls of what is built in. -/
namespace D
open PySem PySem.Spec PyProof.Rows L2
section
variable (X : Cx) (W : WX) (XR : XRel)
/-- arguments that are given places; that are only read; a part of a slice -/
def rdEs (ev : Sl → M (List Val)) : TA := fun σ H Q => ∃ (B : Hp) (ρ : Sl) (st : Store) (m : Nat → Addr), Sim X.prog X.w X.K H m ρ st σ ∧ Bs B m st.length H ∧
  PostM X.prog X.w X.K XR (WE W σ) B m st.length (fun vs m' st' H' => ∀ ws, VRels X.K H' m' st'.length vs ws → Q ws H') (ev ρ st)
def EVRels (P : Program) (w : World) (K : PySem.W.Frag) (H : Hp) (m : Nat → Addr) (n : Nat) (B : Hp) (ρ : Sl) (σ : L2.St) : List EV → List V → Prop
  | [], ws => ws = []
  | x :: xs, ws => ∃ u us, ws = u :: us ∧ EVRel P w K H m n B ρ σ x u ∧ EVRels P w K H m n B ρ σ xs us
def rdXs (ev : Sl → M (List EV)) : TA := fun σ H Q => ∃ (B : Hp) (ρ : Sl) (st : Store) (m : Nat → Addr), Sim X.prog X.w X.K H m ρ st σ ∧ Bs B m st.length H ∧
  PostM X.prog X.w X.K XR (WE W σ) B m st.length (fun xs m' st' H' => ∀ ws, EVRels X.prog X.w X.K H' m' st'.length B ρ σ xs ws → Q ws H') (ev ρ st)
def rdOi (ev : Sl → M (Option Int)) : TO := fun σ H Q => ∃ (B : Hp) (ρ : Sl) (st : Store) (m : Nat → Addr), Sim X.prog X.w X.K H m ρ st σ ∧ Bs B m st.length H ∧
  PostM X.prog X.w X.K XR (WE W σ) B m st.length (fun o _ _ H' => Q o H') (ev ρ st)
end
section
variable {X : Cx} {W : WX} {XR : XRel} {H H' B B' : Hp} {m m' : Nat → Addr} {st st' : Store} {ρ : Sl} {σ : L2.St} {α β : Type} {pos : Pos}
theorem PA.imp {es : List Expr} {t t' : TA} (h : PA X es t) (hi : ∀ σ H Q, t' σ H Q → t σ H Q) : PA X es t' := ⟨fun pos pins s σ H Q I q => h.run pos pins s σ H Q I (hi σ H Q q)⟩
theorem PO.imp {e : Option Expr} {t t' : TO} (h : PO X e t) (hi : ∀ σ H Q, t' σ H Q → t σ H Q) : PO X e t' := ⟨fun pins s σ H Q I q => h.run pins s σ H Q I (hi σ H Q q)⟩
theorem bs_more (b : Bs B m st.length H) {m1 : Nat → Addr} {st1 : Store} {H1 : Hp} (x1 : Nx (outB H m st.length) m st.length m1 st1.length H1) : Bs B m1 st1.length H1 :=
  Nx.bs ⟨x1.le, x1.agree, fun a o e => x1.keep a o (b.le_out a o e), fun l h1 h2 => by
    have := x1.fresh l h1 h2
    cases q : B (m1 l) with
    | none => rfl
    | some o => rw [b.le_out _ _ q] at this; cases this⟩ b
/-- any later step -/
theorem seq_gen {g : M α} {f : α → M β} {R : β → (Nat → Addr) → Store → Hp → Prop} {E : XK} {R' : α → (Nat → Addr) → Store → Hp → Prop} (S : Sim X.prog X.w X.K H m ρ st σ) (b : Bs B m st.length H)
    (h : PostM X.prog X.w X.K XR E B m st.length R ((g >>= f) st))
    (k : ∀ a m1 st1 H1, Step m st.length H m1 st1.length H1 → Sim X.prog X.w X.K H1 m1 ρ st1 σ → Bs B m1 st1.length H1 → PostM X.prog X.w X.K XR E B m1 st1.length R (f a st1) → R' a m1 st1 H1) :
    PostM X.prog X.w X.K XR E (outB H m st.length) m st.length R' (g st) :=
  (PostM.bind h).more b.le_out |>.imp fun x m1 st1 H1 x1 hr h2 => k x m1 st1 H1 (x1.step hr) (S.step (x1.step hr) hr) (bs_more b x1) h2
/-- what slots own is none of the store's -/
theorem own_out (S : Sim X.prog X.w X.K H m ρ st σ) {i : Nat} {c : Cell} {k : Bool} {a : Addr} (e : ρ[i]? = some (some (.t c k))) (e2 : σ[i]? = some (some (.ref a))) : ∃ o, outB H m st.length a = some o := by
  obtain ⟨v, e3, a', e4, hc, hn⟩ := S.slot.get i _ e
  rw [e2] at e3
  cases e3
  cases e4
  obtain ⟨o, ho, ht, _⟩ := hc.some
  exact ⟨o, outB_some.mpr ⟨ho, ht, hn⟩⟩
/-- given a place -/
theorem intern_ok {E : XK} {R : β → (Nat → Addr) → Store → Hp → Prop} {f : Val → M β} {x : EV} {v : V} {B0 : Hp} (S : Sim X.prog X.w X.K H m ρ st σ) (b : Bs B m st.length H)
    (r : EVRel X.prog X.w X.K H m st.length B0 ρ σ x v) (hb : ∀ a o, B a = some o → B0 a = some o)
    (ho : ∀ (i : Nat) (c : Cell) (k : Bool) (a : Addr), ρ[i]? = some (some (.t c k)) → σ[i]? = some (some (.ref a)) → ∃ o, B0 a = some o)
    (h : PostM X.prog X.w X.K XR E B m st.length R ((intern x >>= f) st)) :
    ∃ y st2 m2, Sim X.prog X.w X.K H m2 ρ st2 σ ∧ Bs B m2 st2.length H ∧ VRel X.K H m2 st2.length y v ∧ (∀ l, l < st.length → m2 l = m l) ∧ st.length ≤ st2.length ∧ (∀ a o, B0 a = some o → outB H m st.length a = some o → outB H m2 st2.length a = some o) ∧
      PostM X.prog X.w X.K XR E B m2 st2.length R (f y st2) := by
  cases x with
  | v z => exact ⟨z, st, m, S, b, r, fun _ _ => rfl, Nat.le_refl _, fun _ _ _ e => e, h⟩
  | t c =>
    obtain ⟨a, rfl, hc, hn, hB⟩ := r
    have ag : ∀ l, l < st.length → (fun l => if l = st.length then a else m l) l = m l := fun l hl => if_neg (Nat.ne_of_lt hl)
    have le : st.length ≤ (st ++ [c]).length := by simp
    have bB : B a = none := by
      cases q : B a with
      | none => rfl
      | some o => rw [hb a o q] at hB; cases hB
    have hr := S.heap.put hc hn
    refine ⟨.loc st.length, st ++ [c], fun l => if l = st.length then a else m l, ⟨hr, ⟨fun i x e => ?_, S.slot.own, S.slot.len⟩⟩, ⟨b.sub, fun l hl => ?_, b.tb⟩, ⟨by simp, by simp⟩, ag, le, fun a' o e0 e => ?_, ?_⟩
    · obtain ⟨u, e1, r1⟩ := S.slot.get i x e
      refine ⟨u, e1, ?_⟩
      cases x with
      | v y => exact VRel.stay (fun _ _ r => r) ag le r1
      | t d k =>
        obtain ⟨a2, e2, hd, hn2⟩ := r1
        refine ⟨a2, e2, hd.stay (fun _ _ r => r) ag le fun _ q => q, fun l hl q => ?_⟩
        by_cases hl2 : l = st.length
        · have q' : a = a2 := by simpa [hl2] using q
          obtain ⟨o, ho'⟩ := ho i d k a2 e (by rw [e1, e2])
          rw [← q', hB] at ho'
          cases ho'
        · exact hn2 l (by simp at hl; omega) (by simpa [hl2] using q)
    · by_cases hl2 : l = st.length
      · simp only [hl2, if_true]; exact bB
      · simp only [hl2, if_false]; exact b.out l (by simp at hl; omega)
    · obtain ⟨q1, q3, q2⟩ := outB_some.mp e
      refine outB_some.mpr ⟨q1, q3, fun l hl q => ?_⟩
      by_cases hl2 : l = st.length
      · have q' : a = a' := by simpa [hl2] using q
        rw [← q', hB] at e0
        cases e0
      · exact q2 l (by simp at hl; omega) (by simpa [hl2] using q)
    · refine PostM.from (H := H) ⟨le, ag, b.sub, fun l h1 h2 => ?_⟩ h
      have : l = st.length := by simp at h2; omega
      simp only [this, if_true]
      exact bB
  | b i c => exact h.elim
theorem s_esNil {Γ : Calls} : PA X [] (rdEs X W XR (evalEs Γ .nil)) := PA.imp pa_nil fun σ H Q ⟨B, ρ, st, m, S, b, h⟩ => by
  simp only [evalEs] at h
  exact h.done b S.heap _ rfl
theorem s_esCons {ee : Sl → M EV} {er : Sl → M (List Val)} {e : Expr} {es : List Expr} (he : PE X e (rdE X W XR ee)) (hr : PA X es (rdEs X W XR er))
    (hs : starEach (e :: es) X.env = (false, eval e X.env) :: starEach es X.env) :
    PA X (e :: es) (rdEs X W XR fun ρ => do
      let x ← ee ρ
      let v ← intern x
      let vs ← er ρ
      .pure (v :: vs)) := by
  refine PA.imp (pa_cons he hr hs) fun σ H Q ⟨B, ρ, st, m, S, b, h⟩ => ?_
  refine rd_seq S b h fun x v m1 st1 H1 s1 S1 b1 rx h1 => ?_
  obtain ⟨y, st2, m2, S2, b2, ry, _, _, _, h2⟩ := intern_ok S1 b1 rx b.le_out (fun i c k a e1 e2 => own_out S e1 e2) h1
  refine ⟨outB H1 m2 st2.length, ρ, st2, m2, S2, bs_out _ _ _, ?_⟩
  refine (PostM.bind h2).more b2.le_out |>.imp fun vs m3 st3 H3 x3 hr3 h3 ws rw => ?_
  have s3 := x3.step hr3
  exact h3.done (bs_more b2 x3) hr3 (v :: ws) ⟨v, ws, rfl, ry.stay (s3.tups S2.heap) s3.agree s3.le, rw⟩
theorem EVRels.step {P : Program} {w : World} {K : PySem.W.Frag} {n' : Nat} (h : HRel P w K H m st) (s : Step m st.length H m' n' H') : ∀ {xs : List EV} {vs : List V}, EVRels P w K H m st.length B ρ σ xs vs → EVRels P w K H' m' n' B ρ σ xs vs
  | [], _, r => r
  | _ :: _, _, r => let ⟨u, us, e, r1, r2⟩ := r; ⟨u, us, e, r1.step h s, EVRels.step h s r2⟩
theorem EVRels.less {P : Program} {w : World} {K : PySem.W.Frag} {n : Nat} (hb : ∀ a o, B a = some o → B' a = some o) : ∀ {xs : List EV} {vs : List V}, EVRels P w K H m n B' ρ σ xs vs → EVRels P w K H m n B ρ σ xs vs
  | [], _, r => r
  | _ :: _, _, r => let ⟨u, us, e, r1, r2⟩ := r; ⟨u, us, e, r1.less hb, EVRels.less hb r2⟩
theorem s_xsNil {Γ : Calls} : PA X [] (rdXs X W XR (evalXs Γ .nil)) := PA.imp pa_nil fun σ H Q ⟨B, ρ, st, m, S, b, h⟩ => by
  simp only [evalXs] at h
  exact h.done b S.heap _ rfl
theorem s_xsCons {ee : Sl → M EV} {er : Sl → M (List EV)} {e : Expr} {es : List Expr} (he : PE X e (rdE X W XR ee)) (hr : PA X es (rdXs X W XR er))
    (hs : starEach (e :: es) X.env = (false, eval e X.env) :: starEach es X.env) :
    PA X (e :: es) (rdXs X W XR fun ρ => do
      let x ← ee ρ
      let vs ← er ρ
      .pure (x :: vs)) := by
  refine PA.imp (pa_cons he hr hs) fun σ H Q ⟨B, ρ, st, m, S, b, h⟩ => ?_
  refine rd_seq S b h fun x v m1 st1 H1 s1 S1 b1 rx h1 => ?_
  refine ⟨outB H1 m1 st1.length, ρ, st1, m1, S1, bs_out _ _ _, ?_⟩
  refine (PostM.bind h1).more b1.le_out |>.imp fun vs m3 st3 H3 x3 hr3 h3 ws rw => ?_
  have s3 := x3.step hr3
  exact h3.done (bs_more b1 x3) hr3 (v :: ws) ⟨v, ws, rfl, (rx.step S1.heap s3).less b.le_out, rw.less b1.le_out⟩
theorem s_tup {er : Sl → M (List Val)} {es : List Expr} {k : Nat} (hz : es.length ≤ sizeLine) (h : PA X es (rdEs X W XR er)) (hlen : ∀ ρ st vs st', er ρ st = .ok vs st' → vs.length = es.length) :
    Snd X W XR (fun ρ => do let vs ← er ρ; .pure (.v (.tup vs))) (.Tuple es k pos) := by
  refine .of (PE.imp (pe_tup h) fun σ H Q ⟨B, ρ, st, m, S, b, h⟩ => ?_) fun _ => rfl
  refine ⟨outB H m st.length, ρ, st, m, S, bs_out _ _ _, ?_⟩
  have hl := hlen ρ st
  have h' := PostM.bind h
  cases e : er ρ st with
  | ok vs st1 =>
    rw [e] at h'
    refine fun m1 H1 x1 hr1 ws rw => ?_
    have x1' : Nx B m st.length m1 st1.length H1 := ⟨x1.le, x1.agree, fun a o e => x1.keep a o (b.le_out a o e), fun l h1 h2 => by
      have := x1.fresh l h1 h2
      cases q : B (m1 l) with
      | none => rfl
      | some o => rw [b.le_out _ _ q] at this; cases this⟩
    refine ⟨by rw [← rw.length, hl vs st1 e]; exact hz, fun p hp => ?_⟩
    exact (h' m1 H1 x1' hr1).alloc (x1'.bs b) hr1 hp _ _ (ev_tup hp rw)
  | exc c pl st1 => rw [e] at h'; exact PostM.more (B := B) b.le_out (r := .exc c pl st1) h'
  | stuck => rw [e] at h'; exact h'
theorem s_lst {er : Sl → M (List Val)} {es : List Expr} (hz : es.length ≤ sizeLine) (h : PA X es (rdEs X W XR er)) (hlen : ∀ ρ st vs st', er ρ st = .ok vs st' → vs.length = es.length) :
    Snd X W XR (fun ρ => do let vs ← er ρ; .pure (.t (.lst vs))) (.List es pos) := by
  refine .of (PE.imp (pe_lst h) fun σ H Q ⟨B, ρ, st, m, S, b, h⟩ => ?_) fun _ => rfl
  refine ⟨outB H m st.length, ρ, st, m, S, bs_out _ _ _, ?_⟩
  have hl := hlen ρ st
  have h' := PostM.bind h
  cases e : er ρ st with
  | ok vs st1 =>
    rw [e] at h'
    refine fun m1 H1 x1 hr1 ws rw => ?_
    have x1' : Nx B m st.length m1 st1.length H1 := ⟨x1.le, x1.agree, fun a o e => x1.keep a o (b.le_out a o e), fun l h1 h2 => by
      have := x1.fresh l h1 h2
      cases q : B (m1 l) with
      | none => rfl
      | some o => rw [b.le_out _ _ q] at this; cases this⟩
    refine ⟨by rw [← rw.length, hl vs st1 e]; exact hz, fun p hp => ?_⟩
    exact (h' m1 H1 x1' hr1).alloc (x1'.bs b) hr1 hp _ _ (ev_lst (x1'.bs b) hr1 hp rw)
  | exc c pl st1 => rw [e] at h'; exact PostM.more (B := B) b.le_out (r := .exc c pl st1) h'
  | stuck => rw [e] at h'; exact h'

/-! ### comparisons -/
theorem s_cmp {ea eb : Sl → M EV} {a e : Expr} {o : Cop} (hu : X.A.units + 200 < cLine) (ha : PE X a (rdE X W XR ea)) (he : PE X e (rdE X W XR eb)) (hm : behindInMarks o.op e = false) :
    Snd X W XR (fun ρ => do let x ← ea ρ; let y ← eb ρ; let r ← cop o x y; .pure (.v (.bool r))) (.Compare a [o.op] [e] pos) := by
  refine ⟨PE.imp (pe_cmpR (opR_sem X _) ha he hm) fun σ H Q ⟨B, ρ, st, m, S, b, h⟩ => ?_, PT.imp (pt_cmpR (opR_sem X _) ha he hm) fun σ H Q ⟨B, ρ, st, m, S, b, h⟩ => ?_⟩
  · refine rd_seq S b h fun x v m1 st1 H1 s1 S1 b1 rx h1 => ?_
    refine rd_seq S1 b1 h1 fun y u m2 st2 H2 s2 S2 b2 ry h2 => ?_
    refine cop_sound hu S2 b2 (rx.step S1.heap s2) ry ((PostM.bind h2).imp fun c m3 st3 H3 x3 hr3 h3 => ?_)
    exact h3.done (x3.bs b2) hr3 _ rfl
  · have h := asn h
    refine rd_seq S b h fun x v m1 st1 H1 s1 S1 b1 rx h1 => ?_
    have h1 := asn h1
    refine rd_seq S1 b1 h1 fun y u m2 st2 H2 s2 S2 b2 ry h2 => ?_
    have h2 := asn h2
    refine cop_sound hu S2 b2 (rx.step S1.heap s2) ry ((PostM.bind h2).imp fun c m3 st3 H3 x3 hr3 h3 => ?_)
    exact ⟨c, rfl, (show PostM _ _ _ _ _ _ _ _ _ (.ok c st3) from h3).done (x3.bs b2) hr3⟩
end
end D


set_option Elab.async false
set_option linter.all false
set_option maxHeartbeats 1000000
/-! DI: chains, subscripts, slices, calls of what is built in. -/
namespace D
open PySem PySem.Spec PyProof.Rows L2
section
variable {X : Cx} {W : WX} {XR : XRel} {H H' B B' : Hp} {m m' : Nat → Addr} {st st' : Store} {ρ : Sl} {σ : L2.St} {α β : Type} {pos : Pos}
theorem s_chn {ea eb ec : Sl → M EV} {a e c : Expr} {o p : Cop} (hu : X.A.units + 200 < cLine) (ha : PE X a (rdE X W XR ea)) (he : PE X e (rdE X W XR eb)) (hc : PE X c (rdE X W XR ec)) (hm : lastMarks [o.op, p.op] [e, c] = false) :
    Snd X W XR (fun ρ => do
      let x ← ea ρ
      let y ← eb ρ
      let r ← cop o x y
      if r then do
        let z ← ec ρ
        let r2 ← cop p y z
        .pure (.v (.bool r2))
      else .pure (.v (.bool false))) (.Compare a [o.op, p.op] [e, c] pos) := by
  refine ⟨PE.imp (pe_chain (opR_sem X _) (opR_sem X _) ha he hc hm) fun σ H Q ⟨B, ρ, st, m, S, b, h⟩ => ?_, PT.imp (pt_chain (opR_sem X _) (opR_sem X _) ha he hc hm) fun σ H Q ⟨B, ρ, st, m, S, b, h⟩ => ?_⟩
  · refine rd_seq S b h fun x v m1 st1 H1 s1 S1 b1 rx h1 => ?_
    refine rd_seq S1 b1 h1 fun y u m2 st2 H2 s2 S2 b2 ry h2 => ?_
    refine cop_sound hu S2 (bs_out _ _ _) (rx.step S1.heap s2) ry (seq_gen S2 b2 h2 fun r m3 st3 H3 s3 S3 b3 h3 => ?_)
    refine ⟨r, rfl, ?_⟩
    cases r with
    | false => exact h3.done b3 S3.heap _ rfl
    | true =>
      rw [if_pos rfl] at h3 ⊢
      refine rd_seq S3 b3 h3 fun z w m4 st4 H4 s4 S4 b4 rz h4 => ?_
      refine cop_sound hu S4 (bs_out _ _ _) ((ry.step S2.heap s3).step S3.heap s4) rz (seq_gen S4 b4 h4 fun r2 m5 st5 H5 s5 S5 b5 h5 => ?_)
      exact h5.done b5 S5.heap _ rfl
  · have h := asn h
    refine rd_seq S b h fun x v m1 st1 H1 s1 S1 b1 rx h1 => ?_
    have h1 := asn h1
    refine rd_seq S1 b1 h1 fun y u m2 st2 H2 s2 S2 b2 ry h2 => ?_
    have h2 := asn h2
    refine cop_sound hu S2 (bs_out _ _ _) (rx.step S1.heap s2) ry (seq_gen S2 b2 h2 fun r m3 st3 H3 s3 S3 b3 h3 => ?_)
    refine ⟨r, rfl, ?_⟩
    cases r with
    | false => exact ⟨false, rfl, (show PostM _ _ _ _ _ _ _ _ _ (.ok false st3) from h3).done b3 S3.heap⟩
    | true =>
      rw [if_pos rfl] at h3 ⊢
      have h3 := asn h3
      refine rd_seq S3 b3 h3 fun z w m4 st4 H4 s4 S4 b4 rz h4 => ?_
      have h4 := asn h4
      refine cop_sound hu S4 (bs_out _ _ _) ((ry.step S2.heap s3).step S3.heap s4) rz (seq_gen S4 b4 h4 fun r2 m5 st5 H5 s5 S5 b5 h5 => ?_)
      exact ⟨r2, rfl, (show PostM _ _ _ _ _ _ _ _ _ (.ok r2 st5) from h5).done b5 S5.heap⟩

/-! ### a[b], a[lo:hi] -/
def rSemI (X : Cx) : R2 := fun x y H Q => ∀ (value slice : Expr) (pins : List (Addr × Obj)) (s : Shared) (σ : L2.St) (v u : Value), Inv X pins σ H s → RelV x v → RelV y u →
  subscripted slice false v u = operate [v, u] (getItem v u) → wpAny (model X.prog X.w) X.A (subscriptTail value slice v u) (EP X pins σ Q) X.xe s
theorem ixR_sem : IxR X (rSemI X) := fun value slice pins s σ H x y v u Q I rx ry h hs => h value slice pins s σ v u I rx ry hs
theorem rSemI_of {r : R2} (h : IxR X r) {x y : V} {H : Hp} {Q : VK} (q : r x y H Q) : rSemI X x y H Q := fun value slice pins s σ v u I rx ry hs => h value slice pins s σ H x y v u Q I rx ry q hs
/-- a dict's item -/
theorem ix_dict (hu : X.A.units + 100 < cLine) {n : Nat} {a : Addr} {kvs : List (Val × Val)} {k v : Val} {x : V} {Q : VK} (c : CRel X.prog X.w X.K H m n (.dict kvs) a) (hk : dkOk kvs k = true) (r : VRel X.K H m n k x) (hv : dlook kvs k = some v)
    (h : ∀ y, VRel X.K H m n v y → Q y H) : rSemI X (.ref a) x H Q := by
  intro value slice pins s σ vv u I rx ry hs
  cases rx
  obtain ⟨h1, h2, o, e, d⟩ := dict_kind c hk
  have hk1 : k.key = true := by
    simp only [dkOk, Bool.and_eq_true] at hk
    exact hk.1
  rcases d with ⟨ht, d⟩ | ⟨ht, d⟩
  · obtain ⟨kv, vs, D, rel, p⟩ := dleaf_at I e d
    obtain ⟨c, hc⟩ := leaf_of hk1 ht
    have his : (mixKind X.prog X.w).is c u = true := by
      cases k with
      | int i => cases hc; cases r; obtain ⟨t, rfl⟩ := ry; exact keyIs_int i t
      | str z => cases hc; cases r; obtain ⟨t, rfl⟩ := ry; exact keyIs_str _ t
      | _ => cases hc
    rcases look_leaf p rel hc with ⟨e1, e2⟩ | ⟨v', y, w', e1, e2, e3, e4⟩
    · rw [hv] at e1; cases e1
    · rw [hv] at e1; cases e1
      exact subscriptTail_builtinR (x := w') D.typeIs PySem.F.slot_dict_getitem.lookup (wpAny_getItem_of (Q := fun r s' => r = w' ∧ EP X pins σ Q r s') his D.mapOf e2 ⟨rfl, y, H, I.tok _, e4, h y e3⟩) hs
  · obtain ⟨xs, D, p⟩ := dtup_at I e d
    cases k with
    | tup us =>
      obtain ⟨c, hc⟩ : ∃ c, (Val.tup us).nk 8 = some c := Option.isSome_iff_exists.mp hk1
      obtain ⟨q, ws, rfl, hq, rq⟩ := id r
      cases ry
      have his : (nestedKind X.prog X.w).is s.heap c q := ⟨VRel.nested I 8 _ _ _ _ hc r rfl, nk_depth 8 _ _ hc⟩
      have hr : (nestedKind X.prog X.w).room X.A.in1 := by show X.A.units + 1 + 8 < cLine; omega
      rcases look_tup p hc with ⟨e1, e2⟩ | ⟨v', y, w', e1, e2, e3, e4⟩
      · rw [hv] at e1; cases e1
      · rw [hv] at e1; cases e1
        exact subscriptTail_builtinR (x := w'.2) D.typeIs PySem.F.slot_dict_getitem.lookup (wpAny_getItem_heap (Q := fun r s' => r = w'.2 ∧ EP X pins σ Q r s') hr his D e2 ⟨rfl, y, H, I.tok _, e4, h y e3⟩) hs
    | _ => cases ht
theorem at_str {cs : List Char} {i : Int} {c : Char} (h : atI cs i = some c) : atI (sOf cs).cps.toList i = some c.toNat := by
  unfold atI at h ⊢
  rw [sOf_list, List.length_map]
  cases e : ixN cs.length i with
  | none => rw [e] at h; cases h
  | some j =>
    rw [e] at h
    have h' : cs[j]? = some c := h
    show (cs.map Char.toNat)[j]? = _
    rw [List.getElem?_map, h']
    rfl
theorem ix_sound {E : XK} {x y : EV} {v u : V} {B1 B2 : Hp} {Q : VK} (hu : X.A.units + 200 < cLine) (S : Sim X.prog X.w X.K H m ρ st σ) (b : Bs B m st.length H)
    (rx : EVRel X.prog X.w X.K H m st.length B1 ρ σ x v) (ry : EVRel X.prog X.w X.K H m st.length B2 ρ σ y u) (h : PostM X.prog X.w X.K XR E B m st.length (RQ X B ρ σ Q) (ixOp x y st)) :
    rSemI X v u H Q := by
  unfold ixOp at h
  split at h
  · obtain ⟨p, ws, rfl, h1, r1⟩ := rx
    cases ry
    split at h
    · rename_i z hz
      obtain ⟨w, e, r⟩ := r1.at hz
      exact rSemI_of ix_tup ⟨p, ws, _, w, rfl, rfl, h1, e, h.done b S.heap w r⟩
    · exact h.elim
  · cases rx; cases ry
    split at h
    · rename_i hl
      split at h
      · rename_i c hc
        exact rSemI_of ix_str ⟨_, _, _, rfl, rfl, by rw [sOf_length]; exact lim_line hl, at_str hc, h.done b S.heap _ (by show V.str _ = V.str _; simp [sOf])⟩
      · exact h.elim
    · exact h.elim
  · rename_i k _ _
    split at h
    · rename_i vs hc
      obtain ⟨p, ws, rfl, h1, r1⟩ := cell_lst S rx hc
      split at h
      · cases ry
        split at h
        · rename_i z hz
          obtain ⟨w, e, r⟩ := r1.at hz
          exact rSemI_of ix_list ⟨p, ws, _, w, rfl, rfl, .of h1, e, h.done b S.heap w r⟩
        · exact h.elim
      · exact h.elim
    · rename_i kvs hc
      obtain ⟨p, rfl, c⟩ := cell_rel S rx hc
      split at h
      · rename_i hk
        split at h
        · rename_i z hz
          exact ix_dict (by omega) c hk ry hz fun y r => h.done b S.heap y r
        · exact h.elim
      · exact h.elim
    · exact h.elim
  · exact h.elim
theorem s_ix {ea eb : Sl → M EV} {a e : Expr} (hu : X.A.units + 200 < cLine) (ha : PE X a (rdE X W XR ea)) (he : PE X e (rdE X W XR eb)) (hs : PlainIx e) :
    Snd X W XR (fun ρ => do let x ← ea ρ; let y ← eb ρ; ixOp x y) (.Subscript a e pos) := by
  refine .of (PE.imp (pe_ix ixR_sem ha he hs) fun σ H Q ⟨B, ρ, st, m, S, b, h⟩ => ?_) fun _ => rfl
  refine rd_seq S b h fun x v m1 st1 H1 s1 S1 b1 rx h1 => ?_
  refine rd_seq S1 b1 h1 fun y u m2 st2 H2 s2 S2 b2 ry h2 => ?_
  exact ix_sound hu S2 b2 (rx.step S1.heap s2) ry h2
def rSemS (X : Cx) : V → Option Int → Option Int → Hp → VK → Prop := fun x lo hi H Q => ∀ (pins : List (Addr × Obj)) (s : Shared) (σ : L2.St) (v vl vu : Value) (sl : Addr), Inv X pins σ H s → RelV x v → s.heap.IsSliceOf sl vl vu .none → IsPart vl lo → IsPart vu hi →
    ∃ T id, typeLookup (.type T) "__getitem__" = pure (some (.builtin id)) ∧ s.TypeIs v T ∧ wpAny (model X.prog X.w) X.A (getItem v (.ref sl)) (EP X pins σ Q) X.xe s
theorem slR_sem : L2.SlR X (rSemS X) := fun pins s σ H x v vl vu lo hi sl Q I rx hs pl pu h => h pins s σ v vl vu sl I rx hs pl pu
theorem rSemS_of {r : V → Option Int → Option Int → Hp → VK → Prop} (h : L2.SlR X r) {x : V} {lo hi : Option Int} {H : Hp} {Q : VK} (q : r x lo hi H Q) : rSemS X x lo hi H Q := fun pins s σ v vl vu sl I rx hs pl pu => h pins s σ H x v vl vu lo hi sl Q I rx hs pl pu q
theorem cut_str (cs : List Char) (lo hi : Option Int) : cutS (sOf cs) lo hi = sOf (cutL cs lo hi) := by
  unfold cutS cutL
  rw [sOf_list, sOf_length]
  simp only [sOf, List.map_take, List.map_drop]
theorem sl_sound {E : XK} {x : EV} {v : V} {B1 : Hp} {Q : VK} {lo hi : Option Int} (S : Sim X.prog X.w X.K H m ρ st σ) (b : Bs B m st.length H)
    (rx : EVRel X.prog X.w X.K H m st.length B1 ρ σ x v) (h : PostM X.prog X.w X.K XR E B m st.length (RQ X B ρ σ Q) (slOp x lo hi st)) : rSemS X v lo hi H Q := by
  unfold slOp at h
  split at h
  · obtain ⟨p, ws, rfl, h1, r1⟩ := rx
    refine rSemS_of sl_tupA ⟨p, ws, rfl, h1, fun e => ?_, fun _ q hq => ?_⟩
    · refine h.done b S.heap _ ⟨p, ws, rfl, h1, ?_⟩
      have := r1.cut lo hi
      unfold cutV at this
      rw [e.1, e.2] at this
      simpa using this
    · exact h.alloc b S.heap hq _ _ (ev_tup hq (r1.cut lo hi))
  · cases rx
    split at h
    · rename_i hl
      exact rSemS_of sl_str ⟨_, rfl, by rw [sOf_length]; exact lim_line hl, h.done b S.heap _ (by rw [cut_str]; exact rfl)⟩
    · exact h.elim
  · split at h
    · rename_i vs hc
      obtain ⟨p, ws, rfl, h1, r1⟩ := cell_lst S rx hc
      exact rSemS_of sl_list ⟨p, ws, rfl, .of h1, fun q hq => h.alloc b S.heap hq _ _ (ev_lst b S.heap hq (r1.cut lo hi))⟩
    · exact h.elim
/-- a list that is read and never written -/
def SqR (K : PySem.W.Frag) (H : Hp) (a : Addr) (xs : List V) : Prop := (∃ o, H a = some (.frz o (.lst xs))) ∨
  ∃ (o : Obj) (its : Array Value) (n : Nat), K.lookup a = some o ∧ o.cls = .type "list" ∧ o.dict = none ∧ o.data = .seq its n ∧ its.size ≤ sizeLine ∧ Vals xs its.toList
def ScrOk (K : PySem.W.Frag) (H : Hp) (scr : V → Option (List Int)) : Prop := ∀ c ns, scr c = some ns → ∃ a, c = .ref a ∧ SqR K H a (ns.map V.int)
theorem ints_rel {K : PySem.W.Frag} {n : Nat} : ∀ ns : List Int, VRels K H m n (ns.map Val.int) (ns.map V.int)
  | [] => rfl
  | i :: r => ⟨.int i, r.map V.int, rfl, rfl, ints_rel r⟩
theorem sls_sound {E : XK} {x : EV} {v : V} {B1 : Hp} {Q : VK} {lo hi : Option Int} {scr : V → Option (List Int)} (hs : ScrOk X.K X.H_0 scr) (S : Sim X.prog X.w X.K H m ρ st σ) (b : Bs B m st.length H)
    (rx : EVRel X.prog X.w X.K H m st.length B1 ρ σ x v) (h : PostM X.prog X.w X.K XR E B m st.length (RQ X B ρ σ Q) (slOpS scr x lo hi st)) : rSemS X v lo hi H Q := by
  unfold slOpS at h
  split at h
  · rename_i c
    have rx : v = c := rx
    subst rx
    cases e : scr v with
    | none => simp only [e] at h; exact h.elim
    | some ns =>
      simp only [e] at h
      obtain ⟨a, rfl, hq⟩ := hs _ _ e
      intro pins s σ' v' vl vu sl I
      have hq' : SqL X.K H a (ns.map V.int) := by
        rcases hq with ⟨o, q⟩ | q
        · exact .inl (.inr ⟨o, I.base.frzs a o _ q⟩)
        · exact .inr q
      exact rSemS_of sl_list ⟨a, ns.map V.int, rfl, hq', fun q hn => h.alloc b S.heap hn _ _ (ev_lst b S.heap hn ((ints_rel ns).cut lo hi))⟩ pins s σ' v' vl vu sl I
  · exact sl_sound S b rx h
theorem s_oiNone {Γ : Calls} : PO X none (rdOi X W XR (evalOi Γ .none)) := PO.imp po_none fun σ H Q ⟨B, ρ, st, m, S, b, h⟩ => by
  simp only [evalOi] at h
  exact h.done b S.heap
theorem s_oiSome {ee : Sl → M EV} {e : Expr} (h : PE X e (rdE X W XR ee)) : PO X (some e) (rdOi X W XR fun ρ => do match ← ee ρ with
    | .v (.int i) => .pure (some i)
    | _ => .stuck) := by
  refine PO.imp (po_some h) fun σ H Q ⟨B, ρ, st, m, S, b, h⟩ => ?_
  refine rd_seq S b h fun x v m1 st1 H1 s1 S1 b1 rx h1 => ?_
  cases x with
  | v y =>
    cases y with
    | int i => cases rx; exact ⟨i, rfl, (show PostM _ _ _ _ _ _ _ _ _ (.ok (some i) st1) from h1).done b1 S1.heap⟩
    | _ => exact h1.elim
  | _ => exact h1.elim
theorem s_sl {scr : V → Option (List Int)} (hsc : ScrOk X.K X.H_0 scr) {ea : Sl → M EV} {el eh : Sl → M (Option Int)} {a : Expr} {lo hi : Option Expr} {p2 : Pos} (ha : PE X a (rdE X W XR ea)) (hl : PO X lo (rdOi X W XR el)) (hh : PO X hi (rdOi X W XR eh)) :
    Snd X W XR (fun ρ => do
      let x ← ea ρ
      let l ← el ρ
      let h ← eh ρ
      slOpS scr x l h) (.Subscript a (.Slice lo hi none p2) pos) := by
  refine .of (PE.imp (pe_slice slR_sem ha hl hh) fun σ H Q ⟨B, ρ, st, m, S, b, h⟩ => ?_) fun _ => rfl
  refine rd_seq S b h fun x v m1 st1 H1 s1 S1 b1 rx h1 => ?_
  refine ⟨outB H1 m1 st1.length, ρ, st1, m1, S1, bs_out _ _ _, seq_gen S1 b1 h1 fun l m2 st2 H2 s2 S2 b2 h2 => ?_⟩
  refine ⟨outB H2 m2 st2.length, ρ, st2, m2, S2, bs_out _ _ _, seq_gen S2 b2 h2 fun l3 m3 st3 H3 s3 S3 b3 h3 => ?_⟩
  exact sls_sound hsc S3 b3 ((rx.step S1.heap s2).step S2.heap s3) h3
end
end D


set_option Elab.async false
set_option linter.all false
set_option maxHeartbeats 1000000
/-! DJ: calls of what is built in. -/
namespace D
open PySem PySem.Spec PyProof.Rows L2
section
variable {X : Cx} {W : WX} {XR : XRel} {H H' B B' : Hp} {m m' : Nat → Addr} {st st' : Store} {ρ : Sl} {σ : L2.St} {α β : Type} {pos : Pos}
/-- a call of a known value, by what it does -/
def rSemC (X : Cx) (f : Value) : List V → Hp → VK → Prop := fun xs H Q => ∀ (pins : List (Addr × Obj)) (s : Shared) (σ : L2.St) (us : List Value), Inv X pins σ H s → Vals xs us → wpAny (model X.prog X.w) X.A (call f us) (EP X pins σ Q) X.xe s
theorem callR_sem (X : Cx) (f : Value) : CallR X f (rSemC X f) := fun pins s σ H xs us Q I r h => h pins s σ us I r
theorem rSemC_of {f : Value} {r : List V → Hp → VK → Prop} (h : CallR X f r) {xs : List V} {H : Hp} {Q : VK} (q : r xs H Q) : rSemC X f xs H Q := fun pins s σ us I rv => h pins s σ H xs us Q I rv q
theorem evs1 {P : Program} {w : World} {K : PySem.W.Frag} {n : Nat} {x : EV} {vs : List V} (r : EVRels P w K H m n B ρ σ [x] vs) : ∃ u, vs = [u] ∧ EVRel P w K H m n B ρ σ x u := by
  obtain ⟨u, us, rfl, r1, r2⟩ := r
  cases r2
  exact ⟨u, rfl, r1⟩
theorem evs2 {P : Program} {w : World} {K : PySem.W.Frag} {n : Nat} {x y : EV} {vs : List V} (r : EVRels P w K H m n B ρ σ [x, y] vs) : ∃ u z, vs = [u, z] ∧ EVRel P w K H m n B ρ σ x u ∧ EVRel P w K H m n B ρ σ y z := by
  obtain ⟨u, us, rfl, r1, r2⟩ := r
  obtain ⟨z, e, r3⟩ := evs1 r2
  subst e
  exact ⟨u, z, rfl, r1, r3⟩
/-- a dict's length -/
theorem len_dict {n : Nat} {a : Addr} {kvs : List (Val × Val)} {Q : VK} (c : CRel X.prog X.w X.K H m n (.dict kvs) a) (h : Q (.int kvs.length) H) : rSemC X (.builtin "len") [.ref a] H Q := by
  intro pins s σ us I r
  obtain ⟨u, rfl, rx⟩ := r.one
  cases rx
  obtain ⟨h1, h2, o, e, d⟩ := c
  have hs := sizeLine_eq
  rcases d with d | d
  · obtain ⟨kv, vs, D, rel, p⟩ := dleaf_at I e d
    have hl : vs.length = kvs.length := by rw [← rel.length, ← Paired.len p]
    refine call_len_dict h1 D (by rw [hl]; omega) ?_
    rw [hl]
    exact ⟨.int kvs.length, H, I.tok _, ⟨_, rfl⟩, h⟩
  · obtain ⟨xs, D, p⟩ := dtup_at I e d
    have hl : xs.length = kvs.length := (Paired.len p).symm
    refine call_len_dictH h1 D (by rw [hl]; omega) ?_
    rw [hl]
    exact ⟨.int kvs.length, H, I.tok _, ⟨_, rfl⟩, h⟩
/-- a new dict with keys that are texts and ints -/
theorem new_dleaf {pins : List (Addr × Obj)} {s : Shared} {h' : Heap} {t' : Nat} {kvs : List (Val × Val)} {kv : List (Key × V)} {vs : List (Key × Value)} {Q : VK} {E : XK} {σ' : L2.St} (I : Inv X pins σ' H s)
    (hS : HRel X.prog X.w X.K H m st) (b : Bs B m st.length H) (k : ∀ b u, s.heap.get? b = some u → h'.get? b = some u) (D : h'.DictOf (mixKind X.prog X.w) s.heap.objs.size vs) (rel : KV kv vs) (p : Paired (PLeaf X.K H m st.length) kvs kv) (hz : kvs.length ≤ sizeLine)
    (h : PostM X.prog X.w X.K XR E B m st.length (RQ X B ρ σ Q) (.ok (.t (.dict kvs)) st)) : EP X pins σ' Q (.ref s.heap.objs.size) { s with heap := h', toks := t' } := by
  have hf : H s.heap.objs.size = none := I.hok.fresh (Nat.le_refl _)
  obtain ⟨o, es, ep, ho, d1, d2, d3, d4, d5⟩ := D
  have hm : (s.heap.objs.size == sysModules) = false := beq_eq_false_iff_ne.mpr (Nat.ne_of_gt I.big)
  have J : Inv X pins σ' (upd H s.heap.objs.size (AtO s.heap.objs.size o)) { s with heap := h', toks := t' } := I.laid (t' := t') k (Nat.le_refl _) ⟨ho, ⟨o, ho⟩, fun h1 h2 a1 a2 => a2 o a1⟩
  refine ⟨.ref s.heap.objs.size, _, J, rfl, h.alloc b hS hf _ _ ⟨_, rfl, ⟨hm, hz, o, upd_same, .inl ⟨kv, vs, ⟨es, ep, d1, d2, d3, d4, d5⟩, rel, Paired.mapP p fun x y z => ⟨z.1, z.2.stay (tups_alloc hf _) (fun _ _ => rfl) (Nat.le_refl _)⟩⟩⟩, fun l hl e => ?_, ?_⟩⟩
  · obtain ⟨o', ho', _⟩ := hS.domAll l hl
    rw [e, hf] at ho'
    cases ho'
  · cases q : B s.heap.objs.size with
    | none => rfl
    | some o' => have := b.sub _ _ q; rw [hf] at this; cases this
def Bi.val : Bi → Value
  | .len => .builtin "len" | .tuple => .type "tuple" | .list => .type "list" | .dict => .type "dict" | .int => .type "int" | .abs => .builtin "abs" | _ => .none
theorem bi_sound {E : XK} {k : Bi} {xs : List EV} {vs : List V} {B1 : Hp} {Q : VK} (hk : k ∈ [Bi.len, Bi.tuple, Bi.list, Bi.dict, Bi.int, Bi.abs]) (S : Sim X.prog X.w X.K H m ρ st σ) (b : Bs B m st.length H)
    (rx : EVRels X.prog X.w X.K H m st.length B1 ρ σ xs vs) (h : PostM X.prog X.w X.K XR E B m st.length (RQ X B ρ σ Q) (biOp k xs st)) : rSemC X k.val vs H Q := by
  unfold biOp at h
  split at h
  · obtain ⟨u, rfl, r⟩ := evs1 rx
    obtain ⟨p, ws, rfl, h1, r1⟩ := r
    exact rSemC_of call_len_seq ⟨p, ws, rfl, .inr h1, h.done b S.heap _ (by rw [r1.length]; exact rfl)⟩
  · obtain ⟨u, rfl, r⟩ := evs1 rx
    cases r
    split at h
    · rename_i hl
      exact rSemC_of call_len_str ⟨_, rfl, by rw [sOf_length]; exact lim_line hl, h.done b S.heap _ (by rw [sOf_length]; exact rfl)⟩
    · exact h.elim
  · obtain ⟨u, rfl, r⟩ := evs1 rx
    split at h
    · rename_i ws hc
      obtain ⟨p, us, rfl, h1, r1⟩ := cell_lst S r hc
      exact rSemC_of call_len_seq ⟨p, us, rfl, .inl (.of h1), h.done b S.heap _ (by rw [r1.length]; exact rfl)⟩
    · rename_i kvs hc
      obtain ⟨p, rfl, c⟩ := cell_rel S r hc
      exact len_dict c (h.done b S.heap _ rfl)
    · exact h.elim
  · obtain ⟨u, rfl, r⟩ := evs1 rx
    split at h
    · obtain ⟨p, us, rfl, h1, r1⟩ := r
      exact rSemC_of call_tuple_of ⟨p, us, rfl, .inr ⟨h1, h.done b S.heap _ ⟨p, us, rfl, h1, r1⟩⟩⟩
    · rename_i ws _ hc
      obtain ⟨p, us, rfl, h1, r1⟩ := cell_lst S r hc
      exact rSemC_of call_tuple_of ⟨p, us, rfl, .inl ⟨.of h1, fun l hl => h.alloc b S.heap hl _ _ (ev_tup hl r1)⟩⟩
    · exact h.elim
  · obtain ⟨u, rfl, r⟩ := evs1 rx
    split at h
    · obtain ⟨p, us, rfl, h1, r1⟩ := r
      exact rSemC_of call_list_of ⟨p, us, rfl, .inr h1, fun l hl => h.alloc b S.heap hl _ _ (ev_lst b S.heap hl r1)⟩
    · rename_i ws _ hc
      obtain ⟨p, us, rfl, h1, r1⟩ := cell_lst S r hc
      exact rSemC_of call_list_of ⟨p, us, rfl, .inl (.of h1), fun l hl => h.alloc b S.heap hl _ _ (ev_lst b S.heap hl r1)⟩
    · exact h.elim
  · obtain ⟨u, rfl, r⟩ := evs1 rx
    split at h
    · rename_i kvs hc
      obtain ⟨p, rfl, c⟩ := cell_rel S r hc
      split at h
      · rename_i hk2
        have hd0 : dkOk kvs (.int 0) = true := by
          simp only [dkOk, Val.key, Bool.true_and, List.all_eq_true, beq_iff_eq]
          intro x hx
          have := List.all_eq_true.mp hk2 x hx
          simpa [Val.isTup] using this
        obtain ⟨h1, h2, o, e, d⟩ := dict_kind c hd0
        rcases d with ⟨_, d⟩ | ⟨z, _⟩
        · intro pins s σ' us I r2
          obtain ⟨u2, rfl, ru⟩ := r2.one
          cases ru
          obtain ⟨kv, vs2, D, rel, pp⟩ := dleaf_at I e d
          refine kt_call_dict h1 D (by rw [← rel.length, ← Paired.len pp]; exact h2) fun h' d' hs => ?_
          exact new_dleaf (t' := s.toks) I S.heap b (fun b' u e => (hs.2 b' (Nat.ne_of_lt (Heap.lt_size e))).trans (Heap.get?_push_of_some _ e)) d' rel pp h2 h
        · cases z
      · exact h.elim
    · exact h.elim
  · obtain ⟨u, rfl, r⟩ := evs1 rx
    cases r
    exact rSemC_of call_int1 (.inl ⟨_, rfl, h.done b S.heap _ rfl⟩)
  · obtain ⟨u, rfl, r⟩ := evs1 rx
    cases r
    exact rSemC_of call_int1 (.inr ⟨_, rfl, h.done b S.heap _ rfl⟩)
  · rename_i i
    obtain ⟨u, rfl, r⟩ := evs1 rx
    cases r
    refine rSemC_of call_abs ⟨_, rfl, h.done b S.heap _ ?_⟩
    show V.int _ = V.int _
    congr 1
    split <;> omega
  · simp at hk
  · simp at hk
  · exact h.elim
end
end D


set_option Elab.async false
set_option linter.all false
set_option maxHeartbeats 1000000
/-! DK: calls by name, methods. -/
namespace D
open PySem PySem.Spec PyProof.Rows L2
/-- neither starred nor a slice nor a set display -/
def okE : Expr → Bool
  | .Starred _ _ | .Slice _ _ _ _ | .Set _ _ _ => false
  | _ => true
/-- nor a call without arguments -/
def okB : Expr → Bool
  | .Starred _ _ | .Slice _ _ _ _ | .Set _ _ _ => false
  | .Call (.Name _ _) [] [] _ => false
  | _ => true
theorem star_ok {e : Expr} (h : okE e = true) (es : List Expr) (env : Env) : starEach (e :: es) env = (false, eval e env) :: starEach es env := by
  cases e <;> first | rfl | cases h
theorem star_none : ∀ {es : List Expr} (env : Env) (pos : Pos), es.all okE = true → (backTo pos (starEach es env)).any (·.1) = false
  | [], _, _, _ => rfl
  | e :: es, env, pos, h => by
    simp only [List.all_cons, Bool.and_eq_true] at h
    rw [star_ok h.1]
    show (false || (backTo pos (starEach es env)).any (·.1)) = false
    rw [star_none env pos h.2]
    rfl
theorem star_all : ∀ {es : List Expr} (env : Env) (pos : Pos), es.all okE = true → (backTo pos (starEach es env)).all (fun x => !x.1) = true
  | [], _, _, _ => rfl
  | e :: es, env, pos, h => by
    simp only [List.all_cons, Bool.and_eq_true] at h
    rw [star_ok h.1]
    show (true && (backTo pos (starEach es env)).all (fun x => !x.1)) = true
    rw [star_all env pos h.2]
    rfl
theorem marks_ok {e : Expr} (h : okE e = true) (op : CmpOp) : behindInMarks op e = false := by
  cases e <;> first | rfl | cases h
theorem marks2_ok {e c : Expr} (h : okE c = true) (o p : CmpOp) : lastMarks [o, p] [e, c] = false := marks_ok h p
theorem plain_ok {e : Expr} (h : okE e = true) : PlainIx e := by
  intro o i
  cases e <;> first | rfl | cases h
theorem okE_of_okB {e : Expr} (h : okB e = true) : okE e = true := by
  cases e <;> first | rfl | cases h
theorem base_ok {o : Expr} (h : okB o = true) (name : Str) (env : Env) : attributeBase o name env (eval o env) = eval o env := by
  cases o with
  | Call f as ks p =>
    cases f <;> first
      | rfl
      | (cases as with
        | nil => (cases ks with
          | nil => cases h
          | cons _ _ => rfl)
        | cons _ _ => rfl)
  | _ => first | rfl | cases h
theorem few_ok {es : List Expr} (h : es.all okE = true) (hl : es.length < 20) (env : Env) (pos : Pos) : ((backTo pos (starEach es env)).all (fun x => !x.1) && (backToKw pos (keywordEach [] env)).all (fun x => x.1.isSome)
      && decide (es.length + ([] : List Keyword).length + (if ([] : List Keyword).isEmpty then 0 else 1) < 30)) = true := by
  rw [star_all env pos h]
  have : decide (es.length + ([] : List Keyword).length + (if ([] : List Keyword).isEmpty then 0 else 1) < 30) = true := by
    simp
    omega
  rw [this]
  rfl
section
variable {X : Cx} {W : WX} {XR : XRel} {H H' B B' : Hp} {m m' : Nat → Addr} {st st' : Store} {ρ : Sl} {σ : L2.St} {α β : Type} {pos : Pos}
theorem call_test {f : Expr} {es : List Expr} {ks : List Keyword} (whole : Sem Value) : isTrue (.Call f es ks pos) X.env whole = (do let v ← whole; standAt (Expr.Call f es ks pos).pos; holding [v] (truthy v)) := rfl
theorem bi_read {er : Sl → M (List EV)} {k : Bi} {T : TE} (hk : k ∈ [Bi.len, Bi.tuple, Bi.list, Bi.dict, Bi.int, Bi.abs]) (hT : ∀ σ H Q, tCB (rSemC X k.val) (rdXs X W XR er) σ H Q → T σ H Q) :
    ∀ σ H Q, rdE X W XR (fun ρ => do let xs ← er ρ; biOp k xs) σ H Q → T σ H Q := fun σ H Q ⟨B, ρ, st, m, S, b, h⟩ => hT σ H Q
  ⟨outB H m st.length, ρ, st, m, S, bs_out _ _ _, seq_gen S b h fun xs m1 st1 H1 s1 S1 b1 h1 ws rw => bi_sound hk S1 b1 rw h1⟩
/-- len(e), abs(e), .. -/
theorem s_biF {er : Sl → M (List EV)} {e : Expr} {es : List Expr} {k : Bi} {id : String} {x : Str} {p : Pos} (hv : k.val = .builtin id) (hk : k ∈ [Bi.len, Bi.tuple, Bi.list, Bi.dict, Bi.int, Bi.abs]) (hg : Gl X x) (hm : X.mg x = none)
    (hb : bootBuiltins x = some (.builtin id)) (hn : x ≠ "__name__") (hdb : (x == ("__debug__" : Str)) = false) (ha : PA X (e :: es) (rdXs X W XR er)) (ho : (e :: es).all okE = true) :
    Snd X W XR (fun ρ => do let xs ← er ρ; biOp k xs) (.Call (.Name x p) (e :: es) [] pos) := by
  have h1 : okE e = true := by simp only [List.all_cons, Bool.and_eq_true] at ho; exact ho.1
  have h2 : es.all okE = true := by simp only [List.all_cons, Bool.and_eq_true] at ho; exact ho.2
  exact .of (PE.imp (pe_callB (r := rSemC X k.val) (by rw [hv]; exact callR_sem X _) hg hm hb ha hn hdb (star_ok h1 es X.env) (star_none X.env pos h2)) (bi_read hk fun _ _ _ h => h)) (call_test)
theorem s_biT {er : Sl → M (List EV)} {e : Expr} {es : List Expr} {k : Bi} {id : String} {x : Str} {p : Pos} (hv : k.val = .type id) (hk : k ∈ [Bi.len, Bi.tuple, Bi.list, Bi.dict, Bi.int, Bi.abs]) (hg : Gl X x) (hm : X.mg x = none)
    (hb : bootBuiltins x = some (.type id)) (hn : x ≠ "__name__") (hdb : (x == ("__debug__" : Str)) = false) (ha : PA X (e :: es) (rdXs X W XR er)) (ho : (e :: es).all okE = true) :
    Snd X W XR (fun ρ => do let xs ← er ρ; biOp k xs) (.Call (.Name x p) (e :: es) [] pos) := by
  have h1 : okE e = true := by simp only [List.all_cons, Bool.and_eq_true] at ho; exact ho.1
  have h2 : es.all okE = true := by simp only [List.all_cons, Bool.and_eq_true] at ho; exact ho.2
  exact .of (PE.imp (pe_callTy (r := rSemC X k.val) (by rw [hv]; exact callR_sem X _) hg hm hb ha hn hdb (star_ok h1 es X.env) (star_none X.env pos h2)) (bi_read hk fun _ _ _ h => h)) (call_test)
/-- isinstance(e, str), isinstance(e, tuple) -/
def isName : Bi → String
  | .isStr => "str"
  | _ => "tuple"
theorem isi_sound {E : XK} {k : Bi} {x : EV} {v : V} {B1 : Hp} {Q : VK} (hk : k = .isStr ∨ k = .isTuple) (S : Sim X.prog X.w X.K H m ρ st σ) (b : Bs B m st.length H)
    (rx : EVRel X.prog X.w X.K H m st.length B1 ρ σ x v) (h : PostM X.prog X.w X.K XR E B m st.length (RQ X B ρ σ Q) (biOp k [x] st)) : rSemC X (.builtin "isinstance") [v, .ty (isName k)] H Q := by
  have go : ∀ {t : Value} {r : Bool}, TyX X.K H v t → PySem.W.kitOne X.K t (.type (isName k)) = some r → Q (.bl r) H → rSemC X (.builtin "isinstance") [v, .ty (isName k)] H Q := fun ty kt q => rSemC_of call_isi ⟨v, _, _, _, _, rfl, .ty _, ty, kt, q⟩
  have tup : ∀ {us : List Val}, x = .v (.tup us) → TyX X.K H v (.type "tuple") := by
    intro us e
    subst e
    obtain ⟨p, ws, rfl, hs, _⟩ := rx
    rcases hs with (hs | ⟨o, hs⟩) | ⟨o, its, n, h1, h2, _⟩
    · exact .base (.tup hs)
    · exact .fTuple hs
    · exact .kTuple h1 h2
  rcases hk with rfl | rfl
  · have h : PostM X.prog X.w X.K XR E B m st.length (RQ X B ρ σ Q) (isiOp true x st) := h
    unfold isiOp at h
    split at h
    · cases rx; exact go (.base (.str _)) (kit_ty (by decide +kernel)) (h.done b S.heap _ rfl)
    · exact go (tup rfl) (kit_ty (by decide +kernel)) (h.done b S.heap _ rfl)
    · cases rx; exact go (.base .non) (kit_ty (by decide +kernel)) (h.done b S.heap _ rfl)
    · cases rx; exact go (.base (.bl _)) (kit_ty (by decide +kernel)) (h.done b S.heap _ rfl)
    · cases rx; exact go (.base (.int _)) (kit_ty (by decide +kernel)) (h.done b S.heap _ rfl)
    · exact h.elim
  · have h : PostM X.prog X.w X.K XR E B m st.length (RQ X B ρ σ Q) (isiOp false x st) := h
    unfold isiOp at h
    split at h
    · cases rx; exact go (.base (.str _)) (kit_ty (by decide +kernel)) (h.done b S.heap _ rfl)
    · exact go (tup rfl) (kit_ty (by decide +kernel)) (h.done b S.heap _ rfl)
    · cases rx; exact go (.base .non) (kit_ty (by decide +kernel)) (h.done b S.heap _ rfl)
    · cases rx; exact go (.base (.bl _)) (kit_ty (by decide +kernel)) (h.done b S.heap _ rfl)
    · cases rx; exact go (.base (.int _)) (kit_ty (by decide +kernel)) (h.done b S.heap _ rfl)
    · exact h.elim
theorem s_isi {ee : Sl → M EV} {e : Expr} {k : Bi} {p p2 : Pos} (hk : k = .isStr ∨ k = .isTuple) (hg : Gl X "isinstance") (hm : X.mg "isinstance" = none) (hg2 : Gl X (isName k)) (hm2 : X.mg (isName k) = none)
    (he : PE X e (rdE X W XR ee)) (ho : okE e = true) :
    Snd X W XR (fun ρ => do let xs ← (do let x ← ee ρ; .pure [x]); biOp k xs) (.Call (.Name "isinstance" p) [e, .Name (isName k) p2] [] pos) := by
  have hb2 : bootBuiltins (isName k) = some (.type (isName k)) := by rcases hk with rfl | rfl <;> decide +kernel
  have hn2 : (Str.ofString (isName k)) ≠ "__name__" := by rcases hk with rfl | rfl <;> decide
  have hd2 : (Str.ofString (isName k) == ("__debug__" : Str)) = false := by rcases hk with rfl | rfl <;> decide
  refine .of (PE.imp (pe_callB (r := rSemC X (.builtin "isinstance")) (callR_sem X _) hg hm boot_isinstance (pa_cons he (pa_cons (pe_bltn (v := .ty (isName k)) hg2 hm2 hb2 rfl hn2 hd2) pa_nil) (star_ok ho _ _)) (by decide) (by decide) (star_ok ho _ _) rfl) fun σ H Q ⟨B, ρ, st, m, S, b, h⟩ => ?_) (call_test)
  have h := asn h
  refine rd_seq S b h fun x v m1 st1 H1 s1 S1 b1 rx h1 => ?_
  exact isi_sound hk S1 b1 rx h1

/-! ### methods -/
def MInfo (T : String) (name : Str) (id : String) : Prop := PlainAttrs T ∧ Slot T name id ∧ typeOf (.builtin id) = pure (.type "method_descriptor")
def TyS (X : Cx) (x : V) (H : Hp) (T : String) : Prop := ∀ (pins : List (Addr × Obj)) (s : Shared) (σ : L2.St) (v : Value), Inv X pins σ H s → RelV x v → s.TypeIs v T ∧ ∀ a, v = .ref a → ∃ ob, s.heap.get? a = some ob ∧ ob.dict = none
def rSemM (X : Cx) (id : String) : V → List V → Hp → VK → Prop := fun x xs H Q => ∀ (pins : List (Addr × Obj)) (s : Shared) (σ : L2.St) (v : Value) (us : List Value), Inv X pins σ H s → RelV x v → Vals xs us → wpAny (model X.prog X.w) X.A (call (.builtin id) (v :: us)) (EP X pins σ Q) X.xe s
def tMG (X : Cx) (name : Str) (to : TE) (t : TA) : TE := fun σ H Q => to σ H fun x H1 => ∃ T id, MInfo T name id ∧ TyS X x H1 T ∧ t σ H1 fun vs H2 => rSemM X id x vs H2 Q
theorem pe_mG {name : Str} {o e : Expr} {es : List Expr} {apos cpos : Pos} {to : TE} {t : TA} (ho : PE X o to) (ha : PA X (e :: es) t) (hb : okB o = true) (hes : (e :: es).all okE = true) (hlen : (e :: es).length < 20) (hline : (apos.endLine == cpos.line) = true) :
    PE X (.Call (.Attribute o name apos) (e :: es) [] cpos) (tMG X name to t) := by
  refine ⟨fun pins s σ H Q I h => ?_⟩
  refine wpAny_Call_method_late (base_ok hb name X.env) (few_ok hes hlen X.env cpos) hline rfl (thn (ho.run pins s σ H _ I h) fun v s1 ⟨x, H1, I1, r1, T, id, ⟨pa, slot, hty⟩, ty, q1⟩ => ?_)
  obtain ⟨h1, h2⟩ := ty pins s1 σ v I1 r1
  refine ⟨T, id, pa, slot, hty, h1, h2, ?_⟩
  have hA := ha.run cpos pins s1 σ H1 _ I1 q1
  have g1 : okE e = true := by simp only [List.all_cons, Bool.and_eq_true] at hes; exact hes.1
  have g2 : es.all okE = true := by simp only [List.all_cons, Bool.and_eq_true] at hes; exact hes.2
  have hs := star_ok g1 es X.env
  rw [hs] at hA ⊢
  refine Calls.callWith_builtin (by show (false || (backTo cpos (starEach es X.env)).any (·.1)) = false; rw [star_none X.env cpos g2] <;> rfl) (Calls.evalArgs_plain ?_)
  exact thn hA fun us s2 ⟨vs, H2, I2, r2, q2⟩ => q2 pins s2 σ v us I2 r1 r2
theorem ty_str {x : Str} {H : Hp} : TyS X (.str x) H "str" := fun pins s σ v I r => by
  obtain ⟨t, rfl⟩ := r
  exact ⟨typeIs_str s x t, fun _ e => nomatch e⟩
theorem ty_lst {a : Addr} {ws : List V} (e : H a = some (.lst ws)) : TyS X (.ref a) H "list" := fun pins s σ v I r => by
  cases r
  obtain ⟨_, its, n, _, e1⟩ := I.hok a _ e
  exact ⟨⟨_, e1, rfl⟩, fun b z => by cases z; exact ⟨_, e1, rfl⟩⟩
theorem ty_dict {n : Nat} {a : Addr} {kvs : List (Val × Val)} (c : CRel X.prog X.w X.K H m n (.dict kvs) a) : TyS X (.ref a) H "dict" := fun pins s σ v I r => by
  cases r
  obtain ⟨_, _, o, e, d⟩ := c
  have ho := at_obj I e
  have hx : o.ExactDict := by
    rcases d with ⟨_, _, ⟨_, _, hx, _⟩, _⟩ | ⟨_, ⟨_, _, hx, _⟩, _⟩ <;> exact hx
  exact ⟨⟨o, ho, hx.1⟩, fun b z => by cases z; exact ⟨o, ho, hx.2.1⟩⟩
/-- d.get(k, x) -/
theorem get_dict (hu : X.A.units + 200 < cLine) {n : Nat} {a : Addr} {kvs : List (Val × Val)} {k d : Val} {x y : V} {Q : VK} (c : CRel X.prog X.w X.K H m n (.dict kvs) a) (hk : dkOk kvs k = true) (r : VRel X.K H m n k x) (rd : VRel X.K H m n d y)
    (h : ∀ z, VRel X.K H m n ((dlook kvs k).getD d) z → Q z H) : rSemM X "dict.get" (.ref a) [x, y] H Q := by
  intro pins s σ v us I rx rs
  cases rx
  obtain ⟨u, z, rfl, ru, rz⟩ := Vals.two rs
  obtain ⟨h1, h2, o, e, dd⟩ := dict_kind c hk
  have hk1 : k.key = true := by
    simp only [dkOk, Bool.and_eq_true] at hk
    exact hk.1
  rcases dd with ⟨ht, dd⟩ | ⟨ht, dd⟩
  · obtain ⟨kv, vs, D, rel, p⟩ := dleaf_at I e dd
    obtain ⟨c, hc⟩ := leaf_of hk1 ht
    have his : (mixKind X.prog X.w).is c u = true := by
      cases k with
      | int i => cases hc; cases r; obtain ⟨t, rfl⟩ := ru; exact keyIs_int i t
      | str z => cases hc; cases r; obtain ⟨t, rfl⟩ := ru; exact keyIs_str _ t
      | _ => cases hc
    refine call_meetsIn PySem.F.slot_dict_get D.typeIs PySem.F.entry_dict_get (PySem.F.args_dict_get_3 _ _ _) (meets_dict_get_default (mixKind X.prog X.w) a his h1 z) ⟨_, D.mapOf, ?_⟩
    rcases look_leaf p rel hc with ⟨e1, e2⟩ | ⟨v', y', w', e1, e2, e3, e4⟩
    · rw [e2]; rw [e1] at h; exact ⟨y, H, I.tok _, rz, h y rd⟩
    · rw [e2]; rw [e1] at h; exact ⟨y', H, I.tok _, e4, h y' e3⟩
  · obtain ⟨xs, D, p⟩ := dtup_at I e dd
    cases k with
    | tup us =>
      obtain ⟨c, hc⟩ : ∃ c, (Val.tup us).nk 8 = some c := Option.isSome_iff_exists.mp hk1
      obtain ⟨q, ws, rfl, hq, rq⟩ := id r
      cases ru
      have his : (nestedKind X.prog X.w).is s.heap c q := ⟨VRel.nested I 8 _ _ _ _ hc r rfl, nk_depth 8 _ _ hc⟩
      have hr : (nestedKind X.prog X.w).room X.A.in1 := by show X.A.units + 1 + 8 < cLine; omega
      refine call_meetsIn PySem.F.slot_dict_get D.typeIs PySem.F.entry_dict_get (PySem.F.args_dict_get_3 _ _ _) (meetsH_dict_get_default (nestedKind X.prog X.w) a q h1 z) ⟨hr, c, xs, his, D, ?_⟩
      rcases look_tup p hc with ⟨e1, e2⟩ | ⟨v', y', w', e1, e2, e3, e4⟩
      · rw [e2]; rw [e1] at h; exact ⟨y, H, I.tok _, rz, h y rd⟩
      · rw [e2]; rw [e1] at h; exact ⟨y', H, I.tok _, e4, h y' e3⟩
    | _ => cases ht
theorem i_get : MInfo "dict" "get" "dict.get" := ⟨PySem.F.plainAttrs_dict, PySem.F.slot_dict_get, PySem.F.type_dict_get⟩
theorem i_join : MInfo "str" "join" "str.join" := ⟨PySem.F.plainAttrs_str, PySem.F.slot_str_join, PySem.F.type_str_join⟩
def Mth.nm : Mth → String
  | .get => "get" | .join => "join" | .append => "append" | .extend => "extend" | .setdefault => "setdefault" | .pop => "pop" | .index => "index" | .update => "update" | .remove => "remove" | .count => "count" | .split => "split"
theorem join_sound {sep : List Char} : ∀ {vs : List Val} {r : List Char}, joinS sep vs = some r → ∃ xs : List (List Char), vs = xs.map Val.str ∧ Str.join (sOf sep) (xs.map sOf) = sOf r ∧ ((xs.map sOf).map (·.length)).sum + (xs.map sOf).length * (sOf sep).length ≤ r.length + sep.length
  | [], r, h => by
    cases h
    exact ⟨[], rfl, rfl, by simp⟩
  | v :: vs, r, h => by
    cases v with
    | str x =>
      simp only [joinS] at h
      cases vs with
      | nil =>
        simp only [List.isEmpty_nil, if_true, Option.some.injEq] at h
        subst h
        exact ⟨[x], rfl, rfl, by simp [sOf_length]⟩
      | cons u us =>
        simp only [List.isEmpty_cons, Bool.false_eq_true, if_false, Option.map_eq_some_iff] at h
        obtain ⟨y, hy, rfl⟩ := h
        obtain ⟨xs, e1, e2, e3⟩ := join_sound hy
        cases xs with
        | nil => cases e1
        | cons z zs =>
          refine ⟨x :: z :: zs, by rw [e1]; rfl, ?_, ?_⟩
          · show sOf x ++ sOf sep ++ Str.join (sOf sep) ((z :: zs).map sOf) = _
            rw [e2, sOf_append, sOf_append]
          · rw [List.map_cons, List.map_cons, List.sum_cons, List.length_cons, Nat.succ_mul, sOf_length, sOf_length]
            rw [sOf_length] at e3
            simp only [List.length_append]
            omega
    | _ => simp [joinS] at h
theorem vrels_strs {K : PySem.W.Frag} {n : Nat} : ∀ {xs : List (List Char)} {ws : List V}, VRels K H m n (xs.map Val.str) ws → ws = (xs.map sOf).map V.str
  | [], _, h => by cases h; rfl
  | x :: xs, _, h => by
    obtain ⟨u, us, rfl, r, rs⟩ := h
    cases r
    rw [vrels_strs rs]
    rfl
theorem seq_rel {P : Program} {w : World} {K : PySem.W.Frag} {x : EV} {v : V} {vs : List Val} (S : Sim P w K H m ρ st σ) (r : EVRel P w K H m st.length B ρ σ x v) (hc : seqVals st x = some vs) : ∃ a ws, v = .ref a ∧ (SqL K H a ws ∨ SqT K H a ws) ∧ VRels K H m st.length vs ws := by
  unfold seqVals at hc
  split at hc
  · cases hc
    obtain ⟨p, ws, rfl, h1, r1⟩ := r
    exact ⟨p, ws, rfl, .inr h1, r1⟩
  · split at hc
    · rename_i us e
      cases hc
      obtain ⟨a, ws, rfl, h1, h2⟩ := cell_lst S r e
      exact ⟨a, ws, rfl, .inl (.of h1), h2⟩
    · cases hc
theorem mth_sound {E : XK} {k : Mth} {x : EV} {v : V} {xs : List EV} {vs : List V} {B1 B2 : Hp} {Q : VK} {T id : String} (hu : X.A.units + 200 < cLine) (hk : (k = .get ∧ id = "dict.get") ∨ (k = .join ∧ id = "str.join")) (S : Sim X.prog X.w X.K H m ρ st σ) (b : Bs B m st.length H)
    (ro : EVRel X.prog X.w X.K H m st.length B1 ρ σ x v) (rx : EVRels X.prog X.w X.K H m st.length B2 ρ σ xs vs) (h : PostM X.prog X.w X.K XR E B m st.length (RQ X B ρ σ Q) (mthOp k x xs st)) : rSemM X id v vs H Q := by
  rcases hk with ⟨rfl, rfl⟩ | ⟨rfl, rfl⟩
  · have h : PostM X.prog X.w X.K XR E B m st.length (RQ X B ρ σ Q) (getOp x xs st) := h
    unfold getOp at h
    split at h
    · obtain ⟨u, z, rfl, r1, r2⟩ := evs2 rx
      split at h
      · rename_i kvs hc
        obtain ⟨p, rfl, c⟩ := cell_rel S ro hc
        split at h
        · rename_i hk
          exact get_dict hu c hk r1 r2 fun z r => h.done b S.heap z r
        · exact h.elim
      · exact h.elim
    · exact h.elim
  · have h : PostM X.prog X.w X.K XR E B m st.length (RQ X B ρ σ Q) (joinOp x xs st) := h
    unfold joinOp at h
    split at h
    · obtain ⟨u, rfl, r1⟩ := evs1 rx
      cases ro
      split at h
      · rename_i us hc
        split at h
        · rename_i r hr
          split at h
          · rename_i hl
            obtain ⟨a, ws, rfl, hs, rs⟩ := seq_rel S r1 hc
            obtain ⟨zs, rfl, e2, e3⟩ := join_sound hr
            have e4 := vrels_strs rs
            subst e4
            intro pins s σ' v us I rv rvs
            refine mt_join pins s σ' H _ _ v us Q I rv rvs ⟨_, a, zs.map sOf, rfl, rfl, hs, ?_, ?_⟩
            · unfold LIM at hl
              omega
            · rw [TL.join_eq, e2]
              exact h.done b S.heap _ rfl
          · exact h.elim
        · exact h.elim
      · exact h.elim
    · exact h.elim
theorem pre_get {x : EV} {f : Unit → M β} {E : XK} {n : Nat} {R : β → (Nat → Addr) → Store → Hp → Prop} (h : PostM X.prog X.w X.K XR E B m n R ((mthPre .get x >>= f) st)) :
    ∃ kvs, cellOf st x = some (.dict kvs) ∧ PostM X.prog X.w X.K XR E B m n R (f () st) := by
  rw [M.bind_eq] at h
  simp only [mthPre] at h
  cases e : cellOf st x with
  | none => rw [e] at h; exact h.elim
  | some c => cases c with
    | dict kvs => rw [e] at h; exact ⟨kvs, rfl, h⟩
    | _ => rw [e] at h; exact h.elim
theorem pre_join {x : EV} {f : Unit → M β} {E : XK} {n : Nat} {R : β → (Nat → Addr) → Store → Hp → Prop} (h : PostM X.prog X.w X.K XR E B m n R ((mthPre .join x >>= f) st)) :
    ∃ z, x = .v (.str z) ∧ PostM X.prog X.w X.K XR E B m n R (f () st) := by
  cases x with
  | v y => cases y with
    | str z => exact ⟨z, rfl, h⟩
    | _ => exact h.elim
  | _ => exact h.elim
theorem s_mth {eo : Sl → M EV} {er : Sl → M (List EV)} {o e : Expr} {es : List Expr} {apos : Pos} {k : Mth} (hu : X.A.units + 200 < cLine) (hk : k = .get ∨ k = .join) (ho : PE X o (rdE X W XR eo)) (ha : PA X (e :: es) (rdXs X W XR er))
    (hb : okB o = true) (hes : (e :: es).all okE = true) (hlen : (e :: es).length < 20) (hline : (apos.endLine == pos.line) = true) :
    Snd X W XR (fun ρ => do let x ← eo ρ; mthPre k x; let xs ← er ρ; mthOp k x xs) (.Call (.Attribute o (Str.ofString k.nm) apos) (e :: es) [] pos) := by
  refine .of (PE.imp (pe_mG ho ha hb hes hlen hline) fun σ H Q ⟨B, ρ, st, m, S, b, h⟩ => ?_) (call_test)
  refine rd_seq S b h fun x v m1 st1 H1 s1 S1 b1 rx h1 => ?_
  rcases hk with rfl | rfl
  · obtain ⟨kvs, hc, h2⟩ := pre_get h1
    obtain ⟨p, rfl, c⟩ := cell_rel S1 rx hc
    refine ⟨"dict", "dict.get", i_get, ty_dict c, outB H1 m1 st1.length, ρ, st1, m1, S1, bs_out _ _ _, seq_gen S1 b1 h2 fun xs m2 st2 H2 s2 S2 b2 h3 ws rw => ?_⟩
    exact mth_sound (T := "dict") hu (.inl ⟨rfl, rfl⟩) S2 b2 (rx.step S1.heap s2) rw h3
  · obtain ⟨z, rfl, h2⟩ := pre_join h1
    cases rx
    refine ⟨"str", "str.join", i_join, ty_str, outB H1 m1 st1.length, ρ, st1, m1, S1, bs_out _ _ _, seq_gen S1 b1 h2 fun xs m2 st2 H2 s2 S2 b2 h3 ws rw => ?_⟩
    exact mth_sound (T := "str") (x := .v (.str z)) (B1 := B) hu (.inr ⟨rfl, rfl⟩) S2 b2 rfl rw h3
end
end D


set_option Elab.async false
set_option linter.all false
set_option maxHeartbeats 1000000
/-! DL: what is walked. -/
namespace D
open PySem PySem.Spec PyProof.Rows L2
section
variable {P : Program} {w : World} {K : PySem.W.Frag} {H : Hp} {m : Nat → Addr} {n : Nat}
/-- a dict's entries, told by keys and values -/
theorem dict_ents {o : Obj} {kvs : List (Val × Val)} (d : DLeaf P w K H m n kvs o ∨ DTup P w K H m n kvs o) :
    ∃ (es : Array DictEntry) (ep : Nat) (xs : List (V × V)), o.ExactDict ∧ o.data = .dict es ep ∧ es.size = xs.length ∧ (∀ (i : Nat) (en : DictEntry) (p : V × V), es[i]? = some en → xs[i]? = some p → RelV p.1 en.key ∧ RelV p.2 en.val) ∧
      VRels K H m n (kvs.map (·.1)) (xs.map (·.1)) ∧ VRels K H m n (kvs.map (·.2)) (xs.map (·.2)) := by
  have go : ∀ {es : Array DictEntry} {xs : List (V × V)}, Paired (fun (en : DictEntry) (p : V × V) => RelV p.1 en.key ∧ RelV p.2 en.val) es.toList xs → es.size = xs.length ∧ ∀ (i : Nat) (en : DictEntry) (p : V × V), es[i]? = some en → xs[i]? = some p → RelV p.1 en.key ∧ RelV p.2 en.val := by
    intro es xs h
    refine ⟨by rw [← Array.length_toList]; exact Paired.len h, fun i en p e1 e2 => ?_⟩
    rw [← Array.getElem?_toList] at e1
    obtain ⟨b, hb, r⟩ := paired_get h e1
    rw [e2] at hb
    cases hb
    exact r
  rcases d with ⟨kv, vs, ⟨es, ep, h1, h2, h3, h4, h5⟩, r, p⟩ | ⟨xs0, ⟨es, ep, h1, h2, h3, h4⟩, p⟩
  · have key : ∀ {es : List DictEntry} {vs : List (Key × Value)} {kv : List (Key × V)} {kvs : List (Val × Val)}, Pairs (mixKind P w) es vs → KV kv vs → Paired (fun (p : Val × Val) (q : Key × V) => p.1.leaf = some q.1 ∧ VRel K H m n p.2 q.2) kvs kv →
        Paired (fun (en : DictEntry) (p : V × V) => RelV p.1 en.key ∧ RelV p.2 en.val) es (kv.map fun q => (kV q.1, q.2)) ∧ VRels K H m n (kvs.map (·.1)) ((kv.map fun q => (kV q.1, q.2)).map (·.1)) ∧ VRels K H m n (kvs.map (·.2)) ((kv.map fun q => (kV q.1, q.2)).map (·.2)) := by
      intro es vs kv kvs hp
      induction hp generalizing kv kvs with
      | nil => intro r p; cases r; cases p; exact ⟨.nil, rfl, rfl⟩
      | @cons en q es vs hk hv _ ih =>
        intro r p
        cases r with
        | @cons x _ xs _ rx rr =>
          cases p with
          | @cons y _ ys _ py pp =>
            obtain ⟨i1, i2, i3⟩ := ih rr pp
            obtain ⟨x1, x2⟩ := x
            obtain ⟨y1, y2⟩ := y
            have e1 : x1 = q.1 := rx.1
            subst e1
            refine ⟨.cons ⟨relV_key hk, by rw [hv]; exact rx.2⟩ i1, ⟨_, _, rfl, ?_, i2⟩, ⟨_, _, rfl, py.2, i3⟩⟩
            have hl : y1.leaf = some q.1 := py.1
            show VRel K H m n y1 (kV q.1)
            generalize q.1 = k at hl
            cases y1 with
            | int i => cases hl; rfl
            | str s => cases hl; rfl
            | _ => cases hl
    obtain ⟨k1, k2, k3⟩ := key h4 r p
    obtain ⟨g1, g2⟩ := go k1
    exact ⟨es, ep, _, h1, h2, g1, g2, k2, k3⟩
  · have key : ∀ {kvs : List (Val × Val)} {xs0 : List (NestedKey × Addr × Value)}, Paired (fun (p : Val × Val) (x : NestedKey × Addr × Value) => p.1.isTup = true ∧ p.1.nk 8 = some x.1 ∧ VRel K H m n p.1 (.ref x.2.1) ∧ ∃ v, VRel K H m n p.2 v ∧ RelV v x.2.2) kvs xs0 →
        ∃ xs : List (V × V), Paired (fun (en : DictEntry) (p : V × V) => RelV p.1 en.key ∧ RelV p.2 en.val) (xs0.map (entryOfKey (nestedKind P w))) xs ∧ VRels K H m n (kvs.map (·.1)) (xs.map (·.1)) ∧ VRels K H m n (kvs.map (·.2)) (xs.map (·.2)) := by
      intro kvs xs0 hp
      induction hp with
      | nil => exact ⟨[], .nil, rfl, rfl⟩
      | @cons y x ys xs hy _ ih =>
        obtain ⟨zs, i1, i2, i3⟩ := ih
        obtain ⟨_, _, h3, v, h4, h5⟩ := hy
        exact ⟨(.ref x.2.1, v) :: zs, .cons ⟨rfl, h5⟩ i1, ⟨_, _, rfl, h3, i2⟩, ⟨_, _, rfl, h4, i3⟩⟩
    obtain ⟨xs, k1, k2, k3⟩ := key p
    rw [← h3] at k1
    obtain ⟨g1, g2⟩ := go k1
    exact ⟨es, ep, xs, h1, h2, g1, g2, k2, k3⟩
end

/-! ### the keys, the items of a dict's object -/
def ItkO (d : Addr) (o : Obj) (xs : List (V × V)) : It :=
  ⟨fun i H => H d = some (AtO d o) ∧ i < xs.length, fun i H x H' => H' = H ∧ ∃ p, xs[i]? = some p ∧ x = p.1, fun i H => H d = some (AtO d o) ∧ xs.length ≤ i⟩
def ItiO (d : Addr) (o : Obj) (xs : List (V × V)) : It :=
  ⟨fun i H => H d = some (AtO d o) ∧ i < xs.length, fun i H x H' => ∃ T p, xs[i]? = some p ∧ x = .ref T ∧ H T = none ∧ H' = upd H T (.tup [p.1, p.2]), fun i H => H d = some (AtO d o) ∧ xs.length ≤ i⟩
section
variable {P : Program} {w : World} {K : PySem.W.Frag} {tg : Expr} {d : Addr} {o : Obj} {es : Array DictEntry} {ep : Nat} {xs : List (V × V)}
theorem turn_keysO (it : Addr) (hx : o.ExactDict) (hod : o.data = .dict es ep) (hz : es.size = xs.length) (hr : ∀ (i : Nat) (en : DictEntry) (p : V × V), es[i]? = some en → xs[i]? = some p → RelV p.1 en.key ∧ RelV p.2 en.val) :
    Turn P w K tg (ItkO d o xs) [it] it (fun i h => h.IsKeyIter it d i es.size ep) where
  mem := by simp
  obj := fun i h st b hb => by
    have e : b = it := by simpa using hb
    subst e
    obtain ⟨oi, e, c, dd⟩ := st
    exact ⟨oi, e, fun v z => by rw [dd] at z; cases z⟩
  keep := fun i h h' st k => st.at fun oi e => k it (by simp) oi e
  item := by
    intro X hP hw hK hc i pins s σ H E I hf st hg
    subst hP hw hK
    obtain ⟨hd, hi⟩ := hg
    obtain ⟨f0, f1, f2, f3, f4, f5⟩ := hf it (by simp)
    have hi' : i < es.size := by omega
    have hp : xs[i]? = some xs[i] := List.getElem?_eq_getElem hi
    refine wpAny_pyNext_keys_item_raw st ⟨o, at_obj I hd, hx, hod⟩ hi' fun h' st' sb => ?_
    have I1 : Inv X pins σ H { s with heap := h' } := I.turned (t' := s.toks) (fun b ob hb e => (sb.2 b hb).trans e) f0 f1 f3 f4 f5
    obtain ⟨oi, e, c, dd⟩ := id st'
    exact ⟨_, rfl, go_of (s := { s with heap := h' }) e c dd (by decide) ⟨_, H, I1, (hr i _ _ (Array.getElem?_eq_getElem hi') hp).1, ⟨rfl, _, hp, rfl⟩, st', fun b hb => (hf b hb).1⟩⟩
  done := by
    intro X hP hw hK hc i pins s σ H E I hf st hg
    subst hP hw hK
    obtain ⟨hd, hi⟩ := hg
    obtain ⟨f0, f1, f2, f3, f4, f5⟩ := hf it (by simp)
    exact wpAny_pyNext_keys_end_raw (I.ok.hd hc) st ⟨o, at_obj I hd, hx, hod⟩ (by omega) fun h' eb => ⟨rfl, I.turned (t' := s.toks) (fun b ob hb e => eb b ob hb e) f0 f1 f3 f4 f5⟩
  self := fun A i s Q E st h => by
    refine wpAny_pyIter_slot st.typeIs F.slot_dict_keyiterator_iter (wpAny_call_entry F.slot_dict_keyiterator_iter st.typeIs F.entry_dict_keyiterator_iter ?_ (F.args_dict_keyiterator_iter_1 _))
    show wpAny _ _ (ret (.ref it)) _ _ s
    exact wpAny_pure ⟨_, rfl, "dict_keyiterator", _, st.typeIs, F.slot_dict_keyiterator_next.lookup, h⟩
theorem turn_itemsO {elts : List Expr} {kk : Nat} {tpos : Pos} (it : Addr) (hx : o.ExactDict) (hod : o.data = .dict es ep) (hz : es.size = xs.length) (hr : ∀ (i : Nat) (en : DictEntry) (p : V × V), es[i]? = some en → xs[i]? = some p → RelV p.1 en.key ∧ RelV p.2 en.val) :
    Turn P w K (.Tuple elts kk tpos) (ItiO d o xs) [it] it (fun i h => ∃ ok ov, IsItemIter h it d i es.size ep ok ov) where
  mem := by simp
  obj := fun i h st b hb => by
    have e : b = it := by simpa using hb
    subst e
    obtain ⟨ok, ov, e⟩ := st
    exact ⟨_, e, fun v z => nomatch z⟩
  keep := fun i h h' st k => let ⟨ok, ov, e⟩ := st; ⟨ok, ov, k it (by simp) _ e⟩
  item := by
    intro X hP hw hK hc i pins s σ H E I hf st hg
    subst hP hw hK
    obtain ⟨hd, hi⟩ := hg
    have hi' : i < es.size := by omega
    have hp : xs[i]? = some xs[i] := List.getElem?_eq_getElem hi
    obtain ⟨r1, r2⟩ := hr i _ _ (Array.getElem?_eq_getElem hi') hp
    obtain ⟨ok, ov, he⟩ := st
    have hlt : it < s.heap.objs.size := Heap.lt_size he
    refine wpAny_pyNext_items_item_raw he ⟨o, at_obj I hd, hx, hod⟩ hi' fun h' ho hT hzz hk => ?_
    refine ⟨_, rfl, wpAny_letOwnedTupleGo_items (s := { s with heap := h' }) ho fun h'' he' sb => ?_⟩
    have hT2 : h''.get? s.heap.objs.size = some { cls := .type "tuple", data := .seq #[es[i].key, es[i].val] } := (sb.2 _ (Nat.ne_of_gt hlt)).trans hT
    have new : ObjOk X.prog X.w (upd H s.heap.objs.size (.tup [xs[i].1, xs[i].2])) h'' s.heap.objs.size (.tup [xs[i].1, xs[i].2]) :=
      ⟨by show 2 ≤ sizeLine; decide, [es[i].key, es[i].val], .cons r1 (.cons r2 .nil), ⟨_, hT2, rfl, _, rfl⟩⟩
    have I1 : Inv X pins σ (upd H s.heap.objs.size (.tup [xs[i].1, xs[i].2])) { s with heap := h'' } :=
      I.turnedNew (t' := s.toks) (ch := [it]) (fun b ob hb e => (sb.2 b (by simpa using hb)).trans (hk b ob (by simpa using hb) e)) hf (Nat.le_refl _) new
    refine ⟨.ref s.heap.objs.size, _, I1, rfl, ⟨_, _, hp, rfl, I.hok.fresh (Nat.le_refl _), rfl⟩, ⟨_, _, he'⟩, fun b hb => ?_⟩
    have e : b = it := by simpa using hb
    rw [e, upd_ne (Nat.ne_of_lt hlt)]
    exact (hf it (by simp)).1
  done := by
    intro X hP hw hK hc i pins s σ H E I hf st hg
    subst hP hw hK
    obtain ⟨hd, hi⟩ := hg
    obtain ⟨f0, f1, f2, f3, f4, f5⟩ := hf it (by simp)
    obtain ⟨ok, ov, he⟩ := st
    exact wpAny_pyNext_items_end_raw (I.ok.hd hc) he ⟨o, at_obj I hd, hx, hod⟩ (by omega) fun h' eb => ⟨rfl, I.turned (t' := s.toks) (fun b ob hb e => eb b ob hb e) f0 f1 f3 f4 f5⟩
  self := fun A i s Q E st h => let ⟨_, _, e⟩ := st; PySem.W.kcp_self e h
end

/-! ### enumerate of a tuple -/
theorem meets_enumerate_newT (l : Addr) (items : Array Value) :
    Meets (Builtin.«enumerate.__new__» ⟨[.type "enumerate", .ref l], []⟩) (fun _ R s => s.heap.IsTuple l items ∧
      R (.ok (.ret (.ref (s.heap.push { cls := .type "tuple_iterator", data := .fields #[.ref l, .int 0 0] }).objs.size)))
        { s with heap := (s.heap.push { cls := .type "tuple_iterator", data := .fields #[.ref l, .int 0 0] }).push { cls := .type "enumerate", data := .fields #[.none, .bool false, .ref s.heap.objs.size, rawInt 0, .none, .none] } }) :=
  .of_wp fun prog w A R s h => by
    obtain ⟨hp, g, d, tk, os⟩ := s; obtain ⟨h1, h⟩ := h
    have hsub := sub_enumerate
    have q1 : ∀ {A' : Around} {E : Value → Shared → Prop} {Q : Value → Shared → Prop}, Q (.ref hp.objs.size) ⟨hp.push { cls := .type "tuple_iterator", data := .fields #[.ref l, .int 0 0] }, g, d, tk, os⟩ → wpAny (model prog w) A' (pyIter (.ref l)) Q E ⟨hp, g, d, tk, os⟩ :=
      fun q => wpAny_pyIter_tuple h1 q
    wp_walk using q1
    refine wpAny_stack_any fun st => wpAny_pure ?_
    split
    · rename_i c _ _ _ _ _
      cases (c == Value.type "enumerate")
      · wp_walk using q1
        exact ⟨_, rfl, h⟩
      · wp_walk using q1
        exact ⟨_, rfl, h⟩
    · wp_walk using q1
      exact ⟨_, rfl, h⟩
section
variable {prog : Program} {w : World} {A : Around} {E : Value → Shared → Prop} {s : Shared}
theorem call_enumerate_tup {l : Addr} {items : Array Value} {Q : Value → Shared → Prop} (hL : s.heap.IsTuple l items)
    (h : ∀ h', IsEnum h' (s.heap.objs.size + 1) s.heap.objs.size 0 .none → h'.IsTupleIter s.heap.objs.size l 0 → h'.objs.size = s.heap.objs.size + 2 →
      (∀ b o, s.heap.get? b = some o → h'.get? b = some o) → Q (.ref (s.heap.objs.size + 1)) { s with heap := h' }) :
    wpAny (model prog w) A (call (.type "enumerate") [.ref l]) Q E s := by
  refine callType_new F.called_enumerate (by decide) (F.typeCall_enumerate_1 _) (F.newCall_enumerate_1 _) (fun obj => F.args_object_init_2 obj _) F.entry_enumerate_new
    (meets_enumerate_newT l items) ⟨hL, ?_⟩
  have hz : (s.heap.push { cls := .type "tuple_iterator", data := .fields #[.ref l, .int 0 0] }).objs.size = s.heap.objs.size + 1 := Heap.size_push ..
  show _ ∧ _
  rw [hz]
  have he : IsEnum ((s.heap.push { cls := .type "tuple_iterator", data := .fields #[.ref l, .int 0 0] }).push
      { cls := .type "enumerate", data := .fields #[.none, .bool false, .ref s.heap.objs.size, rawInt 0, .none, .none] }) (s.heap.objs.size + 1) s.heap.objs.size 0 .none := by
    have := Heap.get?_push_size (s.heap.push { cls := .type "tuple_iterator", data := .fields #[.ref l, .int 0 0] })
      (o := { cls := .type "enumerate", data := .fields #[.none, .bool false, .ref s.heap.objs.size, rawInt 0, .none, .none] }) rfl
    rw [hz] at this; exact this
  refine ⟨⟨_, he, rfl⟩, h _ he ⟨_, Heap.get?_push_of_some _ (Heap.get?_push_size _ rfl), rfl, rfl⟩ (by rw [Heap.size_push, hz]) fun b o x => Heap.get?_push_of_some _ (Heap.get?_push_of_some _ x)⟩
end
def IteT (K : PySem.W.Frag) (a : Addr) : It :=
  ⟨fun i H => ∃ (xs : List V) (x : V), SqT K H a xs ∧ xs[i]? = some x, fun i H v H' => ∃ T x, v = .ref T ∧ H T = none ∧ H' = upd H T (.tup [.int (i : Nat), x]) ∧ ∀ xs, SqT K H a xs → xs[i]? = some x, fun i H => ∃ xs : List V, SqT K H a xs ∧ i = xs.length⟩
theorem turn_enumT {P : Program} {w : World} {K : PySem.W.Frag} {elts : List Expr} {kk : Nat} {tpos : Pos} (a e it : Addr) :
    Turn P w K (.Tuple elts kk tpos) (IteT K a) [e, it] e (fun i h => (∃ old, IsEnum h e it ((i : Nat) : Int) old) ∧ h.IsTupleIter it a i ∧ e ≠ it) where
  mem := by simp
  obj := fun i h st b hb => by
    obtain ⟨⟨old, he⟩, ⟨o, ho, hc, hd⟩, _⟩ := st
    have e' : b = e ∨ b = it := by simpa using hb
    rcases e' with z | z
    · rw [z]; exact ⟨_, he, fun v q => nomatch q⟩
    · rw [z]; exact ⟨o, ho, fun v q => by rw [hd] at q; cases q⟩
  keep := fun i h h' st k => let ⟨⟨old, he⟩, hi, hne⟩ := st; ⟨⟨old, k e (by simp) _ he⟩, hi.at fun o q => k it (by simp) o q, hne⟩
  item := by
    intro X hP hw hK hc i pins s σ H E I hf st hg
    subst hP hw hK
    obtain ⟨⟨old, he⟩, hit, hne⟩ := st
    obtain ⟨xs, x, hq, hx⟩ := hg
    obtain ⟨its, rv, p, hz⟩ := I.tuple hq
    obtain ⟨u, hu, ru⟩ := rv.get hx
    have p : s.heap.IsTuple a its.toArray := p
    have hel : e < s.heap.objs.size := Heap.lt_size he
    have hil : it < s.heap.objs.size := by obtain ⟨_, q, _⟩ := hit; exact Heap.lt_size q
    have hea : e ≠ a := fun z => by
      obtain ⟨o, ho, hc', _⟩ := p
      have he' : s.heap.get? e = _ := he
      rw [z, ho] at he'
      cases he'
      have hc' : Value.type "enumerate" = Value.type "tuple" := hc'
      exact absurd hc' (by decide)
    have hia : a ≠ it := fun z => by
      obtain ⟨o, ho, hc', _⟩ := p
      obtain ⟨o2, ho2, hc2, _⟩ := hit
      rw [← z, ho] at ho2
      cases ho2
      rw [hc'] at hc2
      exact absurd hc2 (by decide)
    have hi : i < its.toArray.size := by
      have := (List.getElem?_eq_some_iff.mp hu).1
      simpa using this
    refine wpAny_pyNext_enum_itemD (Draws.tuple (A := X.A.in1) (I.ok.hd hc) it a hia its.toArray) he ⟨hit, p⟩ hi hne (by simp [hne, hea]) fun u' h' tk hu' ho hst hT hsz hk => ?_
    have eu : u' = u := by
      have hu'' : its.toArray[i]? = some u' := hu'
      rw [List.getElem?_toArray, hu] at hu''
      cases hu''
      rfl
    subst eu
    obtain ⟨hit', p'⟩ := hst
    refine ⟨_, rfl, wpAny_letOwnedTupleGo_enum (s := { s with heap := h', toks := tk + 1 }) ho fun h'' he' sb => ?_⟩
    have hT2 : h''.get? s.heap.objs.size = some { cls := .type "tuple", data := .seq #[.int i tk, u'] } := (sb.2 _ (Nat.ne_of_gt hel)).trans hT
    have new : ObjOk X.prog X.w (upd H s.heap.objs.size (.tup [.int (i : Nat), x])) h'' s.heap.objs.size (.tup [.int (i : Nat), x]) :=
      ⟨by show 2 ≤ sizeLine; decide, [.int i tk, u'], .cons ⟨_, rfl⟩ (.cons ru .nil), ⟨_, hT2, rfl, _, rfl⟩⟩
    have I1 : Inv X pins σ (upd H s.heap.objs.size (.tup [.int (i : Nat), x])) { s with heap := h'', toks := tk + 1 } :=
      I.turnedNew (ch := [e, it]) (fun b ob hb q => (sb.2 b (fun z => hb (by simp [z]))).trans (hk b ob (fun z => hb (by simp [z])) (fun z => hb (by simp [z])) q)) hf (Nat.le_refl _) new
    refine ⟨.ref s.heap.objs.size, _, I1, rfl, ⟨_, x, rfl, I.hok.fresh (Nat.le_refl _), rfl, fun ys hy => by rw [I.tuple_inj hy hq]; exact hx⟩, ⟨⟨u', ?_⟩, hit'.at fun o q => (sb.2 it (Ne.symm hne)).trans q, hne⟩, fun b hb => ?_⟩
    · have e1 : ((i + 1 : Nat) : Int) = (i : Int) + 1 := by omega
      rw [e1]; exact he'
    · have hb' : b < s.heap.objs.size := by
        have e' : b = e ∨ b = it := by simpa using hb
        rcases e' with z | z
        · rw [z]; exact hel
        · rw [z]; exact hil
      rw [upd_ne (Nat.ne_of_lt hb')]
      exact (hf b hb).1
  done := by
    intro X hP hw hK hc i pins s σ H E I hf st hg
    subst hP hw hK
    obtain ⟨⟨old, he⟩, hit, hne⟩ := st
    obtain ⟨xs, hq, hx⟩ := hg
    obtain ⟨its, rv, p, hz⟩ := I.tuple hq
    have p : s.heap.IsTuple a its.toArray := p
    obtain ⟨f0, f1, f2, f3, f4, f5⟩ := hf it (by simp)
    have hl := rv.length
    have hia : a ≠ it := fun z => by
      obtain ⟨o, ho, hc', _⟩ := p
      obtain ⟨o2, ho2, hc2, _⟩ := hit
      rw [← z, ho] at ho2
      cases ho2
      rw [hc'] at hc2
      exact absurd hc2 (by decide)
    have hi : i = its.toArray.size := by simp; omega
    rw [hi] at hit
    exact wpAny_pyNext_enum_endD (Draws.tuple (A := X.A.in1) (I.ok.hd hc) it a hia its.toArray) he ⟨hit, p⟩ fun h' eb => ⟨rfl, I.turned (t' := s.toks) (fun b o hb q => eb b o hb q) f0 f1 f3 f4 f5⟩
  self := fun A i s Q E st h => let ⟨⟨_, he⟩, _⟩ := st; wpAny_pyIter_enum he h
end D


set_option Elab.async false
set_option linter.all false
set_option maxHeartbeats 1000000
/-! DM: what is walked, by the evaluator. -/
namespace D
open PySem PySem.Spec PyProof.Rows L2
def Gd.okS (st : Store) : Gd → Prop
  | .loc l c => st[l]? = some c
  | _ => True
section
variable (X : Cx)
/-- the iterator gives these values, as long as what it walks is there -/
def ItOk (H0 : Hp) (m0 : Nat → Addr) (n0 : Nat) (as : List Addr) (s : Src) (J : It) : Prop :=
  ∀ (m' : Nat → Addr) (st' : Store) (H' : Hp), HRel X.prog X.w X.K H' m' st' → n0 ≤ st'.length → (∀ l, l < n0 → m' l = m0 l) → TupsK H0 H' → (∀ a, a ∈ as → H' a = H0 a) → s.gd.okS st' →
    ∀ i, (∀ x, s.vals[i]? = some x → J.go i H' ∧ ∀ v H'', J.yld i H' v H'' → (H'' = H' ∨ ∃ p us, H' p = none ∧ H'' = upd H' p (.tup us)) ∧ VRel X.K H'' m' st'.length x v) ∧ (s.vals.length = i → J.stop i H')
def SrcOk (H : Hp) (m : Nat → Addr) (n : Nat) (B : Hp) (ρ : Sl) (σ : L2.St) (s : Src) (as : List Addr) (J : It) : Prop :=
  (∀ a, a ∈ as → (∃ o, H a = some o ∧ NoTbl o) ∧ (∀ l, l < n → m l ≠ a) ∧ (B a = none ∨ ∃ i c k, s.gd = .slot i c ∧ ρ[i]? = some (some (.t c k)) ∧ σ[i]? = some (some (.ref a)))) ∧
    ItOk X H m n as s J
def rdI (W : WX) (XR : XRel) (ev : Sl → M Src) : TI := fun σ H R => ∃ (B : Hp) (ρ : Sl) (st : Store) (m : Nat → Addr), Sim X.prog X.w X.K H m ρ st σ ∧ Bs B m st.length H ∧
  PostM X.prog X.w X.K XR (WE W σ) B m st.length (fun s m' st' H' => ∀ as J, SrcOk X H' m' st'.length B ρ σ s as J → R J H') (ev ρ st)
end
section
variable {X : Cx} {W : WX} {XR : XRel} {H H' B B' : Hp} {m m' : Nat → Addr} {st st' : Store} {ρ : Sl} {σ : L2.St} {n : Nat} {pos : Pos}
theorem enumL_get : ∀ (vs : List Val) (k i : Nat) (x : Val), (enumL k vs)[i]? = some x → ∃ v, vs[i]? = some v ∧ x = .tup [.int ((k + i : Nat) : Int), v]
  | [], _, _, _, h => by simp [enumL] at h
  | v :: r, k, 0, x, h => by
    simp only [enumL, List.getElem?_cons_zero, Option.some.injEq] at h
    exact ⟨v, rfl, by rw [← h]; rfl⟩
  | v :: r, k, i + 1, x, h => by
    simp only [enumL, List.getElem?_cons_succ] at h
    obtain ⟨u, h1, h2⟩ := enumL_get r (k + 1) i x h
    refine ⟨u, by simpa using h1, ?_⟩
    rw [h2]
    have : k + 1 + i = k + (i + 1) := by omega
    rw [this]
theorem enumL_len : ∀ (vs : List Val) (k : Nat), (enumL k vs).length = vs.length
  | [], _ => rfl
  | _ :: r, k => by simp [enumL, enumL_len r]
theorem zipL_get : ∀ (vs ws : List Val) (i : Nat) (x : Val), (zipL vs ws)[i]? = some x → ∃ v w, vs[i]? = some v ∧ ws[i]? = some w ∧ x = .tup [v, w]
  | [], _, _, _, h => by simp [zipL] at h
  | _ :: _, [], _, _, h => by simp [zipL] at h
  | v :: r, w :: t, 0, x, h => by
    simp only [zipL, List.getElem?_cons_zero, Option.some.injEq] at h
    exact ⟨v, w, rfl, rfl, h.symm⟩
  | v :: r, w :: t, i + 1, x, h => by
    simp only [zipL, List.getElem?_cons_succ] at h
    obtain ⟨u, z, h1, h2, h3⟩ := zipL_get r t i x h
    exact ⟨u, z, by simpa using h1, by simpa using h2, h3⟩
theorem zipL_len : ∀ (vs ws : List Val), (zipL vs ws).length = vs.length ∨ (zipL vs ws).length = ws.length
  | [], _ => .inl rfl
  | _ :: _, [] => .inr rfl
  | _ :: r, _ :: t => by rcases zipL_len r t with h | h <;> simp [zipL, h]
theorem zipL_le : ∀ (vs ws : List Val), vs.length ≤ (zipL vs ws).length ∨ ws.length ≤ (zipL vs ws).length := fun vs ws => by
  rcases zipL_len vs ws with h | h
  · exact .inl (by omega)
  · exact .inr (by omega)
theorem rngL_get : ∀ (n : Nat) (a : Int) (i : Nat) (x : Val), (rngL a n)[i]? = some x → i < n ∧ x = .int (a + i)
  | 0, _, _, _, h => by simp [rngL] at h
  | n + 1, a, 0, x, h => by
    simp only [rngL, List.getElem?_cons_zero, Option.some.injEq] at h
    exact ⟨by omega, by rw [← h]; simp⟩
  | n + 1, a, i + 1, x, h => by
    simp only [rngL, List.getElem?_cons_succ] at h
    obtain ⟨h1, h2⟩ := rngL_get n (a + 1) i x h
    refine ⟨by omega, ?_⟩
    rw [h2]
    have : a + 1 + (i : Int) = a + ((i + 1 : Nat) : Int) := by omega
    rw [this]
theorem rngL_len : ∀ (n : Nat) (a : Int), (rngL a n).length = n
  | 0, _ => rfl
  | n + 1, a => by simp [rngL, rngL_len n]

/-! what each gives -/
theorem VRels.getR {K : PySem.W.Frag} {vs : List Val} {ws : List V} {i : Nat} {v : Val} {x : V} (r : VRels K H m n vs ws) (h : vs[i]? = some v) (h2 : ws[i]? = some x) : VRel K H m n v x := by
  obtain ⟨y, h3, h4⟩ := r.get h
  rw [h2] at h3
  cases h3
  exact h4
theorem io_tup {a : Addr} {vs : List Val} {ws : List V} {g : Gd} (hq : SqT X.K H a ws) (r : VRels X.K H m n vs ws) : ItOk X H m n [] ⟨vs, g⟩ (Itt X.K a) := fun m' st' H' hr hn ag t _ _ i => by
  have hq' := SqT.stay t hq
  have r' := r.stay t ag hn
  refine ⟨fun x hx => ?_, fun hi => ⟨ws, hq', by rw [← r.length]; exact Nat.le_of_eq hi⟩⟩
  obtain ⟨y, hy, ry⟩ := r'.get hx
  refine ⟨⟨ws, y, hq', hy⟩, fun v H'' ⟨e, hv⟩ => ?_⟩
  subst e
  exact ⟨.inl rfl, r'.getR hx (hv ws hq')⟩
theorem io_own {a : Addr} {vs : List Val} {ws : List V} {g : Gd} (hq : H a = some (.lst ws)) (r : VRels X.K H m n vs ws) : ItOk X H m n [a] ⟨vs, g⟩ (Itl X.K a) := fun m' st' H' hr hn ag t ha _ i => by
  have hq' : SqL X.K H' a ws := .of ((ha a (by simp)).trans hq)
  have r' := r.stay t ag hn
  refine ⟨fun x hx => ?_, fun hi => ⟨ws, hq', by rw [← r.length]; exact Nat.le_of_eq hi⟩⟩
  obtain ⟨y, hy, ry⟩ := r'.get hx
  refine ⟨⟨ws, y, hq', hy⟩, fun v H'' ⟨e, hv⟩ => ?_⟩
  subst e
  exact ⟨.inl rfl, r'.getR hx (hv ws hq')⟩
theorem io_loc {l : Nat} {vs : List Val} (hl : l < n) : ItOk X H m n [] ⟨vs, .loc l (.lst vs)⟩ (Itl X.K (m l)) := fun m' st' H' hr hn ag t _ hg i => by
  obtain ⟨ws, hq, r'⟩ : CRel X.prog X.w X.K H' m' st'.length (.lst vs) (m' l) := hr.cell l _ hg
  rw [ag l hl] at hq
  have hq' : SqL X.K H' (m l) ws := .of hq
  refine ⟨fun x hx => ?_, fun hi => ⟨ws, hq', by rw [← r'.length]; exact Nat.le_of_eq hi⟩⟩
  obtain ⟨y, hy, ry⟩ := r'.get hx
  refine ⟨⟨ws, y, hq', hy⟩, fun v H'' ⟨e, hv⟩ => ?_⟩
  subst e
  exact ⟨.inl rfl, r'.getR hx (hv ws hq')⟩
theorem io_str {cs : List Char} {g : Gd} : ItOk X H m n [] ⟨cs.map fun c => .str [c], g⟩ (Its (sOf cs)) := fun m' st' H' hr hn ag t _ _ i => by
  have hz : (sOf cs).cps.size = cs.length := by simp [sOf]
  refine ⟨fun x hx => ?_, fun hi => ?_⟩
  · simp only [List.getElem?_map, Option.map_eq_some_iff] at hx
    obtain ⟨c, hc, rfl⟩ := hx
    refine ⟨by show i < _; rw [hz]; exact (List.getElem?_eq_some_iff.mp hc).1, fun v H'' ⟨e, d, hd, hv⟩ => ?_⟩
    subst e hv
    refine ⟨.inl rfl, ?_⟩
    show V.str _ = V.str _
    have : (sOf cs).cps[i]? = some c.toNat := by simp [sOf, hc]
    rw [this] at hd
    cases hd
    rfl
  · show _ ≤ i
    rw [hz]
    simp at hi
    omega
theorem upd_pair {a b : Val} {x y : V} {p : Addr} {K : PySem.W.Frag} (hp : H p = none) (ra : VRel K H m n a x) (rb : VRel K H m n b y) : VRel K (upd H p (.tup [x, y])) m n (.tup [a, b]) (.ref p) :=
  ⟨p, [x, y], rfl, .inl (.inl upd_same), ⟨x, [y], rfl, ra.stay (tups_alloc hp _) (fun _ _ => rfl) (Nat.le_refl _), ⟨y, [], rfl, rb.stay (tups_alloc hp _) (fun _ _ => rfl) (Nat.le_refl _), rfl⟩⟩⟩
theorem io_keys {a : Addr} {o : Obj} {kvs : List (Val × Val)} {xs : List (V × V)} {g : Gd} (hq : H a = some (AtO a o)) (r : VRels X.K H m n (kvs.map (·.1)) (xs.map (·.1))) : ItOk X H m n [a] ⟨kvs.map (·.1), g⟩ (ItkO a o xs) := fun m' st' H' hr hn ag t ha _ i => by
  have hq' : H' a = some (AtO a o) := (ha a (by simp)).trans hq
  have r' := r.stay t ag hn
  have hz : kvs.length = xs.length := by simpa using r.length
  refine ⟨fun x hx => ?_, fun hi => ⟨hq', by simp at hi; omega⟩⟩
  have hi : i < kvs.length := by have := (List.getElem?_eq_some_iff.mp hx).1; simpa using this
  refine ⟨⟨hq', by omega⟩, fun v H'' ⟨e, p, hp, hv⟩ => ?_⟩
  subst e hv
  exact ⟨.inl rfl, r'.getR hx (by rw [List.getElem?_map, hp]; rfl)⟩
theorem io_items {a : Addr} {o : Obj} {kvs : List (Val × Val)} {xs : List (V × V)} {g : Gd} (hq : H a = some (AtO a o)) (r : VRels X.K H m n (kvs.map (·.1)) (xs.map (·.1))) (r2 : VRels X.K H m n (kvs.map (·.2)) (xs.map (·.2))) :
    ItOk X H m n [a] ⟨kvs.map fun kv => .tup [kv.1, kv.2], g⟩ (ItiO a o xs) := fun m' st' H' hr hn ag t ha _ i => by
  have hq' : H' a = some (AtO a o) := (ha a (by simp)).trans hq
  have r' := r.stay t ag hn
  have r2' := r2.stay t ag hn
  have hz : kvs.length = xs.length := by simpa using r.length
  refine ⟨fun x hx => ?_, fun hi => ⟨hq', by simp at hi; omega⟩⟩
  simp only [List.getElem?_map, Option.map_eq_some_iff] at hx
  obtain ⟨kv, hk, rfl⟩ := hx
  have hi : i < kvs.length := (List.getElem?_eq_some_iff.mp hk).1
  refine ⟨⟨hq', by omega⟩, fun v H'' ⟨T, p, hp, hv, hT, e⟩ => ?_⟩
  subst e hv
  exact ⟨.inr ⟨T, _, hT, rfl⟩, upd_pair hT (r'.getR (i := i) (by rw [List.getElem?_map, hk]; rfl) (by rw [List.getElem?_map, hp]; rfl)) (r2'.getR (i := i) (by rw [List.getElem?_map, hk]; rfl) (by rw [List.getElem?_map, hp]; rfl))⟩
theorem int_zero_add {i : Nat} : ((0 + i : Nat) : Int) = (i : Int) := by rw [Nat.zero_add]
theorem io_enumT {a : Addr} {vs : List Val} {ws : List V} {g : Gd} (hq : SqT X.K H a ws) (r : VRels X.K H m n vs ws) : ItOk X H m n [] ⟨enumL 0 vs, g⟩ (IteT X.K a) := fun m' st' H' hr hn ag t _ _ i => by
  have hq' := SqT.stay t hq
  have r' := r.stay t ag hn
  refine ⟨fun x hx => ?_, fun hi => ⟨ws, hq', by rw [enumL_len] at hi; rw [← r.length]; exact hi.symm⟩⟩
  obtain ⟨v, hv, rfl⟩ := enumL_get vs 0 i x hx
  obtain ⟨y, hy, ry⟩ := r'.get hv
  refine ⟨⟨ws, y, hq', hy⟩, fun u H'' ⟨T, z, e1, hT, e2, hz⟩ => ?_⟩
  subst e1 e2
  exact ⟨.inr ⟨T, _, hT, rfl⟩, upd_pair hT (by rw [int_zero_add]; exact rfl) (r'.getR hv (hz ws hq'))⟩
theorem io_enum_own {a : Addr} {vs : List Val} {ws : List V} {g : Gd} (hq : H a = some (.lst ws)) (r : VRels X.K H m n vs ws) : ItOk X H m n [a] ⟨enumL 0 vs, g⟩ (Ite X.K a) := fun m' st' H' hr hn ag t ha _ i => by
  have hq' : SqL X.K H' a ws := .of ((ha a (by simp)).trans hq)
  have r' := r.stay t ag hn
  refine ⟨fun x hx => ?_, fun hi => ⟨ws, hq', by rw [enumL_len] at hi; rw [← r.length]; exact Nat.le_of_eq hi⟩⟩
  obtain ⟨v, hv, rfl⟩ := enumL_get vs 0 i x hx
  obtain ⟨y, hy, ry⟩ := r'.get hv
  refine ⟨⟨ws, y, hq', hy⟩, fun u H'' ⟨T, z, e1, hT, e2, hz⟩ => ?_⟩
  subst e1 e2
  exact ⟨.inr ⟨T, _, hT, rfl⟩, upd_pair hT (by rw [int_zero_add]; exact rfl) (r'.getR hv (hz ws hq'))⟩
theorem io_enum_loc {l : Nat} {vs : List Val} (hl : l < n) : ItOk X H m n [] ⟨enumL 0 vs, .loc l (.lst vs)⟩ (Ite X.K (m l)) := fun m' st' H' hr hn ag t _ hg i => by
  obtain ⟨ws, hq, r'⟩ : CRel X.prog X.w X.K H' m' st'.length (.lst vs) (m' l) := hr.cell l _ hg
  rw [ag l hl] at hq
  have hq' : SqL X.K H' (m l) ws := .of hq
  refine ⟨fun x hx => ?_, fun hi => ⟨ws, hq', by rw [enumL_len] at hi; rw [← r'.length]; exact Nat.le_of_eq hi⟩⟩
  obtain ⟨v, hv, rfl⟩ := enumL_get vs 0 i x hx
  obtain ⟨y, hy, ry⟩ := r'.get hv
  refine ⟨⟨ws, y, hq', hy⟩, fun u H'' ⟨T, z, e1, hT, e2, hz⟩ => ?_⟩
  subst e1 e2
  exact ⟨.inr ⟨T, _, hT, rfl⟩, upd_pair hT (by rw [int_zero_add]; exact rfl) (r'.getR hv (hz ws hq'))⟩
theorem io_zip {a c : Addr} {vs us : List Val} {ws xs : List V} {g : Gd} (hq : SqT X.K H a ws) (r : VRels X.K H m n vs ws) (hp : SqT X.K H c xs) (r2 : VRels X.K H m n us xs) : ItOk X H m n [] ⟨zipL vs us, g⟩ (RZ.ItzT X.K a c) := fun m' st' H' hr hn ag t _ _ i => by
  have hq' := SqT.stay t hq
  have r' := r.stay t ag hn
  have hp' := SqT.stay t hp
  have r2' := r2.stay t ag hn
  refine ⟨fun x hx => ?_, fun hi => ⟨ws, xs, hq', hp', by
    have hi : (zipL vs us).length = i := hi
    rcases zipL_le vs us with h | h
    · exact .inl (by rw [← r.length, ← hi]; exact h)
    · exact .inr (by rw [← r2.length, ← hi]; exact h)⟩⟩
  obtain ⟨v, z, hv, hz, rfl⟩ := zipL_get vs us i x hx
  obtain ⟨y, hy, ry⟩ := r'.get hv
  obtain ⟨y2, hy2, ry2⟩ := r2'.get hz
  refine ⟨⟨ws, xs, y, y2, hq', hp', hy, hy2⟩, fun u H'' ⟨T, z1, z2, e1, hT, e2, h1, h2⟩ => ?_⟩
  subst e1 e2
  exact ⟨.inr ⟨T, _, hT, rfl⟩, upd_pair hT (r'.getR hv (h1 ws hq')) (r2'.getR hz (h2 xs hp'))⟩
theorem io_rng {k : Nat} {g : Gd} : ItOk X H m n [] ⟨rngL 0 k, g⟩ (Itr 0 k) := fun m' st' H' hr hn ag t _ _ i => by
  refine ⟨fun x hx => ?_, fun hi => ?_⟩
  · obtain ⟨h1, rfl⟩ := rngL_get k 0 i x hx
    refine ⟨h1, fun v H'' ⟨e, hv⟩ => ?_⟩
    subst e hv
    exact ⟨.inl rfl, rfl⟩
  · rw [rngL_len] at hi
    show k ≤ i
    omega

/-! the iterators laid -/
section
variable {pins : List (Addr × Obj)} {s : Shared} {tg : Expr} {R : It → Hp → Prop} {E : Value → Shared → Prop}
theorem k_list {a : Addr} {ws : List V} (I : Inv X pins σ H s) (hq : SqL X.K H a ws) (q : R (Itl X.K a) H) : wpAny (model X.prog X.w) X.A (pyIter (.ref a)) (PIE X pins σ tg R) E s := by
  obtain ⟨its, rv, p, hz⟩ := I.list hq
  exact wpAny_pyIter_list p.isList (pi_one (tk := s.toks) I _ (turn_list a _) ⟨_, Heap.get?_push_size _ rfl, rfl, rfl⟩ q)
theorem k_tup {a : Addr} {ws : List V} (I : Inv X pins σ H s) (hq : SqT X.K H a ws) (q : R (Itt X.K a) H) : wpAny (model X.prog X.w) X.A (pyIter (.ref a)) (PIE X pins σ tg R) E s := by
  obtain ⟨its, rv, p, hz⟩ := I.tuple hq
  exact wpAny_pyIter_tuple (show s.heap.IsTuple a its.toArray from p) (pi_one (tk := s.toks) I _ (turn_tuple a _) ⟨_, Heap.get?_push_size _ rfl, rfl, rfl⟩ q)
theorem k_str {x : Str} {t : Tok} (I : Inv X pins σ H s) (q : R (Its x) H) : wpAny (model X.prog X.w) X.A (pyIter (.str x t)) (PIE X pins σ tg R) E s := by
  cases ha : x.cps.all (· < 128)
  · exact wpAny_pyIter_wide ha (pi_one (tk := s.toks) I _ (turn_str _ x t "str_iterator" (.inr rfl)) ⟨_, Heap.get?_push_size _ rfl, rfl, rfl⟩ q)
  · exact wpAny_pyIter_ascii ha (pi_one (tk := s.toks) I _ (turn_str _ x t "str_ascii_iterator" (.inl rfl)) ⟨_, Heap.get?_push_size _ rfl, rfl, rfl⟩ q)
theorem k_keys {a : Addr} {kvs : List (Val × Val)} (I : Inv X pins σ H s) (c : CRel X.prog X.w X.K H m n (.dict kvs) a)
    (q : ∀ o xs, H a = some (AtO a o) → VRels X.K H m n (kvs.map (·.1)) (xs.map (·.1)) → R (ItkO a o xs) H) : wpAny (model X.prog X.w) X.A (pyIter (.ref a)) (PIE X pins σ tg R) E s := by
  obtain ⟨h1, h2, o, e, d⟩ := c
  obtain ⟨es, ep, xs, g1, g2, g3, g4, g5, g6⟩ := dict_ents d
  exact wpAny_pyIter_dict_raw h1 ⟨o, at_obj I e, g1, g2⟩ (pi_one (tk := s.toks) I _ (turn_keysO _ g1 g2 g3 g4) ⟨_, Heap.get?_push_size _ rfl, rfl, rfl⟩ (q o xs e g5))
theorem src_ok {x : EV} {v : V} {u : Value} {src : Src} (I : Inv X pins σ H s) (S : Sim X.prog X.w X.K H m ρ st σ) (b : Bs B m st.length H) (r : EVRel X.prog X.w X.K H m st.length B ρ σ x v) (ru : RelV v u) (h : srcOf x st = .ok src st')
    (q : ∀ as J, SrcOk X H m st.length B ρ σ src as J → R J H) : wpAny (model X.prog X.w) X.A (pyIter u) (PIE X pins σ tg R) E s := by
  have own : ∀ {c : Cell} {a : Addr} {g : Gd}, CRel X.prog X.w X.K H m st.length c a → (∀ l, l < st.length → m l ≠ a) → (B a = none ∨ ∃ i c k, g = .slot i c ∧ ρ[i]? = some (some (.t c k)) ∧ σ[i]? = some (some (.ref a))) →
      ∀ vs, cellVals c = some vs → (∀ as J, SrcOk X H m st.length B ρ σ ⟨vs, g⟩ as J → R J H) → wpAny (model X.prog X.w) X.A (pyIter (.ref a)) (PIE X pins σ tg R) E s := by
    intro c a g hc hn hB vs hv q
    obtain ⟨o, ho, ht, _⟩ := hc.some
    have side : ∀ b, b ∈ [a] → (∃ o, H b = some o ∧ NoTbl o) ∧ (∀ l, l < st.length → m l ≠ b) ∧ (B b = none ∨ ∃ i c k, g = .slot i c ∧ ρ[i]? = some (some (.t c k)) ∧ σ[i]? = some (some (.ref b))) := fun b hb => by
      have e : b = a := by simpa using hb
      subst e
      exact ⟨⟨o, ho, ht⟩, hn, hB⟩
    cases c with
    | lst ws =>
      cases hv
      obtain ⟨us, e, rr⟩ := hc
      exact k_list I (.of e) (q _ _ ⟨side, io_own e rr⟩)
    | dict kvs =>
      cases hv
      exact k_keys I hc fun o xs e rr => q _ _ ⟨side, io_keys e rr⟩
    | set _ => cases hv
    | inst _ _ => cases hv
  unfold srcOf at h
  split at h
  · cases h
    obtain ⟨p, ws, rfl, h1, r1⟩ := r
    cases ru
    exact k_tup I h1 (q _ _ ⟨fun a ha => (by simp at ha), io_tup h1 r1⟩)
  · cases h
    cases r
    obtain ⟨t, rfl⟩ := ru
    exact k_str I (q _ _ ⟨fun a ha => (by simp at ha), io_str⟩)
  · rename_i l
    split at h
    · rename_i vs hc
      cases h
      obtain ⟨hl, rfl⟩ := r
      cases ru
      obtain ⟨ws, e, rr⟩ := S.heap.cell l _ hc
      exact k_list I (.of e) (q _ _ ⟨fun a ha => (by simp at ha), io_loc hl⟩)
    · cases h
  · cases h
  · rename_i c
    obtain ⟨a, rfl, hc, hn, hB⟩ := r
    cases ru
    split at h
    · rename_i vs hv
      cases h
      exact own hc hn (.inl hB) vs hv q
    · cases h
  · rename_i i c
    obtain ⟨⟨k, e1⟩, e2⟩ := r
    obtain ⟨v', e3, a, rfl, hc, hn⟩ := S.slot.get i _ e1
    rw [e2] at e3
    cases e3
    cases ru
    split at h
    · rename_i vs hv
      cases h
      exact own hc hn (.inr ⟨i, c, k, rfl, e1, e2⟩) vs hv q
    · cases h
theorem srcOf_st {x : EV} : (∃ src, srcOf x st = .ok src st) ∨ srcOf x st = .stuck := by
  unfold srcOf
  repeat' split
  all_goals first | exact .inr rfl | exact .inl ⟨_, rfl⟩
end
/-- what stands behind a sub-expression -/
def after (X : Cx) (W : WX) (XR : XRel) {β : Type} (B : Hp) (ρ : Sl) (σ : L2.St) (f : EV → M β) (R : β → (Nat → Addr) → Store → Hp → Prop) : VK := fun v H1 => ∃ (x : EV) (m1 : Nat → Addr) (st1 : Store), Sim X.prog X.w X.K H1 m1 ρ st1 σ ∧ Bs B m1 st1.length H1 ∧
  EVRel X.prog X.w X.K H1 m1 st1.length B ρ σ x v ∧ PostM X.prog X.w X.K XR (WE W σ) B m1 st1.length R (f x st1)
theorem rd_after {β : Type} {ea : Sl → M EV} {f : EV → M β} {R : β → (Nat → Addr) → Store → Hp → Prop} (S : Sim X.prog X.w X.K H m ρ st σ) (b : Bs B m st.length H) (h : PostM X.prog X.w X.K XR (WE W σ) B m st.length R ((ea ρ >>= f) st)) :
    rdE X W XR ea σ H (after X W XR B ρ σ f R) := rd_seq S b h fun x v m1 st1 H1 s1 S1 b1 rx h1 => ⟨x, m1, st1, S1, b1, rx.less b.le_out, h1⟩
/-- e -/
theorem i_seq {tg e : Expr} {ee : Sl → M EV} (he : PE X e (rdE X W XR ee)) : PI X tg e (rdI X W XR fun ρ => do let x ← ee ρ; srcOf x) := by
  refine ⟨fun pins s σ H R I ⟨B, ρ, st, m, S, b, h⟩ => ?_⟩
  refine thn (he.run pins s σ H _ I (rd_after S b h)) fun u s1 ⟨v, H1, I1, ru, x, m1, st1, S1, b1, rx, h1⟩ => ?_
  try dsimp only at h1
  rcases srcOf_st (x := x) (st := st1) with ⟨src, e1⟩ | e1
  · rw [e1] at h1
    exact src_ok I1 S1 b1 rx ru e1 fun as J hJ => h1.done b1 S1.heap as J hJ
  · rw [e1] at h1
    exact h1.elim
/-- e.items() -/
theorem i_items {e : Expr} {ee : Sl → M EV} {elts : List Expr} {kk : Nat} {tpos apos cpos : Pos} (he : PE X e (rdE X W XR ee)) (hb : okB e = true) (hline : (apos.endLine == cpos.line) = true) :
    PI X (.Tuple elts kk tpos) (.Call (.Attribute e "items" apos) [] [] cpos) (rdI X W XR fun ρ => do let x ← ee ρ; itemsOf x) := by
  refine ⟨fun pins s σ H R I ⟨B, ρ, st, m, S, b, h⟩ => ?_⟩
  refine wpAny_Call_method (T := "dict") (id := "dict.items") (base_ok hb _ X.env) rfl hline F.plainAttrs_dict F.slot_dict_items F.type_dict_items (thn (he.run pins s σ H _ I (rd_after S b h)) fun u s1 ⟨v, H1, I1, ru, x, m1, st1, S1, b1, rx, h1⟩ => ?_)
  try dsimp only at h1
  have own : ∀ {kvs : List (Val × Val)} {a : Addr} {g : Gd}, u = .ref a → CRel X.prog X.w X.K H1 m1 st1.length (.dict kvs) a → (∀ l, l < st1.length → m1 l ≠ a) → (B a = none ∨ ∃ i c k, g = .slot i c ∧ ρ[i]? = some (some (.t c k)) ∧ σ[i]? = some (some (.ref a))) →
      (∀ as J, SrcOk X H1 m1 st1.length B ρ σ ⟨kvs.map fun kv => .tup [kv.1, kv.2], g⟩ as J → R J H1) → s1.TypeIs u "dict" ∧ (∀ a, u = .ref a → ∃ ob, s1.heap.get? a = some ob ∧ ob.dict = none) ∧
      wpAny (model X.prog X.w) X.A (callWith cpos (.builtin "dict.items") [u] [] []) (fun v s1 => wpAny (model X.prog X.w) X.A (pyIter v) (PIE X pins σ (.Tuple elts kk tpos) R) X.xe s1) X.xe s1 := by
    intro kvs a g hu hc hn hB q
    subst hu
    obtain ⟨g1, g2, o, e1, d⟩ := hc
    obtain ⟨es, ep, xs, d1, d2, d3, d4, d5, d6⟩ := dict_ents d
    have ho := at_obj I1 e1
    have hraw : s1.heap.DictRaw a es ep := ⟨o, ho, d1, d2⟩
    have side : ∀ b, b ∈ [a] → (∃ o, H1 b = some o ∧ NoTbl o) ∧ (∀ l, l < st1.length → m1 l ≠ b) ∧ (B b = none ∨ ∃ i c k, g = .slot i c ∧ ρ[i]? = some (some (.t c k)) ∧ σ[i]? = some (some (.ref b))) := fun b hb => by
      have e : b = a := by simpa using hb
      subst e
      exact ⟨⟨_, e1, True.intro⟩, hn, hB⟩
    refine ⟨hraw.typeIs, fun c z => ?_, ?_⟩
    · cases z; exact ⟨o, ho, d1.2.1⟩
    have I2 : Inv X pins σ H1 { s1 with heap := s1.heap.push { cls := .type "dict_items", data := .fields #[.ref a] } } := I1.kept (t' := s1.toks) fun b ob q => Heap.get?_push_of_some _ q
    have fin : wpAny (model X.prog X.w) X.A (pyIter (.ref s1.heap.objs.size)) (PIE X pins σ (.Tuple elts kk tpos) R) X.xe { s1 with heap := s1.heap.push { cls := .type "dict_items", data := .fields #[.ref a] } } :=
      wpAny_pyIter_items_raw (d := a) ⟨_, Heap.get?_push_size _ rfl, rfl, rfl⟩ (hraw.at fun o e => Heap.get?_push_of_some _ e) (pi_one (tk := s1.toks) I2 _ (turn_itemsO _ d1 d2 d3 d4) ⟨.none, .none, Heap.get?_push_size _ rfl⟩ (q _ _ ⟨side, io_items e1 d5 d6⟩))
    exact method_meetsIn F.slot_dict_items F.entry_dict_items rfl (PySem.evalArgs_none ⟨rfl, hraw.typeIs, F.args_dict_items_1 _, _, meets_dict_items_raw a g1, ⟨es, ep, hraw⟩, fin⟩)
  unfold itemsOf at h1
  split at h1
  · rename_i kvs
    obtain ⟨a, rfl, hc, hn, hB⟩ := rx
    cases ru
    exact own rfl hc hn (.inl hB) fun as J hJ => h1.done b1 S1.heap as J hJ
  · rename_i i kvs
    obtain ⟨⟨k, e1⟩, e2⟩ := rx
    obtain ⟨v', e3, a, rfl, hc, hn⟩ := S1.slot.get i _ e1
    rw [e2] at e3
    cases e3
    cases ru
    exact own rfl hc hn (.inr ⟨i, _, k, rfl, e1, e2⟩) fun as J hJ => h1.done b1 S1.heap as J hJ
  · exact h1.elim
/-- enumerate(e) -/
theorem i_enum {e : Expr} {ee : Sl → M EV} {elts : List Expr} {kk : Nat} {tpos p pos : Pos} (hg : Gl X "enumerate") (hm : X.mg "enumerate" = none) (he : PE X e (rdE X W XR ee)) (ho : okE e = true) :
    PI X (.Tuple elts kk tpos) (.Call (.Name "enumerate" p) [e] [] pos) (rdI X W XR fun ρ => do let x ← ee ρ; enumOf x) := by
  refine ⟨fun pins s σ H R I ⟨B, ρ, st, m, S, b, h⟩ => ?_⟩
  refine Call_ (ld_blt I hg hm boot_enumerate (PyProof.Rows.callWith_type1 (thn ((pa_cons he pa_nil (star_ok ho [] X.env)).run pos pins s σ H (fun vs H1 => ∃ v, vs = [v] ∧ after X W XR B ρ σ _ _ v H1) I (rd_seq S b h fun x v m1 st1 H1 s1 S1 b1 rx h1 => ⟨v, rfl, x, m1, st1, S1, b1, rx.less b.le_out, h1⟩)) fun us s1 ⟨vs, H1, I1, r1, v, ev, x, m1, st1, S1, b1, rx, h1⟩ => ?_) (star_ok ho [] X.env) rfl))
  subst ev
  obtain ⟨u, rfl, ru⟩ := r1.one
  try dsimp only at h1
  have lst : ∀ {a : Addr} {ws : List V}, u = .ref a → SqL X.K H1 a ws → R (Ite X.K a) H1 → wpAny (model X.prog X.w) X.A (call (.type "enumerate") [u]) (fun v s1 => wpAny (model X.prog X.w) X.A (pyIter v) (PIE X pins σ (.Tuple elts kk tpos) R) X.xe s1) X.xe s1 := by
    intro a ws hu hq q
    subst hu
    obtain ⟨its, rv, p', hz⟩ := I1.list hq
    refine call_enumerate_list p'.isList fun h' he hit hsz hk => wpAny_pyIter_enum he ?_
    have I2 : Inv X pins σ H1 { s1 with heap := h' } := I1.kept (t' := s1.toks) hk
    refine ⟨s1.heap.objs.size + 1, [s1.heap.objs.size + 1, s1.heap.objs.size], _, _, H1, rfl, I2, turn_enum a (s1.heap.objs.size + 1) s1.heap.objs.size, ⟨⟨.none, he⟩, hit, Nat.succ_ne_self _⟩, fun b hb => ?_, q⟩
    have e' : b = s1.heap.objs.size + 1 ∨ b = s1.heap.objs.size := by simpa using hb
    have hle : s1.heap.objs.size ≤ b := by
      rcases e' with z | z
      · rw [z]; exact Nat.le_add_right _ _
      · rw [z]; exact Nat.le_refl _
    exact I1.fpOk hle (I1.hok.fresh hle)
  have tup : ∀ {a : Addr} {ws : List V}, u = .ref a → SqT X.K H1 a ws → R (IteT X.K a) H1 → wpAny (model X.prog X.w) X.A (call (.type "enumerate") [u]) (fun v s1 => wpAny (model X.prog X.w) X.A (pyIter v) (PIE X pins σ (.Tuple elts kk tpos) R) X.xe s1) X.xe s1 := by
    intro a ws hu hq q
    subst hu
    obtain ⟨its, rv, p', hz⟩ := I1.tuple hq
    refine call_enumerate_tup (show s1.heap.IsTuple a its.toArray from p') fun h' he hit hsz hk => wpAny_pyIter_enum he ?_
    have I2 : Inv X pins σ H1 { s1 with heap := h' } := I1.kept (t' := s1.toks) hk
    refine ⟨s1.heap.objs.size + 1, [s1.heap.objs.size + 1, s1.heap.objs.size], _, _, H1, rfl, I2, turn_enumT a (s1.heap.objs.size + 1) s1.heap.objs.size, ⟨⟨.none, he⟩, hit, Nat.succ_ne_self _⟩, fun b hb => ?_, q⟩
    have e' : b = s1.heap.objs.size + 1 ∨ b = s1.heap.objs.size := by simpa using hb
    have hle : s1.heap.objs.size ≤ b := by
      rcases e' with z | z
      · rw [z]; exact Nat.le_add_right _ _
      · rw [z]; exact Nat.le_refl _
    exact I1.fpOk hle (I1.hok.fresh hle)
  unfold enumOf at h1
  split at h1
  · obtain ⟨p, ws, rfl, h2, r1⟩ := rx
    exact tup ru h2 (h1.done b1 S1.heap [] _ ⟨fun a ha => (by simp at ha), io_enumT h2 r1⟩)
  · rename_i l
    split at h1
    · rename_i vs hc
      obtain ⟨hl, rfl⟩ := rx
      obtain ⟨ws, e, rr⟩ := S1.heap.cell l _ hc
      exact lst ru (.of e) (h1.done b1 S1.heap [] _ ⟨fun a ha => (by simp at ha), io_enum_loc hl⟩)
    · exact h1.elim
  · obtain ⟨a, rfl, ⟨ws, e, rr⟩, hn, hB⟩ := rx
    refine lst ru (.of e) (h1.done b1 S1.heap [a] _ ⟨fun c hc => ?_, io_enum_own e rr⟩)
    have e' : c = a := by simpa using hc
    subst e'
    exact ⟨⟨_, e, True.intro⟩, hn, .inl hB⟩
  · rename_i i vs
    obtain ⟨⟨k, e1⟩, e2⟩ := rx
    obtain ⟨v', e3, a, rfl, ⟨ws, e, rr⟩, hn⟩ := S1.slot.get i _ e1
    rw [e2] at e3
    cases e3
    refine lst ru (.of e) (h1.done b1 S1.heap [a] _ ⟨fun c hc => ?_, io_enum_own e rr⟩)
    have e' : c = a := by simpa using hc
    subst e'
    exact ⟨⟨_, e, True.intro⟩, hn, .inr ⟨i, _, k, rfl, e1, e2⟩⟩
  · exact h1.elim
/-- zip(a, b) of tuples -/
theorem i_zip {e e2 : Expr} {ea eb : Sl → M EV} {elts : List Expr} {kk : Nat} {tpos p pos : Pos} (hg : Gl X "zip") (hm : X.mg "zip" = none) (ha : PE X e (rdE X W XR ea)) (hb : PE X e2 (rdE X W XR eb)) (ho : okE e = true) (ho2 : okE e2 = true) :
    PI X (.Tuple elts kk tpos) (.Call (.Name "zip" p) [e, e2] [] pos) (rdI X W XR fun ρ => do let x ← ea ρ; let y ← eb ρ; zipOf x y) := by
  refine ⟨fun pins s σ H R I ⟨B, ρ, st, m, S, b, h⟩ => ?_⟩
  refine (RZ.pi_zipA hg hm (pa_cons ha (pa_cons hb pa_nil (star_ok ho2 [] X.env)) (star_ok ho [e2] X.env)) (star_ok ho [e2] X.env) ?_).run pins s σ H R I ?_
  · rw [star_ok ho2 [] X.env]; rfl
  · refine rd_seq S b h fun x v m1 st1 H1 s1 S1 b1 rx h1 => ?_
    refine rd_seq S1 b1 h1 fun y u m2 st2 H2 s2 S2 b2 ry h2 => ?_
    try dsimp only at h2
    unfold zipOf at h2
    split at h2
    · obtain ⟨a, ws, rfl, g1, r1⟩ := rx.step S1.heap s2
      obtain ⟨c, xs, rfl, g2, r2⟩ := ry
      exact ⟨a, c, ws, xs, rfl, .inr ⟨g1, g2, h2.done b2 S2.heap [] _ ⟨fun a ha => (by simp at ha), io_zip g1 r1 g2 r2⟩⟩⟩
    · exact h2.elim
/-- range(e) -/
theorem i_rng {e : Expr} {ee : Sl → M EV} {tg : Expr} {p pos : Pos} (hg : Gl X "range") (hm : X.mg "range" = none) (he : PE X e (rdE X W XR ee)) (ho : okE e = true) :
    PI X tg (.Call (.Name "range" p) [e] [] pos) (rdI X W XR fun ρ => do let x ← ee ρ; rngOf x) := by
  refine ⟨fun pins s σ H R I ⟨B, ρ, st, m, S, b, h⟩ => ?_⟩
  refine (pi_range1 hg hm (pa_cons he pa_nil (star_ok ho [] X.env)) (star_ok ho [] X.env)).run pins s σ H R I ?_
  refine rd_seq S b h fun x v m1 st1 H1 s1 S1 b1 rx h1 => ?_
  try dsimp only at h1
  unfold rngOf at h1
  split at h1
  · rename_i j
    cases rx
    split at h1
    · rename_i hj
      exact ⟨j, rfl, by omega, by omega, h1.done b1 S1.heap [] _ ⟨fun a ha => (by simp at ha), io_rng⟩⟩
    · exact h1.elim
  · exact h1.elim
end
end D


set_option Elab.async false
set_option linter.all false
set_option maxHeartbeats 1000000
/-! DN: targets; list comprehensions. -/
namespace D
open PySem PySem.Spec PyProof.Rows L2

/-! ### targets -/
mutual
def T.ids : T → List Nat
  | .nm i => [i]
  | .tup ts => idsL ts
def idsL : List T → List Nat
  | [] => []
  | t :: ts => T.ids t ++ idsL ts
end
mutual
def tG (K : PySem.W.Frag) : T → TG
  | .nm i => gName i
  | .tup ts => gTup K ts.length (tGs K ts)
def tGs (K : PySem.W.Frag) : List T → TGs
  | [] => gNil
  | t :: ts => gCons (tG K t) (tGs K ts)
end
section
variable {P : Program} {w : World} {K : PySem.W.Frag} {H : Hp} {m : Nat → Addr} {n : Nat}
theorem SlRel.setV {ρ : Sl} {σ : L2.St} (S : SlRel P w K H m n ρ σ) {i : Nat} {x : Val} {v : V} (r : VRel K H m n x v) : SlRel P w K H m n (ρ.set i (some (.v x))) (σ.set i (some v)) := by
  refine ⟨fun j y e => ?_, fun j k c d b u e1 e2 e3 e4 => ?_, by simp [S.len]⟩
  · by_cases hj : i = j
    · subst hj
      by_cases hl : i < ρ.length
      · rw [List.getElem?_set_self hl] at e
        cases e
        exact ⟨v, List.getElem?_set_self (by rw [← S.len]; exact hl), r⟩
      · rw [List.getElem?_eq_none (by simp; omega)] at e
        cases e
    · rw [List.getElem?_set_ne hj] at e ⊢
      exact S.get j y e
  · have hj : i ≠ j := fun z => by
      subst z
      by_cases hl : i < ρ.length
      · rw [List.getElem?_set_self hl] at e1; cases e1
      · rw [List.getElem?_eq_none (by simp; omega)] at e1; cases e1
    have hk : i ≠ k := fun z => by
      subst z
      by_cases hl : i < ρ.length
      · rw [List.getElem?_set_self hl] at e2; cases e2
      · rw [List.getElem?_eq_none (by simp; omega)] at e2; cases e2
    rw [List.getElem?_set_ne hj] at e1 e3
    rw [List.getElem?_set_ne hk] at e2 e4
    exact S.own j k c d b u e1 e2 e3 e4
mutual
theorem tG_ok : ∀ (t : T) (x : Val) (v : V) (ρ ρ2 : Sl) (σ : L2.St) (Q : L2.St → Hp → Prop), assignT t x ρ = some ρ2 → VRel K H m n x v → SlRel P w K H m n ρ σ →
    (∀ σ2, SlRel P w K H m n ρ2 σ2 → (∀ i, i ∉ t.ids → σ2[i]? = σ[i]? ∧ ρ2[i]? = ρ[i]?) → Q σ2 H) → tG K t v σ H Q
  | .nm i, x, v, ρ, ρ2, σ, Q, h, r, S, k => by
    simp only [assignT] at h
    split at h
    · cases h
      refine k _ (S.setV r) fun j hj => ?_
      have hj : i ≠ j := fun z => hj (by simp [T.ids, z])
      exact ⟨List.getElem?_set_ne hj, List.getElem?_set_ne hj⟩
    · cases h
  | .tup ts, .tup vs, v, ρ, ρ2, σ, Q, h, r, S, k => by
    obtain ⟨p, ws, rfl, hq, rs⟩ := r
    have h : assignTs ts vs ρ = some ρ2 := h
    refine ⟨p, ws, rfl, hq, ?_, tGs_ok ts vs ws ρ ρ2 σ Q h rs S fun σ2 S2 k2 => k σ2 S2 fun i hi => k2 i (by simpa [T.ids] using hi)⟩
    rw [← rs.length]
    exact (tGs_len ts vs ρ ρ2 h).symm
  | .tup ts, .non, v, ρ, ρ2, σ, Q, h, r, S, k | .tup ts, .bool _, v, ρ, ρ2, σ, Q, h, r, S, k | .tup ts, .int _, v, ρ, ρ2, σ, Q, h, r, S, k | .tup ts, .str _, v, ρ, ρ2, σ, Q, h, r, S, k | .tup ts, .loc _, v, ρ, ρ2, σ, Q, h, r, S, k | .tup ts, .cst _, v, ρ, ρ2, σ, Q, h, r, S, k => by
    simp [assignT] at h
theorem tGs_ok : ∀ (ts : List T) (xs : List Val) (vs : List V) (ρ ρ2 : Sl) (σ : L2.St) (Q : L2.St → Hp → Prop), assignTs ts xs ρ = some ρ2 → VRels K H m n xs vs → SlRel P w K H m n ρ σ →
    (∀ σ2, SlRel P w K H m n ρ2 σ2 → (∀ i, i ∉ idsL ts → σ2[i]? = σ[i]? ∧ ρ2[i]? = ρ[i]?) → Q σ2 H) → tGs K ts vs σ H Q
  | [], [], vs, ρ, ρ2, σ, Q, h, r, S, k => by
    cases r
    cases h
    exact ⟨rfl, k σ S fun _ _ => ⟨rfl, rfl⟩⟩
  | [], _ :: _, vs, ρ, ρ2, σ, Q, h, r, S, k => by simp [assignTs] at h
  | _ :: _, [], vs, ρ, ρ2, σ, Q, h, r, S, k => by simp [assignTs] at h
  | t :: ts, x :: xs, vs, ρ, ρ2, σ, Q, h, r, S, k => by
    obtain ⟨u, us, rfl, r1, r2⟩ := r
    simp only [assignTs, Option.bind_eq_some_iff] at h
    obtain ⟨ρ1, h1, h2⟩ := h
    refine ⟨u, us, rfl, tG_ok t x u ρ ρ1 σ _ h1 r1 S fun σ1 S1 k1 => ?_⟩
    refine tGs_ok ts xs us ρ1 ρ2 σ1 Q h2 r2 S1 fun σ2 S2 k2 => k σ2 S2 fun i hi => ?_
    simp only [idsL, List.mem_append, not_or] at hi
    obtain ⟨a1, a2⟩ := k2 i hi.2
    obtain ⟨b1, b2⟩ := k1 i hi.1
    exact ⟨a1.trans b1, a2.trans b2⟩
theorem tGs_len : ∀ (ts : List T) (xs : List Val) (ρ ρ2 : Sl), assignTs ts xs ρ = some ρ2 → ts.length = xs.length
  | [], [], _, _, _ => rfl
  | [], _ :: _, _, _, h => by simp [assignTs] at h
  | _ :: _, [], _, _, h => by simp [assignTs] at h
  | t :: ts, x :: xs, ρ, ρ2, h => by
    simp only [assignTs, Option.bind_eq_some_iff] at h
    obtain ⟨ρ1, h1, h2⟩ := h
    simp [tGs_len ts xs ρ1 ρ2 h2]
end

mutual
theorem assign_len : ∀ (t : T) (x : Val) (ρ ρ2 : Sl), assignT t x ρ = some ρ2 → ρ2.length = ρ.length
  | .nm i, x, ρ, ρ2, h => by
    simp only [assignT] at h
    split at h
    · cases h; simp
    · cases h
  | .tup ts, .tup vs, ρ, ρ2, h => assigns_len ts vs ρ ρ2 h
  | .tup ts, .non, ρ, ρ2, h | .tup ts, .bool _, ρ, ρ2, h | .tup ts, .int _, ρ, ρ2, h | .tup ts, .str _, ρ, ρ2, h | .tup ts, .loc _, ρ, ρ2, h | .tup ts, .cst _, ρ, ρ2, h => by simp [assignT] at h
theorem assigns_len : ∀ (ts : List T) (xs : List Val) (ρ ρ2 : Sl), assignTs ts xs ρ = some ρ2 → ρ2.length = ρ.length
  | [], [], _, _, h => by cases h; rfl
  | [], _ :: _, _, _, h => by simp [assignTs] at h
  | _ :: _, [], _, _, h => by simp [assignTs] at h
  | t :: ts, x :: xs, ρ, ρ2, h => by
    simp only [assignTs, Option.bind_eq_some_iff] at h
    obtain ⟨ρ1, h1, h2⟩ := h
    rw [assigns_len ts xs ρ1 ρ2 h2, assign_len t x ρ ρ1 h1]
end

/-! ### forgotten slots -/
theorem wipeS_len : ∀ (vs : List Nat) (ρ : Sl), (wipeS ρ vs).length = ρ.length
  | [], _ => rfl
  | v :: vs, ρ => by simp [wipeS, wipeS_len vs ρ]
theorem wipeS_some : ∀ {vs : List Nat} {ρ : Sl} {i : Nat} {x : SV}, (wipeS ρ vs)[i]? = some (some x) → ρ[i]? = some (some x) ∧ i ∉ vs
  | [], _, _, _, h => ⟨h, by simp⟩
  | v :: vs, ρ, i, x, h => by
    unfold wipeS at h
    by_cases hv : v = i
    · subst hv
      by_cases hl : v < (wipeS ρ vs).length
      · rw [List.getElem?_set_self hl] at h; cases h
      · rw [List.getElem?_eq_none (by simp; omega)] at h; cases h
    · rw [List.getElem?_set_ne hv] at h
      obtain ⟨h1, h2⟩ := wipeS_some h
      exact ⟨h1, by simp [h2, Ne.symm hv]⟩
theorem wipe_get : ∀ {vs : List Nat} {σ : L2.St} {i : Nat}, i ∉ vs → (wipe σ vs)[i]? = σ[i]?
  | [], _, _, _ => rfl
  | v :: vs, σ, i, h => by
    simp only [List.mem_cons, not_or] at h
    unfold wipe
    rw [List.getElem?_set_ne (Ne.symm h.1)]
    exact wipe_get h.2
theorem wipe_in : ∀ {vs : List Nat} {σ : L2.St} {i : Nat}, i ∈ vs → (wipe σ vs)[i]? = if i < σ.length then some none else none
  | v :: vs, σ, i, h => by
    unfold wipe
    by_cases hv : v = i
    · subst hv
      by_cases hl : v < σ.length
      · rw [List.getElem?_set_self (by rw [wipe_length]; exact hl), if_pos hl]
      · rw [List.getElem?_eq_none (by simp [wipe_length]; omega), if_neg hl]
    · rw [List.getElem?_set_ne hv]
      exact wipe_in ((List.mem_cons.mp h).resolve_left (Ne.symm hv))
theorem wipe_eq {vs : List Nat} {σ σ2 : L2.St} (hl : σ2.length = σ.length) (h : ∀ i, i ∉ vs → σ2[i]? = (wipe σ vs)[i]?) : wipe σ2 vs = wipe σ vs := by
  apply List.ext_getElem?
  intro i
  by_cases hi : i ∈ vs
  · rw [wipe_in hi, wipe_in hi, hl]
  · rw [wipe_get hi, h i hi]
theorem SlRel.wipe {ρ : Sl} {σ : L2.St} (S : SlRel P w K H m n ρ σ) (vs : List Nat) : SlRel P w K H m n (wipeS ρ vs) (L2.wipe σ vs) := by
  refine ⟨fun i x e => ?_, fun i j c d k v e1 e2 e3 e4 => ?_, by rw [wipeS_len, wipe_length]; exact S.len⟩
  · obtain ⟨e1, e2⟩ := wipeS_some e
    rw [wipe_get e2]
    exact S.get i x e1
  · obtain ⟨a1, a2⟩ := wipeS_some e1
    obtain ⟨b1, b2⟩ := wipeS_some e2
    rw [wipe_get a2] at e3
    rw [wipe_get b2] at e4
    exact S.own i j c d k v a1 b1 e3 e4
end

section
variable {X : Cx} {W : WX} {XR : XRel} {H H' B B' : Hp} {m m' : Nat → Addr} {st st' : Store} {ρ : Sl} {σ : L2.St} {n : Nat} {pos : Pos}
/-- exceptions of a block: none -/
def W0 : WX := fun _ _ _ _ => False
theorem PTs.imp {ifs : List Expr} {t t' : TT} (h : PTs X ifs t) (hi : ∀ σ H Q, t' σ H Q → t σ H Q) : PTs X ifs t' := ⟨fun pins s σ H Q I q => h.run pins s σ H Q I (hi σ H Q q)⟩
theorem pts_none {Γ : Calls} : PTs X [] (rdB X W XR (evalOc Γ .none)) := PTs.imp pts_nil fun σ H Q ⟨B, ρ, st, m, S, b, h⟩ => by
  simp only [evalOc] at h
  exact h.done b S.heap
theorem pts_some {ec : Sl → M EV} {c : Expr} (h : PT X c (rdB X W XR fun ρ => ec ρ >>= isB)) : PTs X [c] (rdB X W XR fun ρ => ec ρ >>= isB) := pts_one h
theorem tups_upd {p : Addr} {o o' : HO} (hp : H p = some o) (h1 : ∀ xs, ¬ Rd H p (.tup xs)) : TupsK H (upd H p o') := fun a xs r => by
  have hne : a ≠ p := fun e => h1 xs (e ▸ r)
  rcases r with r | ⟨u, r⟩
  · exact .inl (by rw [upd_ne hne]; exact r)
  · exact .inr ⟨u, by rw [upd_ne hne]; exact r⟩
/-- an object of nobody's is written -/
theorem HRel.other {P : Program} {w : World} {K : PySem.W.Frag} (h : HRel P w K H m st) {p : Addr} {o o' : HO} [ho : NoT o'] (hp : H p = some o) (h0 : NoTbl o) (h2 : ∀ oc u, o ≠ .frz oc u) (h1 : ∀ xs, ¬ Rd H p (.tup xs)) (hn : ∀ l, l < st.length → m l ≠ p) : HRel P w K (upd H p o') m st :=
  ⟨fun l c e => (h.cell l c e).stay (tups_upd hp h1) (fun _ _ => rfl) (Nat.le_refl _) fun u e2 => by rw [upd_ne (hn l (List.getElem?_eq_some_iff.mp e).1)]; exact e2, h.inj,
    tbl_upd h.tbl (fun ps e => by rw [hp] at e; cases e; exact h0) (fun oc u e => by rw [hp] at e; exact h2 oc u (Option.some.inj e)) ho.no⟩
theorem not_tup_lst {p : Addr} {ws : List V} (hp : H p = some (.lst ws)) : ∀ xs, ¬ Rd H p (.tup xs) := fun xs r => by
  rcases r with r | ⟨o, r⟩ <;> rw [hp] at r <;> cases r
/-- the state of a block's walk: all but the store stays, but for p -/
structure LSt (X : Cx) (H1 : Hp) (m1 : Nat → Addr) (n1 : Nat) (m' : Nat → Addr) (st' : Store) (H' : Hp) : Prop where
  rel : HRel X.prog X.w X.K H' m' st'
  nx : Nx (outB H1 m1 n1) m1 n1 m' st'.length H'
variable {H1 : Hp} {m1 : Nat → Addr} {st1 : Store}
theorem LSt.step (L : LSt X H1 m1 st1.length m' st' H') : Step m1 st1.length H1 m' st'.length H' := L.nx.step L.rel
theorem LSt.sim (L : LSt X H1 m1 st1.length m' st' H') (S : Sim X.prog X.w X.K H1 m1 ρ st1 σ) : Sim X.prog X.w X.K H' m' ρ st' σ := S.step L.step L.rel
theorem LSt.then (L : LSt X H1 m1 st1.length m' st' H') {m2 : Nat → Addr} {st2 : Store} {H2 : Hp} (x : Nx (outB H' m' st'.length) m' st'.length m2 st2.length H2) (hr : HRel X.prog X.w X.K H2 m2 st2) : LSt X H1 m1 st1.length m2 st2 H2 :=
  ⟨hr, L.nx.trans x fun a o e => (L.nx.bs (bs_out H1 m1 st1.length)).le_out a o e⟩
theorem LSt.new (L : LSt X H1 m1 st1.length m' st' H') {p : Addr} (hp : H' p = none) (o : HO) [NoT o] : LSt X H1 m1 st1.length m' st' (upd H' p o) :=
  L.then (nx_alloc (bs_out H' m' st'.length) hp o) (L.rel.alloc hp o)
/-- an object that came after the start is written -/
theorem LSt.put (L : LSt X H1 m1 st1.length m' st' H') {p : Addr} {o o' : HO} [NoT o'] (hp : H' p = some o) (h0 : NoTbl o) (h2 : ∀ oc u, o ≠ .frz oc u) (h1 : ∀ xs, ¬ Rd H' p (.tup xs)) (hn : ∀ l, l < st'.length → m' l ≠ p) (hB : outB H1 m1 st1.length p = none) : LSt X H1 m1 st1.length m' st' (upd H' p o') :=
  ⟨L.rel.other hp h0 h2 h1 hn, ⟨L.nx.le, L.nx.agree, fun a u e => by
    rw [upd_ne fun z => by rw [z, hB] at e; cases e]
    exact L.nx.keep a u e, L.nx.fresh⟩⟩
theorem Gd.ok_S {g : Gd} (h : g.ok ρ st = true) : g.okS st := by
  cases g with
  | loc l c => show st[l]? = some c; exact of_decide_eq_true (show decide (st[l]? = some c) = true from h)
  | _ => exact True.intro
/-- an item is given -/
theorem yield_ok {src : Src} {as : List Addr} {J : It} (S : Sim X.prog X.w X.K H1 m1 ρ st1 σ) (k : SrcOk X H1 m1 st1.length B' ρ σ src as J) (L : LSt X H1 m1 st1.length m' st' H') (g : src.gd.okS st') (i : Nat) :
    (∀ x, src.vals[i]? = some x → J.go i H' ∧ ∀ v H'', J.yld i H' v H'' → LSt X H1 m1 st1.length m' st' H'' ∧ (∀ a o, H' a = some o → H'' a = some o) ∧ VRel X.K H'' m' st'.length x v) ∧ (src.vals.length = i → J.stop i H') := by
  obtain ⟨k1, k2⟩ := k
  have h := k2 m' st' H' L.rel L.step.le L.step.agree (L.step.tups S.heap) (fun a ha => by
    obtain ⟨⟨o, e, ht⟩, hn, _⟩ := k1 a ha
    rw [e]
    exact L.step.keep a o e ht hn) g i
  refine ⟨fun x hx => ?_, h.2⟩
  obtain ⟨h1, h2⟩ := h.1 x hx
  refine ⟨h1, fun v H'' y => ?_⟩
  obtain ⟨h3, h4⟩ := h2 v H'' y
  rcases h3 with rfl | ⟨p, us, hp, rfl⟩
  · exact ⟨L, fun _ _ e => e, h4⟩
  · exact ⟨L.new hp _, fun a o e => by rw [upd_ne (ne_of_none e hp)]; exact e, h4⟩
theorem body_ok {β : Type} {t : T} {own : List Nat} {ec : Sl → M Bool} {kt : Sl → M β} {kf : M β} {x : Val} {v : V} {E : XK} {R : β → (Nat → Addr) → Store → Hp → Prop} {QT : L2.St → Hp → Prop} {QF : Hp → Prop}
    (hE : ∀ u dx H, ¬ E u dx H) (ht : ∀ i ∈ t.ids, i ∈ own) (S : Sim X.prog X.w X.K H m ρ st σ) (b : Bs B m st.length H) (r : VRel X.K H m st.length x v)
    (h : PostM X.prog X.w X.K XR E B m st.length R (bodyM t own ρ ec kt kf x st))
    (kT : ∀ ρ2 σ2 m2 st2 H2, Sim X.prog X.w X.K H2 m2 ρ2 st2 σ2 → Bs B m2 st2.length H2 → Nx (outB H m st.length) m st.length m2 st2.length H2 → PostM X.prog X.w X.K XR E B m2 st2.length R (kt ρ2 st2) → QT σ2 H2)
    (kF : ∀ m2 st2 H2, HRel X.prog X.w X.K H2 m2 st2 → Bs B m2 st2.length H2 → Nx (outB H m st.length) m st.length m2 st2.length H2 → PostM X.prog X.w X.K XR E B m2 st2.length R (kf st2) → QF H2) :
    tG X.K t v (wipe σ own) H fun σ2 H2 => wipe σ2 own = wipe σ own ∧ rdB X W0 XR ec σ2 H2 fun b H3 => if b = true then QT σ2 H3 else QF H3 := by
  unfold bodyM at h
  cases e : assignT t x (wipeS ρ own) with
  | none => rw [e] at h; exact h.elim
  | some ρ2 =>
    rw [e] at h
    have h : PostM X.prog X.w X.K XR E B m st.length R ((ec ρ2 >>= fun p => if p then kt ρ2 else kf) st) := h
    refine tG_ok t x v (wipeS ρ own) ρ2 (wipe σ own) _ e r (S.slot.wipe own) fun σ2 S2 k2 => ?_
    have hl : σ2.length = σ.length := by
      have h1 := S2.len
      have h2 := assign_len t x (wipeS ρ own) ρ2 e
      rw [wipeS_len] at h2
      have := S.slot.len
      omega
    refine ⟨wipe_eq hl fun i hi => (k2 i fun z => hi (ht i z)).1, outB H m st.length, ρ2, st, m, ⟨S.heap, S2⟩, bs_out _ _ _, ?_⟩
    have h' := (PostM.bind h).more b.le_out
    have go : PostM X.prog X.w X.K XR (WE W0 σ2) (outB H m st.length) m st.length (fun c m' st' H' => if c = true then QT σ2 H' else QF H') (ec ρ2 st) := by
      cases q : ec ρ2 st with
      | ok c st2 =>
        rw [q] at h'
        intro m2 H2 x2 hr2
        have h3 := h' m2 H2 x2 hr2
        have hs := x2.step hr2
        cases c with
        | true => exact kT ρ2 σ2 m2 st2 H2 ⟨hr2, S2.step S.heap hs⟩ (bs_more b x2) x2 h3
        | false => exact kF m2 st2 H2 hr2 (bs_more b x2) x2 h3
      | exc c pl st2 =>
        rw [q] at h'
        exact fun m2 H2 u dx x2 hr2 xr => absurd (h' m2 H2 u dx x2 hr2 xr) (hE _ _ _)
      | stuck => rw [q] at h'; exact h'
    exact go
/-! ### list comprehensions -/
theorem compL_cons {α β : Type} {g : Store → Bool} {f : Val → M (Option α)} {x : Val} {xs : List Val} {F : List α → M β} {E : XK} {R : β → (Nat → Addr) → Store → Hp → Prop} {P : Program} {w : World} {K : PySem.W.Frag}
    (h : PostM P w K XR E B m n R ((compL g f (x :: xs) >>= F) st)) :
    g st = true ∧ PostM P w K XR (fun _ _ _ => False) B m n (fun o m2 st2 _ => PostM P w K XR E B m2 st2.length R ((compL g f xs >>= fun r => F (o.toList ++ r)) st2)) (f x st) := by
  rw [M.bind_eq] at h
  unfold compL at h
  cases hg : g st with
  | false => simp only [hg] at h; exact h.elim
  | true =>
    refine ⟨rfl, ?_⟩
    simp only [hg, if_true] at h
    cases q : f x st with
    | ok o st1 =>
      simp only [q] at h
      intro m2 H2 x2 hr2
      rw [M.bind_eq]
      cases q2 : compL g f xs st1 with
      | ok r st2 => simp only [q2] at h; exact PostM.from x2 h
      | exc c pl st2 => simp only [q2] at h; exact h.elim
      | stuck => simp only [q2] at h; exact h.elim
    | exc c pl st1 => simp only [q] at h; exact h.elim
    | stuck => simp only [q] at h; exact h.elim
theorem compL_nil {α β : Type} {g : Store → Bool} {f : Val → M (Option α)} {F : List α → M β} {E : XK} {R : β → (Nat → Addr) → Store → Hp → Prop} {P : Program} {w : World} {K : PySem.W.Frag}
    (h : PostM P w K XR E B m n R ((compL g f [] >>= F) st)) : g st = true ∧ PostM P w K XR E B m n R (F [] st) := by
  rw [M.bind_eq] at h
  unfold compL at h
  cases hg : g st with
  | false => simp only [hg] at h; exact h.elim
  | true => simp only [hg, if_true] at h; exact ⟨rfl, h⟩
theorem finL_le {g : Store → Bool} {f : Val → M (Option Val)} {xs acc : List Val} {E : XK} {R : EV → (Nat → Addr) → Store → Hp → Prop} {P : Program} {w : World} {K : PySem.W.Frag}
    (h : PostM P w K XR E B m n R ((compL g f xs >>= fun r => finL (acc ++ r)) st)) : acc.length ≤ LIM := by
  rw [M.bind_eq] at h
  cases q : compL g f xs st with
  | ok r st2 =>
    rw [q] at h
    have h : PostM P w K XR E B m n R (finL (acc ++ r) st2) := h
    unfold finL at h
    split at h
    · rename_i hl
      rw [List.length_append] at hl
      omega
    · exact h.elim
  | exc c pl st2 =>
    exfalso
    revert q
    induction xs generalizing st with
    | nil => intro q; unfold compL at q; split at q <;> cases q
    | cons x xs ih =>
      intro q
      unfold compL at q
      split at q
      · split at q
        · split at q <;> cases q
        · cases q
        · cases q
      · cases q
  | stuck => rw [q] at h; exact h.elim
theorem lim_lt {n : Nat} (h : n + 1 ≤ LIM) : n < sizeLine := by
  unfold LIM at h
  rw [sizeLine_eq]
  omega
theorem rd_lc {ei : Sl → M Src} {ec : Sl → M Bool} {ee : Sl → M EV} {t : T} {own : List Nat} (hid : ∀ i ∈ t.ids, i ∈ own) : ∀ σ H Q, rdE X W XR (fun ρ => do
      let s ← ei ρ
      let vs ← compL (fun st => s.gd.ok ρ st) (bodyM t own ρ ec (fun ρ2 => mkV (ee ρ2)) (.pure none)) s.vals
      finL vs) σ H Q → tLc (rdI X W XR ei) (tG X.K t) (rdB X W0 XR ec) (rdE X W0 XR ee) own σ H Q := by
  intro σ H Q ⟨B, ρ, st, m, S, b, h⟩
  refine ⟨outB H m st.length, ρ, st, m, S, bs_out _ _ _, ?_⟩
  refine seq_gen S b h fun src m1 st1 H1 s1 S1 b1 h1 as J hJ D hD => ?_
  have hB : outB H1 m1 st1.length D = none := outB_none.mpr (.inl hD)
  have h1 := h1.more b1.le_out
  have bD : B D = none := by
    cases q : B D with
    | none => rfl
    | some o => have := b1.sub D o q; rw [hD] at this; cases this
  generalize hf : bodyM t own ρ ec (fun ρ2 => mkV (ee ρ2)) (.pure none) = f at h1
  generalize hgd : (fun st => src.gd.ok ρ st) = g at h1
  refine ⟨fun i k H' => k = src.vals.length - i ∧ i ≤ src.vals.length ∧ ∃ (acc : List Val) (ws : List V) (m' : Nat → Addr) (st' : Store), LSt X H1 m1 st1.length m' st' H' ∧ H' D = some (.lst ws) ∧ (∀ l, l < st'.length → m' l ≠ D) ∧ VRels X.K H' m' st'.length acc ws ∧
    PostM X.prog X.w X.K XR (WE W σ) (outB H1 m1 st1.length) m' st'.length (RQ X B ρ σ Q) ((compL g f (src.vals.drop i) >>= fun r => finL (acc ++ r)) st'), ⟨src.vals.length, by simp, Nat.zero_le _, [], [], m1, st1, ⟨S1.heap.alloc hD _, (nx_alloc (bs_out H1 m1 st1.length) hD _)⟩, upd_same, fun l hl e => ?_, rfl, by simpa using h1⟩, ?_⟩
  · obtain ⟨o, ho, _⟩ := S1.heap.domAll l hl
    rw [e, hD] at ho
    cases ho
  rintro i k H' ⟨rfl, hle, acc, ws, m', st', L, hDl, hDn, rv, hp⟩
  have S' := L.sim S1
  have b' : Bs (outB H1 m1 st1.length) m' st'.length H' := L.nx.bs (bs_out _ _ _)
  by_cases hlt : i < src.vals.length
  · obtain ⟨x, hx⟩ : ∃ x, src.vals[i]? = some x := ⟨_, List.getElem?_eq_getElem hlt⟩
    have hdrop : src.vals.drop i = x :: src.vals.drop (i + 1) := by
      rw [List.drop_eq_getElem_cons hlt]
      congr 1
      rw [List.getElem?_eq_getElem hlt] at hx
      cases hx
      rfl
    rw [hdrop] at hp
    obtain ⟨hgo, hp⟩ := compL_cons hp
    rw [← hgd] at hgo
    obtain ⟨y1, _⟩ := yield_ok S1 hJ L (Gd.ok_S hgo) i
    obtain ⟨go, y2⟩ := y1 x hx
    refine .inr ⟨go, fun H2 => ∃ (acc : List Val) (ws : List V) (m' : Nat → Addr) (st' : Store), LSt X H1 m1 st1.length m' st' H2 ∧ H2 D = some (.lst ws) ∧ (∀ l, l < st'.length → m' l ≠ D) ∧ VRels X.K H2 m' st'.length acc ws ∧
      PostM X.prog X.w X.K XR (WE W σ) (outB H1 m1 st1.length) m' st'.length (RQ X B ρ σ Q) ((compL g f (src.vals.drop (i + 1)) >>= fun r => finL (acc ++ r)) st'), fun H2 hN2 => ⟨src.vals.length - (i + 1), by omega, rfl, hlt, hN2⟩, fun v H'' y => ?_⟩
    obtain ⟨L2, kp, rx⟩ := y2 v H'' y
    have S2 := L2.sim S1
    have b2 : Bs (outB H1 m1 st1.length) m' st'.length H'' := L2.nx.bs (bs_out _ _ _)
    have t2 : TupsK H' H'' := fun a xs r => by
      rcases r with r | ⟨u, r⟩
      · exact .inl (kp _ _ r)
      · exact .inr ⟨u, kp _ _ r⟩
    have rv2 := rv.stay (n' := st'.length) (m' := m') t2 (fun _ _ => rfl) (Nat.le_refl _)
    have hfx : f x = bodyM t own ρ ec (fun ρ2 => mkV (ee ρ2)) (.pure none) x := by rw [← hf]
    rw [hfx] at hp
    refine body_ok (fun _ _ _ z => z) hid S2 b2 rx hp ?_ ?_
    · intro ρ2 σ2 m3 st3 H3 S3 b3 x3 h3
      have hD3 : H3 D = some (.lst ws) := x3.keep D _ (outB_some.mpr ⟨kp _ _ hDl, True.intro, hDn⟩)
      have L3 := L2.then x3 S3.heap
      have s3 := x3.step S3.heap
      have hDn3 : ∀ l, l < st3.length → m3 l ≠ D := s3.out (kp _ _ hDl) True.intro hDn
      have rv3 := rv2.stay (s3.tups S2.heap) s3.agree s3.le
      -- the item
      unfold mkV at h3
      refine rd_seq S3 b3 h3 fun z u m4 st4 H4 s4 S4 b4 rz h4 => ?_
      have hD4 : H4 D = some (.lst ws) := s4.keep D _ hD3 True.intro hDn3
      have hDn4 : ∀ l, l < st4.length → m4 l ≠ D := s4.out hD3 True.intro hDn3
      have L4 := L3.then s4.nx S4.heap
      have rv4 := rv3.stay (s4.tups S3.heap) s4.agree s4.le
      have hDz : ∀ a c, z = .t c → u = .ref a → a ≠ D := fun a c e1 e2 e3 => by
        subst e1
        obtain ⟨a', e, _, _, hB'⟩ := rz
        rw [e2] at e
        cases e
        have : outB H3 m3 st3.length D = some (.lst ws) := outB_some.mpr ⟨hD3, True.intro, hDn3⟩
        rw [e3, this] at hB'
        cases hB'
      obtain ⟨yv, st5, m5, S5, b5, ry, ag5, le5, kp5, h5⟩ := intern_ok S4 b4 rz b3.le_out (fun i c k a e1 e2 => own_out S3 e1 e2) h4
      have hDn5 : ∀ l, l < st5.length → m5 l ≠ D := (outB_some.mp (kp5 D _ (outB_some.mpr ⟨hD3, True.intro, hDn3⟩) (outB_some.mpr ⟨hD4, True.intro, hDn4⟩))).2.2
      have h6 := h5.done b5 S5.heap
      have L5 : LSt X H1 m1 st1.length m5 st5 H4 := ⟨S5.heap, ⟨Nat.le_trans L4.nx.le le5, fun l hl => (ag5 l (Nat.lt_of_lt_of_le hl L4.nx.le)).trans (L4.nx.agree l hl), L4.nx.keep, fun l _ hl => b5.out l hl⟩⟩
      have rv5 := rv4.stay (fun _ _ r => r) ag5 le5
      have e6 : (fun r => finL (acc ++ ((some yv).toList ++ r))) = fun r => finL ((acc ++ [yv]) ++ r) := by
        funext r
        simp
      rw [e6] at h6
      have hlen : ws.length < sizeLine := by
        have := finL_le h6
        rw [← rv.length]
        exact lim_lt (by simpa using this)
      refine ⟨ws, hD4, hlen, acc ++ [yv], ws ++ [u], m5, st5, L5.put hD4 True.intro (fun _ _ z => by cases z) (not_tup_lst hD4) hDn5 hB, upd_same, hDn5, ?_, h6⟩
      exact (rv5.append (VRels.one ry)).stay (tups_upd hD4 (not_tup_lst hD4)) (fun _ _ => rfl) (Nat.le_refl _)
    · intro m3 st3 H3 hr3 b3 x3 h3
      have hD3 : H3 D = some (.lst ws) := x3.keep D _ (outB_some.mpr ⟨kp _ _ hDl, True.intro, hDn⟩)
      have s3 := x3.step hr3
      have hDn3 : ∀ l, l < st3.length → m3 l ≠ D := s3.out (kp _ _ hDl) True.intro hDn
      have h6 := h3.done b3 hr3
      have e6 : (fun r => finL (acc ++ ((none : Option Val).toList ++ r))) = fun r => finL (acc ++ r) := by
        funext r
        simp
      rw [e6] at h6
      exact ⟨acc, ws, m3, st3, L2.then x3 hr3, hD3, hDn3, rv2.stay (s3.tups S2.heap) s3.agree s3.le, h6⟩
  · have hi' : i = src.vals.length := by omega
    have hdrop : src.vals.drop i = [] := List.drop_eq_nil_of_le (by omega)
    rw [hdrop] at hp
    obtain ⟨hgo, hp⟩ := compL_nil hp
    rw [← hgd] at hgo
    obtain ⟨_, y1⟩ := yield_ok S1 hJ L (Gd.ok_S hgo) i
    refine .inl ⟨y1 hi'.symm, ?_⟩
    rw [List.append_nil] at hp
    unfold finL at hp
    split at hp
    · exact hp.done b' L.rel _ ⟨D, rfl, ⟨ws, hDl, rv⟩, hDn, bD⟩
    · exact hp.elim
end
end D


set_option Elab.async false
set_option linter.all false
set_option maxHeartbeats 1000000
set_option maxRecDepth 100000
/-! DO: the context of a generator expression. -/
namespace D
open PySem PySem.Spec PyProof.Rows L2

/-- the generator expression's frame -/
def gEnv (scope : Scope) (cells : List (Str × Addr)) (C : Addr) (code : Value) (env : Env) : Env :=
  newEnv scope C env.globals cells (env.qual ++ "<genexpr>.") none code none builtinsNs
/-- the context of its code -/
abbrev gCx (X : Cx) (s : Shared) (H : Hp) (scope : Scope) (cenv : Env) (fp : List Addr) : Cx :=
  { X with s_0 := s, H_0 := H, env := cenv, outer := X.stack, stack := cenv :: X.stack, ex := fp, fn := fun x => scope.names.lookup x == some .cell, pn := [], xe := fun _ _ => False, A := X.A.in1.in1.deeper cenv }
section
variable {M : Model} {A : Around} {E : Value → Shared → Prop} {s : Shared}
/-- its frame is laid -/
theorem newEnv_gen {scope : Scope} {globals : Addr} {closure : List (Str × Addr)} {it : Value} {qual : Str} {code : Value} {bi : Addr} {Q : Env → Shared → Prop} (hk : scope.kind = .function) (h0 : scope.names.lookup (".0" : Str) = some .local)
    (h : ∀ h' m tk, h'.Ns s.heap.objs.size m → (∀ b o, b ≠ s.heap.objs.size → (pushCells (s.heap.push { cls := .type "frame", data := .dict #[] }) scope.names).get? b = some o → h'.get? b = some o) →
      Q (newEnv scope s.heap.objs.size globals (cellsFrom (s.heap.objs.size + 1) scope.names closure) qual none code none bi) { s with heap := h', toks := tk }) :
    wpAny M A (newFunctionEnv scope globals closure [(".0", it)] qual none code none bi) Q E s := by
  simp only [newFunctionEnv, Option.isSome_none, Bool.false_eq_true, if_false]
  refine wpAny_bind (wpAny_alloc ?_)
  refine wpAny_bind (wpAny_layCells _ (fun n k c => by cases hkc : k == NameKind.cell <;> simp [hkc]) scope.names closure _ _ ?_)
  rw [show ({ s with heap := s.heap.push { cls := .type "frame", data := .dict #[] } } : Shared).heap.objs.size = s.heap.objs.size + 1 from Heap.size_push ..]
  refine wpAny_bind ?_
  rw [List.forIn_cons]
  refine wpAny_bind (wpAny_bind (wpAny_storeName_local (env := newEnv scope s.heap.objs.size globals (cellsFrom (s.heap.objs.size + 1) scope.names closure) qual none code none bi) (m := fun _ => none) (show scope.names.lookup (".0" : Str) = some .local from h0)
    ((Heap.Ns.new s.heap (.type "frame")).keeps (pushCells_keeps _ _)) (fun h2 hn hs => ?_) ?_))
  · refine wpAny_pure ?_
    simp only [List.forIn_nil]
    refine wpAny_pure (wpAny_pure ?_)
    exact h h2 _ _ hn fun b o hb e => hs.extBut b o hb e
  · show (scope.kind == .class || (scope.kind == .module && _)) = false
    rw [hk]
    rfl
end
section
variable {X : Cx} {pins : List (Addr × Obj)} {σ : L2.St} {H : Hp} {s : Shared}
theorem gen_start {scope : Scope} {own : List (Str × Nat)} {fp : List Addr} {code : Value} {h1 : Heap} {m1 : Str → Option Value} {tk : Nat} (I : Inv X pins σ H s) (ok : BlkOk X.N X.env.scope scope own) (hN : X.N.Nodup) (hd : X.A.handled = none) (hfp : ∀ b ∈ fp, FpOk X pins H b ∧ b < s.heap.objs.size)
    (hn : h1.Ns s.heap.objs.size m1) (hk1 : ∀ b o, b ≠ s.heap.objs.size → (pushCells (s.heap.push { cls := .type "frame", data := .dict #[] }) scope.names).get? b = some o → h1.get? b = some o) :
    Inv (gCx X s H scope (gEnv scope (cellsFrom (s.heap.objs.size + 1) scope.names (cloFrom X.env.cells scope.names [])) s.heap.objs.size code X.env) fp) [] (L2.wipe σ (own.map (·.2))) H { s with heap := h1, toks := tk } := by
  have hfree : ∀ y ∈ scope.names, y.2 = .free → ∃ c, X.env.cells.lookup y.1 = some c := fun y hy e => by
    rcases ok.free y hy e with k | k
    · exact I.ok.has _ (.inl k)
    · exact I.ok.has _ (.inr k)
  have e0 := I.env0
  generalize hcenv : gEnv scope (cellsFrom (s.heap.objs.size + 1) scope.names (cloFrom X.env.cells scope.names [])) s.heap.objs.size code X.env = cenv
  have kp : ∀ b o, s.heap.get? b = some o → h1.get? b = some o := fun b o e => hk1 b o (Nat.ne_of_lt (Heap.lt_size e)) (pushCells_keeps _ _ _ _ (Heap.get?_push_of_some _ e))
  have hL : cenv.locals = s.heap.objs.size := by rw [← hcenv]; rfl
  have hcl : cenv.cells = cellsFrom (s.heap.objs.size + 1) scope.names (cloFrom X.env.cells scope.names []) := by rw [← hcenv]; rfl
  have hsc : cenv.scope = scope := by rw [← hcenv]; rfl
  rw [← Heap.size_push s.heap { cls := .type "frame", data := .dict #[] }] at hcl
  have cm : ∀ {y c}, (y, c) ∈ cloFrom X.env.cells scope.names [] → X.env.cells.lookup y = some c ∧ c < s.heap.objs.size := fun {y c} hm => by
    rcases cloFrom_mem hm with hm | ⟨h1, rfl⟩
    · cases hm
    · obtain ⟨c, hc⟩ := hfree _ h1 rfl
      rw [hc]
      obtain ⟨w, z⟩ := I.cell _ _ hc
      exact ⟨rfl, z.lt⟩
  have mem : ∀ {y c}, cenv.cells.lookup y = some c → (X.env.cells.lookup y = some c ∧ c < s.heap.objs.size) ∨ (s.heap.objs.size + 1 ≤ c ∧ CellAt h1 c none) := fun {y c} e => by
    rw [hcl] at e
    rcases cells_mem (PySem.mem_of_lookup e) with hm | ⟨_, h2, o, h3, h4⟩
    · exact .inl (cm hm)
    · rw [Heap.size_push] at h2
      exact .inr ⟨h2, o, hk1 c o (Nat.ne_of_gt h2) h3, h4⟩
  have look : ∀ {y}, scope.names.lookup y = some .free → ∃ c, cenv.cells.lookup y = some c ∧ X.env.cells.lookup y = some c := fun {y} hl => by
    have hy : (y, NameKind.free) ∈ scope.names := PySem.mem_of_lookup hl
    obtain ⟨c', e'⟩ := mem_lookup (cells_acc (names := scope.names) (n := (s.heap.push { cls := .type "frame", data := .dict #[] }).objs.size) (cloFrom_has (cells := X.env.cells) (acc := []) hy))
    rw [← hcl] at e'
    refine ⟨c', e', ?_⟩
    rw [hcl] at e'
    rcases cells_mem (PySem.mem_of_lookup e') with hm | ⟨h1, _, _⟩
    · exact (cm hm).1
    · have := ok.uniq _ h1
      rw [hl] at this; cases this
  have okB : (gCx X s H scope cenv fp).Ok := by
    refine ⟨e0.mod, by show cenv.scope.kind = _; rw [hsc]; exact ok.kind, by show cenv.globals = _; rw [← hcenv]; exact I.ok.glob, by show cenv.builtins = _; rw [← hcenv]; rfl, by show s.heap.objs.size ≤ cenv.locals; rw [hL]; exact Nat.le_refl _,
      fun y z c e1 e2 => ?_, fun y hy => ?_, fun y c z e => ?_, fun _ => hd, Around.frames_deeper (A := X.A.in1.in1) e0.frames, .inr ⟨rfl, by show cenv.frame = some cenv.locals; rw [← hcenv]; rfl⟩, fun b hb => ⟨?_, fun y c e z => ?_⟩, e0.bs, e0.bsz, fun b o e hb => ?_, fun b hb z => ?_, e0.funs, e0.frf⟩
    · have e1 : cenv.cells.lookup y = some c := e1
      have e2 : cenv.cells.lookup z = some c := e2
      rw [hcl] at e1 e2
      refine cells_inj (fun p hp => ?_) (fun y z c a b => I.ok.inj y z c (cm a).1 (cm b).1) (PySem.mem_of_lookup e1) (PySem.mem_of_lookup e2)
      rw [Heap.size_push]
      exact Nat.lt_succ_of_lt (cm (y := p.1) (c := p.2) hp).2
    · show ∃ c, cenv.cells.lookup y = some c
      have key : ∀ k, cenv.kindOf y = some k → (k = .cell ∨ k = .free) → ∃ c, cenv.cells.lookup y = some c := fun k hk hk' => by
        have e : scope.names.lookup y = some k := by rw [← hsc]; exact hk
        rcases hk' with rfl | rfl
        · obtain ⟨c, hm⟩ := cells_has (n := (s.heap.push { cls := .type "frame", data := .dict #[] }).objs.size) (acc := cloFrom X.env.cells scope.names []) (PySem.mem_of_lookup e)
          obtain ⟨c', e'⟩ := mem_lookup hm
          exact ⟨c', by rw [hcl]; exact e'⟩
        · obtain ⟨c, h1, _⟩ := look e
          exact ⟨c, h1⟩
      rcases hy with hy | hy
      · exact key _ hy (.inl rfl)
      · exact key _ hy (.inr rfl)
    · have z : (scope.names.lookup y == some NameKind.cell) = true := z
      have z : scope.names.lookup y = some .cell := by simpa using z
      have e : cenv.cells.lookup y = some c := e
      rw [hcl] at e
      rcases cells_mem (PySem.mem_of_lookup e) with hm | ⟨_, h2, _⟩
      · rcases cloFrom_mem hm with hm | ⟨h1, _⟩
        · cases hm
        · have q := ok.uniq _ h1
          rw [z] at q; cases q
      · rw [Heap.size_push] at h2
        exact Nat.le_of_succ_le h2
    · show b ≠ cenv.locals
      rw [hL]; exact Nat.ne_of_lt (hfp b hb).2
    · have e : cenv.cells.lookup y = some c := e
      rcases mem e with ⟨h1, _⟩ | ⟨h1, _⟩
      · exact (hfp b hb).1.2.2.2.2.1 y c h1 z
      · have h2 : s.heap.objs.size + 1 ≤ b := by rw [← z]; exact h1
        exact absurd (Nat.lt_of_lt_of_le (hfp b hb).2 (Nat.le_of_succ_le h2)) (Nat.lt_irrefl _)
    · rcases (hfp b hb).1.2.2.2.1 with z | z
      · exact I.ok.noex b o e z
      · exact absurd (Nat.lt_of_lt_of_le (Heap.lt_size e) (Nat.le_trans I.ok.bsz z)) (Nat.lt_irrefl _)
    · rcases List.mem_cons.mp (I.stkSub b z) with z | z
      · exact (hfp b hb).1.2.1 z
      · exact (hfp b hb).1.2.2.1 z
  refine ⟨okB, rfl, I.bare, Un.kept kp, ⟨m1, ?_, fun i y av e1 e2 e3 => ?_⟩, fun y c e => ?_, ?_, fun y c e => ?_, fun p hp => ?_, I.hok.kept kp, by rw [wipe_length]; exact I.len⟩
  · show Heap.Ns _ cenv.locals _
    rw [hL]
    exact hn
  · obtain ⟨e2, hne⟩ := wipe_some e2
    have hfr : scope.names.lookup y = some .free ∧ cenv.kindOf y = some .free := by
      have no : ∀ {k}, scope.names.lookup y = some k → ¬ (k = .local ∨ k = .cell) := fun {k} e hh => by
        rcases ok.own _ (PySem.mem_of_lookup e) hh with e' | e'
        · obtain ⟨p, hp, hpy⟩ := List.mem_map.mp e'
          have e3 := ok.ix p hp
          have : p.1 = y := hpy
          rw [this] at e3
          exact hne (List.mem_map.mpr ⟨p, hp, nodup_ix hN e3 e1⟩)
        · exact e' (List.mem_of_getElem? e1)
      have e3 : Vis cenv.scope y := e3
      rw [hsc] at e3
      rcases e3 with e3 | e3 | e3
      · exact absurd (.inl rfl) (no e3)
      · exact absurd (.inr rfl) (no e3)
      · refine ⟨e3, ?_⟩
        show cenv.scope.names.lookup y = some .free
        rw [hsc]
        exact e3
    obtain ⟨m, hn, hl⟩ := I.loc
    have hvis : Vis X.env.scope y := (ok.free _ (PySem.mem_of_lookup hfr.1) rfl).elim (fun k => .inr (.inl k)) (fun k => .inr (.inr k))
    obtain ⟨w, r, q⟩ := hl i y av e1 e2 hvis
    refine ⟨w, r, .inr ⟨.inr hfr.2, ?_⟩⟩
    obtain ⟨c, h1, h2⟩ := look hfr.1
    rcases q with ⟨k, _⟩ | ⟨_, c', e', z⟩
    · have k : X.env.scope.names.lookup y = some .local := k
      rcases ok.free _ (PySem.mem_of_lookup hfr.1) rfl with k' | k' <;> rw [show X.env.scope.names.lookup y = _ from k'] at k <;> cases k
    · rw [h2] at e'; cases e'
      exact ⟨c, h1, z.keeps kp⟩
  · have e : cenv.cells.lookup y = some c := e
    rcases mem e with ⟨h1, _⟩ | ⟨_, z⟩
    · obtain ⟨w, z⟩ := I.cell y c h1
      exact ⟨w, z.keeps kp⟩
    · exact ⟨_, z⟩
  · show H cenv.locals = none
    rw [hL]; exact I.hok.fresh (Nat.le_refl _)
  · have e : cenv.cells.lookup y = some c := e
    rcases mem e with ⟨h1, _⟩ | ⟨h1, _⟩
    · exact I.freeC y c h1
    · exact I.hok.fresh (Nat.le_of_succ_le h1)
  · exact absurd (show p ∈ ([] : List (Addr × Obj)) ++ [] from hp) (by simp)
end
end D


set_option Elab.async false
set_option linter.all false
set_option maxHeartbeats 2000000
set_option maxRecDepth 100000
/-! DP: a generator expression's code; all, any. -/
namespace D
open PySem PySem.Spec PyProof.Rows L2
open Sem (wp)

theorem over_gen {A : Around} {elt tg iter : Expr} {ifs : List Expr} {scope : Scope} {pos : Pos} {it : Value} {env : Env} : A.over (.compLoop (.GeneratorExp elt [⟨tg, iter, ifs, 0⟩] scope pos) 0 it .none env) [] = A.deeper env := GenW.over_func (body := []) (env := env)
theorem over_gen0 {A : Around} {elt tg iter : Expr} {ifs : List Expr} {scope : Scope} {pos : Pos} {it : Value} {env : Env} : A.over (.compStart (.GeneratorExp elt [⟨tg, iter, ifs, 0⟩] scope pos) 0 it .none env) [] = A.deeper env := GenW.over_func (body := []) (env := env)
/-- the heap as it was, the generators' table aside -/
structure Woke (s s' : Shared) : Prop where
  heap : s'.heap = s.heap
  os : s'.os = s.os
  bare : AllBare s'.gens
theorem inv_woke {X : Cx} {pins : List (Addr × Obj)} {σ : L2.St} {H : Hp} {s s' : Shared} (I : Inv X pins σ H s) (w : Woke s s') : Inv X pins σ H s' := by
  obtain ⟨h1, h2, h3⟩ := w
  refine ⟨I.ok, h2.trans I.os, h3, by rw [h1]; exact I.base, by rw [h1]; exact I.loc, by rw [h1]; exact I.cell, I.free, I.freeC, fun p hp => by rw [h1]; exact I.pin p hp, by rw [h1]; exact I.hok, I.len⟩
/-- the walk till the first b -/
def SkW (J : It) (g : TG) (tt : TT) (te : TE) (vs : List Nat) (b : Bool) (σ : L2.St) (Q : VK) (W : Nat → Nat → Hp → Prop) : Prop := ∀ i m H, W i m H →
  (J.stop i H ∧ Q (.bl (!b)) H) ∨ (J.go i H ∧ ∃ Nx : Hp → Prop, (∀ H', Nx H' → ∃ m', m' < m ∧ W (i + 1) m' H') ∧ ∀ x H', J.yld i H x H' → g x (L2.wipe σ vs) H' fun σ2 H2 => L2.wipe σ2 vs = L2.wipe σ vs ∧ tt σ2 H2 fun c H3 =>
    if c = true then te σ2 H3 fun y H4 => ∃ c', y = .bl c' ∧ (if c' = b then Q (.bl b) H4 else Nx H4) else Nx H3)
section
variable {G : Cx} {pin : List (Addr × Obj)} {σ : L2.St} {A : Around} {elt tg iter : Expr} {ifs : List Expr} {scope : Scope} {gpos : Pos} {J : It} {fp : List Addr} {it : Addr} {tn : Nat → Heap → Prop} {g : TG} {tt : TT} {te : TE} {vs : List Nat} {b : Bool} {Q : VK} {W : Nat → Nat → Hp → Prop}
def gR (G : Cx) (pin : List (Addr × Obj)) (σw : L2.St) (b : Bool) (Q : VK) : Nat → Shared → Shared → Prop := fun _ _ s1 => ∃ H', Inv G pin σw H' s1 ∧ Q (.bl (!b)) H'
def gY (G : Cx) (pin : List (Addr × Obj)) (b : Bool) (Q : VK) : Protocol := fun _ _ v s kap => ∃ c', v = .bool c' ∧ ∃ σ2 H', Inv G pin σ2 H' s ∧ (if c' = b then Q (.bl b) H' else ∀ s'', Woke s s'' → kap (.send .none) s'')
theorem seg_sk (hc : G.calm = true) (hco : G.env.scope.isCoroutine = false) (hA : A.deeper G.env = G.A) (hxe : G.xe = fun _ _ => False) (T : Turn G.prog G.w G.K tg J fp it tn) (pg : PG G tg g) (pt : PTs G ifs tt) (pe : PE G elt te) (hf : ∀ (σ' : L2.St) (H' : Hp) (s' : Shared), Inv G pin σ' H' s' → (∀ c ∈ fp, H' c = none) → ∀ c ∈ fp, FpOk G pin H' c)
    (turn : SkW J g tt te vs b σ Q W) : ∀ (m n i : Nat) (H : Hp) (s s₀ : Shared), m < n → W i m H → Inv G pin (L2.wipe σ vs) H s → tn i s.heap → (∀ c ∈ fp, H c = none) →
    Seg (model G.prog G.w) A (fun n s₀ r s₁ => r = .ok .next ∧ gR G pin (L2.wipe σ vs) b Q n s₀ s₁) (gY G pin b Q) n s₀ (.compLoop (.GeneratorExp elt [⟨tg, iter, ifs, 0⟩] scope gpos) 0 (.ref it) .none G.env)
      ((model G.prog G.w).den (.compLoop (.GeneratorExp elt [⟨tg, iter, ifs, 0⟩] scope gpos) 0 (.ref it) .none G.env)) [] s := by
  have thnX : ∀ {α : Type} {t : Sem α} {Q Q' : α → Shared → Prop} {E : Value → Shared → Prop} {s : Shared}, wpAny (model G.prog G.w) G.A t Q G.xe s → (∀ a s, Q a s → Q' a s) → wpAny (model G.prog G.w) G.A t Q' E s := fun h hQ => wpAny_mono h hQ fun _ _ z => by rw [hxe] at z; exact z.elim
  intro m
  induction m using Nat.strongRecOn with
  | ind m ih =>
    intro n i H s s₀ hmn w I st fr
    show Seg _ A _ _ _ s₀ _ ((compTurn (.GeneratorExp elt [⟨tg, iter, ifs, 0⟩] scope gpos) 0 (.ref it) .none G.env).onRaise (leaving G.env)) [] s
    rw [compTurn_gen, Sem.onRaise_eq_wrap]
    refine seg_bind_wrap (wpAny_standAt ?_)
    rcases turn i m H w with ⟨stop, q⟩ | ⟨go, Nx, hNx, step⟩
    · refine seg_bind_wrap ?_
      rw [over_gen, hA]
      refine thnF (T.done G rfl rfl rfl hc i pin s (L2.wipe σ vs) H (fun _ _ => False) I (hf _ _ _ I fr) st stop) fun r s1 ⟨hr, I1⟩ => ?_
      subst hr
      exact seg_end (.ok .next) ⟨rfl, H, I1, q⟩
    · refine seg_bind_wrap ?_
      rw [over_gen, hA]
      refine thnF (T.item G rfl rfl rfl hc i pin s (L2.wipe σ vs) H (fun _ _ => False) I (hf _ _ _ I fr) st go) fun r s1 ⟨u, hr, h1⟩ => ?_
      subst hr
      refine seg_bind_wrap ?_
      rw [over_gen, hA]
      refine thnF h1 fun _ s2 ⟨x, H2, I2, r2, y2, st2, fr2⟩ => ?_
      have I2' := I2.pinned (hf _ _ _ I2 fr2) (T.obj _ _ st2)
      refine seg_bind_wrap ?_
      rw [over_gen, hA]
      refine thnX (pg.run _ s2 _ H2 x u _ I2' r2 (step x H2 y2)) fun _ s3 ⟨σ3, H3, I3, hw3, q3⟩ => ?_
      refine seg_bind_wrap ?_
      rw [over_gen, hA]
      refine thnX (pt.run _ s3 σ3 H3 _ I3 q3) fun c s4 ⟨H4, I4, q4⟩ => ?_
      have fin : ∀ {s' : Shared} {H' : Hp}, Inv G (pin ++ pinsAt fp s2.heap) σ3 H' s' → tn (i + 1) s'.heap ∧ (∀ c ∈ fp, H' c = none) ∧ Inv G pin (L2.wipe σ vs) H' s' := fun {s' H'} I' => by
        have pin' : ∀ c ∈ fp, ∀ o, s2.heap.get? c = some o → s'.heap.get? c = some o ∧ H' c = none := fun c hb o e =>
          let z := I'.pin (c, o) (List.mem_append_right _ (List.mem_append_right _ (mem_pinsAt hb e)))
          ⟨z.1, z.2.1⟩
        have hl : (L2.wipe σ vs).length = σ3.length := by rw [← hw3, wipe_length]
        refine ⟨T.keep _ _ _ st2 fun c hb o e => (pin' c hb o e).1, fun c hb => ?_, I'.unpinned.weak hl fun j v e => ?_⟩
        · obtain ⟨o, e, _⟩ := T.obj _ _ st2 c hb
          exact (pin' c hb o e).2
        · rw [← hw3] at e
          exact (wipe_some e).1
      cases c with
      | false =>
        simp only [Bool.false_eq_true, if_false] at q4 ⊢
        obtain ⟨m', hm, w'⟩ := hNx H4 q4
        obtain ⟨f1, f2, f3⟩ := fin I4
        exact seg_again rfl (ih m' hm n (i + 1) H4 s4 s₀ (by omega) w' f3 f1 f2)
      | true =>
        simp only [if_true] at q4 ⊢
        have hy : ∀ v, yieldOut G.env v = yieldValue v := fun v => by simp only [yieldOut, hco, Bool.false_eq_true, if_false]
        simp only [hy]
        rw [Sem.bind_eq_wrap', Sem.bind_eq_wrap', Sem.wrap_wrap, Sem.wrap_wrap]
        refine seg_wrap ?_
        rw [over_gen, hA]
        refine thnX (pe.run _ s4 σ3 H4 _ I4 q4) fun v s5 ⟨y, H5, I5, r5, c', ey, q5⟩ => ?_
        subst ey
        have r5 : v = Value.bool c' := r5
        subst r5
        obtain ⟨k, rfl⟩ : ∃ k, n = k + 1 := ⟨n - 1, by omega⟩
        refine seg_at (seg_yield rfl rfl rfl ⟨c', rfl, σ3, H5, I5.unpinned, ?_⟩)
        by_cases hb : c' = b
        · rw [if_pos hb] at q5 ⊢
          exact q5
        · rw [if_neg hb] at q5 ⊢
          intro s'' hwk
          obtain ⟨m', hm, w'⟩ := hNx H5 q5
          obtain ⟨f1, f2, f3⟩ := fin I5
          exact seg_again rfl (ih m' hm k (i + 1) H5 s'' s'' (by omega) w' (inv_woke f3 hwk) (by rw [hwk.heap]; exact f1) f2)
theorem seg_skStart (hc : G.calm = true) (hco : G.env.scope.isCoroutine = false) (hA : A.deeper G.env = G.A) (hxe : G.xe = fun _ _ => False) (T : Turn G.prog G.w G.K tg J fp it tn) (pg : PG G tg g) (pt : PTs G ifs tt) (pe : PE G elt te) (hf : ∀ (σ' : L2.St) (H' : Hp) (s' : Shared), Inv G pin σ' H' s' → (∀ c ∈ fp, H' c = none) → ∀ c ∈ fp, FpOk G pin H' c)
    (turn : SkW J g tt te vs b σ Q W) (m n : Nat) (H : Hp) (s s₀ : Shared) (hmn : m < n) (w : W 0 m H) (I : Inv G pin (L2.wipe σ vs) H s) (st : tn 0 s.heap) (fr : ∀ c ∈ fp, H c = none) :
    Seg (model G.prog G.w) A (fun n s₀ r s₁ => r = .ok .next ∧ gR G pin (L2.wipe σ vs) b Q n s₀ s₁) (gY G pin b Q) n s₀ (.compStart (.GeneratorExp elt [⟨tg, iter, ifs, 0⟩] scope gpos) 0 (.ref it) .none G.env)
      ((model G.prog G.w).den (.compStart (.GeneratorExp elt [⟨tg, iter, ifs, 0⟩] scope gpos) 0 (.ref it) .none G.env)) [] s := by
  have loop := seg_sk (iter := iter) (scope := scope) (gpos := gpos) hc hco hA hxe T pg pt pe hf turn m n 0 H s s₀ hmn w I st fr
  show Seg _ A _ _ _ s₀ _ ((compStart (.GeneratorExp elt [⟨tg, iter, ifs, 0⟩] scope gpos) 0 (.ref it) .none G.env).onRaise (leaving G.env)) [] s
  unfold compStart
  rw [Sem.onRaise_eq_wrap]
  show Seg _ A _ _ _ s₀ _ ((ask >>= _).wrap _ _ _ _) [] s
  refine seg_bind_wrap (wpAny_askSetting ?_)
  split
  · exact seg_again rfl loop
  · refine seg_bind_wrap (wpAny_rule ?_)
    show Seg _ A _ _ _ s₀ _ ((standAt iter.pos >>= _).wrap _ _ _ _) [] s
    exact seg_bind_wrap (wpAny_standAt (seg_bind_wrap (T.self _ 0 s _ _ st (seg_again rfl loop))))
end
/-! ### what walks it -/
section
variable {M : Model} {prog : Program} {w : World} {A : Around} {R : Result → Shared → Prop} {it : Value}
theorem all_loop (I : Nat → Shared → Prop) (turn : ∀ n s, I n s → wpAny (model prog w) A.in1 (pyNext it) (fun r s1 => match r with
      | none => R (.ok (.ret (.bool true))) s1
      | some v => ∃ c, v = .bool c ∧ (if c = false then R (.ok (.ret (.bool false))) s1 else ∃ m, m < n ∧ I m s1)) (fun e s' => R (.error e) s') s) : ∀ (n : Nat) (s : Shared), I n s → codeAny (model prog w) A (.builtin "all.loop" ⟨[it], []⟩) R s := by
  intro n
  induction n using Nat.strongRecOn with
  | ind n ih =>
    intro s hI
    refine codeAny_builtin F.entry_all_loop ?_
    rw [Around.under_plainId F.plain_all_loop _]
    show wpAny _ A.in1 (pyNext it >>= _) _ _ s
    refine wpAny_bind (wpAny_mono (turn n s hI) (fun r s1 h1 => ?_) fun _ _ e => e)
    cases r with
    | none => exact wpAny_bind (wpAny_rule (wpAny_pure h1))
    | some v =>
      obtain ⟨c, rfl, h1⟩ := h1
      refine wpAny_bind (wpAny_holding (wpAny_truthy_bool ?_))
      refine wpAny_bind (wpAny_letGo ?_)
      cases c with
      | true =>
        obtain ⟨m, hm, h2⟩ := h1
        simp only [if_true]
        exact wpAny_pure ⟨plainId_quiet F.plain_all_loop _, ih m hm s1 h2⟩
      | false =>
        rw [if_pos rfl] at h1
        simp only [Bool.false_eq_true, if_false]
        exact wpAny_bind (wpAny_rule (wpAny_pure h1))
theorem any_loop (I : Nat → Shared → Prop) (turn : ∀ n s, I n s → wpAny (model prog w) A.in1 (pyNext it) (fun r s1 => match r with
      | none => R (.ok (.ret (.bool false))) s1
      | some v => ∃ c, v = .bool c ∧ (if c = true then R (.ok (.ret (.bool true))) s1 else ∃ m, m < n ∧ I m s1)) (fun e s' => R (.error e) s') s) : ∀ (n : Nat) (s : Shared), I n s → codeAny (model prog w) A (.builtin "any.loop" ⟨[it], []⟩) R s := by
  intro n
  induction n using Nat.strongRecOn with
  | ind n ih =>
    intro s hI
    refine codeAny_builtin F.entry_any_loop ?_
    rw [Around.under_plainId F.plain_any_loop _]
    show wpAny _ A.in1 (pyNext it >>= _) _ _ s
    refine wpAny_bind (wpAny_mono (turn n s hI) (fun r s1 h1 => ?_) fun _ _ e => e)
    cases r with
    | none => exact wpAny_bind (wpAny_rule (wpAny_pure h1))
    | some v =>
      obtain ⟨c, rfl, h1⟩ := h1
      refine wpAny_bind (wpAny_holding (wpAny_truthy_bool ?_))
      refine wpAny_bind (wpAny_letGo ?_)
      cases c with
      | true =>
        rw [if_pos rfl] at h1
        simp only [if_true]
        exact wpAny_bind (wpAny_rule (wpAny_pure h1))
      | false =>
        obtain ⟨m, hm, h2⟩ := h1
        simp only [Bool.false_eq_true, if_false]
        exact wpAny_pure ⟨plainId_quiet F.plain_any_loop _, ih m hm s1 h2⟩
end
end D


set_option Elab.async false
set_option linter.all false
set_option maxHeartbeats 2000000
set_option maxRecDepth 100000
/-! DQ: all, any of a generator expression. -/
namespace D
open PySem PySem.Spec PyProof.Rows L2
open Sem (wp)

/-! ### the code object -/
/-- tables grow, new things come -/
structure Grown (H H' : Hp) : Prop where
  keep : ∀ a o, H a = some o → NoTbl o → H' a = some o
  tbls : ∀ a ps, H a = some (.tbl ps) → ∃ q, H' a = some (.tbl q)
  ok : ∀ a ps, H' a = some (.tbl ps) → TblOk H' ps
theorem Grown.rel {P : Program} {w : World} {K : PySem.W.Frag} {H H' : Hp} {m : Nat → Addr} {st : Store} (g : Grown H H') (h : HRel P w K H m st) : HRel P w K H' m st := by
  have t : TupsK H H' := fun a xs r => by
    rcases r with r | ⟨u, r⟩
    · exact .inl (g.keep _ _ r True.intro)
    · exact .inr ⟨u, g.keep _ _ r True.intro⟩
  refine ⟨fun l c e => ?_, h.inj, g.ok⟩
  have hc := h.cell l c e
  obtain ⟨o, ho, ht, _⟩ := hc.some
  exact hc.stay t (fun _ _ => rfl) (Nat.le_refl _) fun u e2 => g.keep _ _ e2 (by rw [ho] at e2; cases e2; exact ht)
theorem Grown.nx {B H H' : Hp} {m : Nat → Addr} {n : Nat} (g : Grown H H') (b : Bs B m n H) : Nx B m n m n H' :=
  ⟨Nat.le_refl _, fun _ _ => rfl, fun a o e => g.keep a o (b.sub a o e) (b.tb a o e), fun l h1 h2 => absurd (Nat.lt_of_lt_of_le h2 h1) (Nat.lt_irrefl _)⟩
theorem codeAmong_app {pos : Pos} {a b : Int} {c cv : Value} (l : List Value) (h : TriplesOk l) (e : codeAmong pos (l ++ [rawInt a, rawInt b, c]) = some cv) : codeAmong pos l = some cv ∨ cv = c := by
  fun_induction TriplesOk l with
  | case1 =>
    simp only [List.nil_append, codeAmong, rawInt] at e
    split at e
    · cases e; exact .inr rfl
    · cases e
  | case2 a' t b' u x rest ih =>
    simp only [List.cons_append, codeAmong] at e ⊢
    split at e
    · rename_i hc; rw [if_pos hc]; exact .inl e
    · rename_i hc; rw [if_neg hc]; exact ih h e
  | case3 l h1 h2 => exact h.elim
section
variable {X : Cx} {pins : List (Addr × Obj)} {σ : L2.St} {H : Hp} {s : Shared}
/-- the running def's table has grown by a new code object -/
theorem inv_code {P c2 P2 : Addr} {oc : Obj} {ps more : Array Value} {h' : Heap} {t' : Nat} (I : Inv X pins σ H s) (hP : H P = some (.tbl ps)) (k : ∀ b o, b ≠ P → s.heap.get? b = some o → h'.get? b = some o)
    (hm : h'.get? P = some { cls := .none, data := .fields (ps ++ more) }) (g1 : s.heap.objs.size ≤ c2) (g2 : s.heap.objs.size ≤ P2) (g3 : c2 ≠ P2) (e1 : h'.get? c2 = some oc) (e2 : h'.get? P2 = some { cls := .none, data := .fields #[] }) :
    Inv X pins σ (upd (upd (upd H P (.tbl (ps ++ more))) c2 (frzC oc)) P2 (.tbl #[])) { s with heap := h', toks := t' } := by
  have lt : ∀ b u, H b = some u → b < s.heap.objs.size := fun b u e => (I.hok b u e).lt
  have at2 : ∀ b, b < s.heap.objs.size → b ≠ P → upd (upd (upd H P (.tbl (ps ++ more))) c2 (frzC oc)) P2 (.tbl #[]) b = H b := fun b hb h1 => by
    rw [upd_ne (Nat.ne_of_lt (Nat.lt_of_lt_of_le hb g2)), upd_ne (Nat.ne_of_lt (Nat.lt_of_lt_of_le hb g1)), upd_ne h1]
  have atP : upd (upd (upd H P (.tbl (ps ++ more))) c2 (frzC oc)) P2 (.tbl #[]) P = some (.tbl (ps ++ more)) := by
    have hb := lt P _ hP
    rw [upd_ne (Nat.ne_of_lt (Nat.lt_of_lt_of_le hb g2)), upd_ne (Nat.ne_of_lt (Nat.lt_of_lt_of_le hb g1)), upd_same]
  have nP : ∀ b u, H b = some u → (∀ q, u ≠ .tbl q) → b ≠ P := fun b u e q z => by
    rw [z, hP] at e
    exact q ps (Option.some.inj e).symm
  have nN : ∀ b, H b = none → b ≠ P := fun b e z => by
    rw [z, hP] at e
    cases e
  refine I.step (g' := s.gens) (d' := s.drawn) (ch := []) (fun b hb => absurd hb (by simp)) (fun b o _ _ _ e n => k b o (nN b n) e) (fun b o _ _ _ e n => ⟨o.slots, k b o (nN b n) e⟩)
    (fun b o _ e n => by rw [at2 b (Heap.lt_size e) (nN b n)]; exact n) (fun b o _ e => ?_) (fun b xs e => by rw [at2 b (lt b _ e) (nP b _ e (fun q z => by cases z))]; exact e) (fun b o u e => by rw [at2 b (lt b _ e) (nP b _ e (fun q z => by cases z))]; exact e) (fun b qs e => ?_) (fun m hn => ?_) (fun b u e => ?_) I.bare
  · by_cases hb : b = P
    · rw [hb]
      exact ⟨_, hm⟩
    · exact ⟨o, k b o hb e⟩
  · by_cases hb : b = P
    · rw [hb, hP] at e
      cases e
      rw [hb, atP]
      exact ⟨more, rfl⟩
    · rw [at2 b (lt b _ e) hb, e]
      exact ⟨#[], by simp⟩
  · obtain ⟨ob, es, ep, ho, r⟩ := hn
    exact ⟨ob, es, ep, k _ ob (nN _ I.free) ho, r⟩
  · by_cases hb2 : b = P2
    · rw [hb2, upd_same] at e
      cases e
      rw [hb2]
      exact e2
    by_cases hb3 : b = c2
    · rw [upd_ne hb2, hb3, upd_same] at e
      cases e
      rw [hb3]
      exact ⟨e1, True.intro, ⟨oc, e1⟩, fun _ _ _ _ => True.intro⟩
    by_cases hb4 : b = P
    · rw [hb4, atP] at e
      cases e
      rw [hb4]
      exact hm
    · rw [upd_ne hb2, upd_ne hb3, upd_ne hb4] at e
      refine (I.hok b u e).stay (fun d v hd q => k d v ?_ q) (fun d q => by rw [at2 d (lt d _ q) (nP d _ q (fun q z => by cases z))]; exact q) fun d xs q => by rw [at2 d (lt d _ q) (nP d _ q (fun q z => by cases z))]; exact q
      rcases hd with z | z
      · rw [z]
        exact hb4
      · exact nP d _ z (fun q z => by cases z)
theorem grown_code {P c2 P2 : Addr} {oc : Obj} {ps : Array Value} {a b : Int} (hP : H P = some (.tbl ps)) (ht : ∀ a ps, H a = some (.tbl ps) → TblOk H ps) (n1 : H c2 = none) (n2 : H P2 = none) (g3 : c2 ≠ P2) (hc : CodeO oc c2 P2) :
    Grown H (upd (upd (upd H P (.tbl (ps ++ #[rawInt a, rawInt b, .ref c2]))) c2 (frzC oc)) P2 (.tbl #[])) := by
  have k1 : ∀ d o, H d = some o → NoTbl o → upd (upd (upd H P (.tbl (ps ++ #[rawInt a, rawInt b, .ref c2]))) c2 (frzC oc)) P2 (.tbl #[]) d = some o := fun d o e t => by
    rw [upd_ne (ne_of_none e n2), upd_ne (ne_of_none e n1), upd_ne fun z => by rw [z, hP] at e; cases e; exact t]
    exact e
  have k2 : ∀ d q, H d = some (.tbl q) → ∃ q', upd (upd (upd H P (.tbl (ps ++ #[rawInt a, rawInt b, .ref c2]))) c2 (frzC oc)) P2 (.tbl #[]) d = some (.tbl q') := fun d q e => by
    rw [upd_ne (ne_of_none e n2), upd_ne (ne_of_none e n1)]
    by_cases hd : d = P
    · rw [hd, upd_same]; exact ⟨_, rfl⟩
    · rw [upd_ne hd]; exact ⟨q, e⟩
  refine ⟨k1, k2, fun d q e => ?_⟩
  have c2F : upd (upd (upd H P (.tbl (ps ++ #[rawInt a, rawInt b, .ref c2]))) c2 (frzC oc)) P2 (.tbl #[]) c2 = some (frzC oc) := by rw [upd_ne g3, upd_same]
  by_cases h2 : d = P2
  · rw [h2, upd_same] at e
    cases e
    exact ⟨True.intro, fun pos cv e => by cases e⟩
  by_cases h3 : d = c2
  · rw [upd_ne h2, h3, upd_same] at e
    cases e
  by_cases h4 : d = P
  · rw [upd_ne h2, upd_ne h3, h4, upd_same] at e
    cases e
    obtain ⟨t1, t2⟩ := (ht P ps hP).stay (fun c oc e => k1 c _ e True.intro) k2
    have hl : (ps ++ #[rawInt a, rawInt b, Value.ref c2]).toList = ps.toList ++ [rawInt a, rawInt b, .ref c2] := by simp
    refine ⟨by rw [hl]; exact TriplesOk_snoc _ _ _ _ t1, fun pos cv e => ?_⟩
    rw [hl] at e
    rcases codeAmong_app ps.toList t1 e with e | e
    · exact t2 pos cv e
    · exact ⟨c2, oc, P2, #[], e, c2F, hc, upd_same⟩
  · rw [upd_ne h2, upd_ne h3, upd_ne h4] at e
    exact (ht d q e).stay (fun c oc e => k1 c _ e True.intro) k2
theorem codeO_of {h : Heap} {oc : Obj} {c P : Addr} (e : h.get? c = some oc) (x : PySem.W.CodeHd h c P) : CodeO oc c P := fun h2 e2 => by
  obtain ⟨o, vs, file, tf, flags, tg, inF, text, tt, e1, r⟩ := x
  rw [e] at e1
  cases e1
  exact ⟨_, vs, file, tf, flags, tg, inF, text, tt, e2, r⟩
/-- the running code's own object and table -/
structure CodeT (X : Cx) (c P : Addr) : Prop where
  code : X.env.code = .ref c
  hd : PySem.W.CodeHd X.base c P ∨ ∃ oc, X.H_0 c = some (frzC oc) ∧ CodeO oc c P
  tab : ∃ ps, X.H_0 P = some (.tbl ps)
theorem CodeT.at {c P : Addr} (C : CodeT X c P) (I : Inv X pins σ H s) : PySem.W.CodeHd s.heap c P ∧ ∃ ps, H P = some (.tbl ps) := by
  refine ⟨?_, ?_⟩
  · rcases C.hd with h | ⟨oc, h1, h2⟩
    · exact h.keeps I.bk
    · exact h2 s.heap (I.hok c _ (I.base.frzs c _ _ h1)).1
  · obtain ⟨ps, e⟩ := C.tab
    obtain ⟨more, e2⟩ := I.base.tbls P ps e
    exact ⟨_, e2⟩
/-- the code object of a generator expression here -/
def CodeAt (H : Hp) (v : Value) : Prop := ∃ c oc P q, v = .ref c ∧ H c = some (frzC oc) ∧ CodeO oc c P ∧ H P = some (.tbl q)
theorem genexpr_code {c P : Addr} {pos : Pos} {qn : Str} {scope : Scope} {E : Value → Shared → Prop} {Q : Value → Shared → Prop} (C : CodeT X c P) (I : Inv X pins σ H s) (ht : ∀ a ps, H a = some (.tbl ps) → TblOk H ps)
    (h : ∀ H' v s', Grown H H' → (∀ b, H b = none → b < s.heap.objs.size → H' b = none) → CodeAt H' v → (∀ b o, H b = none → s.heap.get? b = some o → s'.heap.get? b = some o) → Inv X pins σ H' s' → Q v s') :
    wpAny (model X.prog X.w) X.A (genexprCode X.env pos qn scope) Q E s := by
  obtain ⟨hd, ps, hP⟩ := C.at I
  have hPs : s.heap.get? P = some (PySem.W.tabObj ps) := I.hok P _ hP
  have hcode := hd.code hPs (ht P ps hP).1
  have htab := hd.tab hPs
  cases hf : codeAmong pos ps.toList with
  | none =>
    refine wpAny_genexprCodeX C.code hcode htab hf fun c2 h' tk hx hge hlt hco' _ htab' hnew => ?_
    obtain ⟨P2, hP2, hc2, ht2⟩ := hnew
    have hd2 := PySem.W.CodeHd.of hc2 ht2
    obtain ⟨oc, ho⟩ : ∃ oc, h'.get? c2 = some oc := by obtain ⟨⟨o, _, e, _⟩, _⟩ := ht2; exact ⟨o, e⟩
    have hne : c2 ≠ P2 := by
      obtain ⟨_, _, _, _, _, _, _, _, _, _, _, _, _, _, _, _, _, _, r⟩ := hd2
      exact r
    have lt : P < s.heap.objs.size := Heap.lt_size hPs
    refine h _ (.ref c2) _ (grown_code hP ht (I.hok.fresh hge) (I.hok.fresh hP2) hne (codeO_of ho hd2)) (fun b hb hl => ?_) ⟨c2, oc, P2, #[], rfl, by rw [upd_ne hne, upd_same], codeO_of ho hd2, upd_same⟩ (fun b o hb e => hx b o (fun z => by rw [z, hP] at hb; cases hb) e)
      (inv_code (t' := tk) I hP (fun b o hb e => hx b o hb e) htab'.2 hge hP2 hne ho ht2.2)
    rw [upd_ne (Nat.ne_of_lt (Nat.lt_of_lt_of_le hl hP2)), upd_ne (Nat.ne_of_lt (Nat.lt_of_lt_of_le hl hge)), upd_ne fun z => by rw [z, hP] at hb; cases hb]
    exact hb
  | some cv =>
    refine wpAny_genexprCode_hit C.code hcode hf ?_
    refine h H cv s ⟨fun _ _ e _ => e, fun _ ps e => ⟨ps, e⟩, ht⟩ (fun b hb _ => hb) ?_ (fun _ _ _ e => e) I
    obtain ⟨c2, oc, Pc, q, e1, e2, e3, e4⟩ := (ht P ps hP).2 pos cv hf
    exact ⟨c2, oc, Pc, q, e1, e2, e3, e4⟩
end
end D


set_option Elab.async false
set_option linter.all false
set_option maxHeartbeats 2000000
set_option maxRecDepth 100000
/-! DR: all, any of a generator expression. -/
namespace D
open PySem PySem.Spec PyProof.Rows L2
open Sem (wp)
section
variable {M : Model} {A : Around} {E : Value → Shared → Prop} {s : Shared}
theorem gen_make {env : Env} {elt target iter : Expr} {ifs : List Expr} {scope : Scope} {cl : List (Str × Addr)} {pos : Pos} {Q : Value → Shared → Prop}
    (hco : scope.isCoroutine = false) (hclos : closureFor scope env = pure cl) (h0 : scope.names.lookup (".0" : Str) = some NameKind.local) (hkind : scope.kind = .function)
    (hroom : A.depth < recursionLimit)
    (h : wpAny M A (eval iter env) (fun xv s₁ => wpAny M A (pyIter xv) (fun it s₂ => s₂.heap.NoLimit ∧
      wpAny M A (genexprCode env pos (env.qual ++ "<genexpr>") scope) (fun code s₃ => wpAny M A (builtinsFor env.globals env.builtins) (fun bi s₄ =>
        ∀ (h' : Heap) (m : Str → Option Value) (tk : Nat), h'.Ns s₄.heap.objs.size m → (∀ b o, b ≠ s₄.heap.objs.size → (pushCells (s₄.heap.push { cls := .type "frame", data := .dict #[] }) scope.names).get? b = some o → h'.get? b = some o) →
          ∀ (nm qn : Value) (tk2 : Nat), Q (.ref h'.objs.size) { s₄ with
            gens := s₄.gens.push (.fresh (.compStart (.GeneratorExp elt [⟨target, iter, ifs, 0⟩] scope pos) 0 it .none (newEnv scope s₄.heap.objs.size env.globals (cellsFrom (s₄.heap.objs.size + 1) scope.names cl) (env.qual ++ "<genexpr>.") none code none bi))),
            toks := tk2,
            heap := h'.push { cls := .type "generator", data := .fields #[.int s₄.gens.size 0, nm, qn] } }) E s₃) E s₂) E s₁) E s)
    (hs : ∀ x, genFold iter env x = pure x) :
    wpAny M A (eval (.GeneratorExp elt [⟨target, iter, ifs, 0⟩] scope pos) env) Q E s := by
  rw [eval_GeneratorExp1 _ _ _ _ _ _ _ hco, hclos]
  refine wpAny_bind (wpAny_mono h (fun xv s₁ h₁ => ?_) fun _ _ e => e)
  refine wpAny_bind (wpAny_standAt ?_)
  refine wpAny_bind (wpAny_of_eq (hs xv) ?_)
  refine wpAny_bind (wpAny_holding (wpAny_mono h₁ (fun it s₂ h₂ => ?_) fun _ _ e => e))
  refine wpAny_bind (wpAny_enterFrame h₂.1 hroom ?_)
  refine wpAny_bind (wpAny_pure ?_)
  refine wpAny_bind (wpAny_mono h₂.2 (fun code s₃ h₃ => ?_) fun _ _ e => e)
  refine wpAny_bind (wpAny_mono h₃ (fun bi s₄ h₄ => ?_) fun _ _ e => e)
  refine wpAny_bind (newEnv_gen hkind h0 fun h' m tk hn hk => ?_)
  simp only [newGenerator, newFields]
  refine wpAny_bind (wpAny_newGen (wpAny_bind (wpAny_mkText (wpAny_bind (wpAny_mkText (wpAny_newObj_type ?_ (by size_fits)))))))
  exact h₄ h' m tk hn hk _ _ _
end
/-- the generator's own object -/
abbrev genObj (g : Nat) (nm qn : Value) : Obj := { cls := .type "generator", data := .fields #[.int g 0, nm, qn] }
section
variable {X G : Cx} {pins : List (Addr × Obj)} {σ σw : L2.St} {b : Bool} {Q : VK} {a : Addr} {g : Nat} {nm qn : Value}
/-- asleep: n turns at most are left -/
def Sleeps (X G : Cx) (a : Addr) (g : Nat) (nm qn : Value) (σw : L2.St) (b : Bool) (Q : VK) (n : Nat) (s : Shared) : Prop :=
  s.heap.get? a = some (genObj g nm qn) ∧ s.heap.NoLimit ∧ AllBare s.gens ∧ ∃ gs, s.gens[g]? = some gs ∧
    gs.Goes (model G.prog G.w) X.A.in1.in1 (fun n s₀ r s₁ => r = .ok .next ∧ gR G [(a, genObj g nm qn)] σw b Q n s₀ s₁) (gY G [(a, genObj g nm qn)] b Q) n (.send .none) (s.setGen g .running)
theorem seek_next {E : Value → Shared → Prop} (hh : X.A.handled = none) (hroom : X.A.depth < recursionLimit) (back : ∀ (H' : Hp) (s' : Shared) (σ' : L2.St), Inv G [(a, genObj g nm qn)] σ' H' s' → Inv X pins σ H' s') (n : Nat) (s : Shared) (h : Sleeps X G a g nm qn σw b Q n s) :
    wpAny (model G.prog G.w) X.A.in1 (pyNext (.ref a)) (fun r s1 => match r with
      | none => EP X pins σ Q (.bool (!b)) s1
      | some v => ∃ c, v = .bool c ∧ (if c = b then EP X pins σ Q (.bool b) s1 else ∃ m, m < n ∧ Sleeps X G a g nm qn σw b Q m s1)) E s := by
  obtain ⟨ha, hl, hb, gs, hgs, hgo⟩ := h
  have hlt : g + 1 ≤ s.gens.size := by
    rcases Nat.lt_or_ge g s.gens.size with z | z
    · exact z
    · rw [Array.getElem?_eq_none z] at hgs; cases hgs
  refine GenW.wpAny_gsz hlt (wpAny_pyNext_genexpQ (A := X.A.in1) hh hl hroom ⟨_, nm, qn, ha, rfl, rfl, rfl⟩ hgs hgo (fun v s₁ gs' hbare hv => ?_) (fun s₁ hp h' hk => ?_))
  · obtain ⟨c, rfl, σ2, H', I, hcont⟩ := hv
    intro hsz
    refine ⟨c, rfl, ?_⟩
    have hg1 : (s₁.setGen g gs').gens[g]? = some gs' := by
      have hsz' : g < s₁.gens.size := by
        rw [GenW.setGen_size] at hsz
        exact hsz
      simp [Shared.setGen, hsz']
    have wk : Woke s₁ (s₁.setGen g gs') := ⟨rfl, rfl, allBare_setGen I.bare hbare⟩
    by_cases hc : c = b
    · rw [if_pos hc] at hcont ⊢
      exact ⟨.bl b, H', back H' _ σ2 (inv_woke I wk), rfl, hcont⟩
    · rw [if_neg hc] at hcont ⊢
      have wk2 : Woke s₁ ((s₁.setGen g gs').setGen g .running) := ⟨rfl, rfl, allBare_setGen wk.bare rfl⟩
      have hk := hcont _ wk2
      cases n with
      | zero => exact hk.elim
      | succ m =>
        exact ⟨m, Nat.lt_succ_self m, (I.pin (a, genObj g nm qn) (List.mem_append_right _ List.mem_cons_self)).1, I.nolimit, wk.bare, gs', hg1, hk⟩
  · obtain ⟨H', I, q⟩ := hp
    intro _
    have wk : Woke s₁ (s₁.setGen g .finished) := ⟨rfl, rfl, allBare_setGen I.bare rfl⟩
    have I2 := inv_woke I wk
    exact ⟨.bl (!b), H', back H' _ σw (I2.kept (t' := (s₁.setGen g .finished).toks) hk), rfl, q⟩
end

/-- all(e for t in i if ..): b false; any: b true -/
def tSk (b : Bool) (wi : TI) (g : TG) (tt : TT) (te : TE) (vs : List Nat) : TE := fun σ H Q => wi σ H fun J H1 => (∀ a ps, H1 a = some (.tbl ps) → TblOk H1 ps) ∧ ∀ H2, Grown H1 H2 → ∃ W, (∃ m, W 0 m H2) ∧ SkW J g tt te vs b σ Q W
section
variable {X : Cx} {pins : List (Addr × Obj)} {σ : L2.St} {H : Hp} {s : Shared}
/-- what the code of a generator expression stands in -/
structure GenOk (X : Cx) (scope : Scope) (own : List (Str × Nat)) : Prop where
  blk : BlkOk X.N X.env.scope scope own
  co : scope.isCoroutine = false
  dot : scope.names.lookup (".0" : Str) = some .local
theorem gen_ready {k : Nat} {c P : Addr} {elt tg iter : Expr} {ifs : List Expr} {scope : Scope} {own : List (Str × Nat)} {gpos : Pos} {wi : TI} {g : TG} {tt : TT} {te : TE} {b : Bool} {Q : VK} {Q' : Value → Shared → Prop}
    (hr : Room k X.A) (hc : X.calm = true) (hN : X.N.Nodup) (C : CodeT X c P) (hbm : ∃ P0, X.base.BuiltinsAt X.mg P0) (S : GenOk X scope own) (hi : PI X tg iter wi)
    (hG : ∀ (s : Shared) (H : Hp) (code : Value) (fp : List Addr) (pins : List (Addr × Obj)) (σ : L2.St), Inv X pins σ H s → CodeAt H code →
      PG (gCx X s H scope (gEnv scope (cellsFrom (s.heap.objs.size + 1) scope.names (cloFrom X.env.cells scope.names [])) s.heap.objs.size code X.env) fp) tg g ∧
      PTs (gCx X s H scope (gEnv scope (cellsFrom (s.heap.objs.size + 1) scope.names (cloFrom X.env.cells scope.names [])) s.heap.objs.size code X.env) fp) ifs tt ∧
      PE (gCx X s H scope (gEnv scope (cellsFrom (s.heap.objs.size + 1) scope.names (cloFrom X.env.cells scope.names [])) s.heap.objs.size code X.env) fp) elt te)
    (hs : ∀ v, genFold iter X.env v = pure v) (I : Inv X pins σ H s) (h : tSk b wi g tt te (own.map (·.2)) σ H Q)
    (hQ : ∀ a gn nm qn n σw s5 G, G.prog = X.prog → G.w = X.w → Sleeps X G a gn nm qn σw b Q n s5 → (∀ (H' : Hp) (s' : Shared) (σ' : L2.St), Inv G [(a, genObj gn nm qn)] σ' H' s' → Inv X pins σ H' s') → Q' (.ref a) s5) :
    wpAny (model X.prog X.w) X.A (eval (.GeneratorExp elt [⟨tg, iter, ifs, 0⟩] scope gpos) X.env) Q' X.xe s := by
  have hfree : ∀ y ∈ scope.names, y.2 = .free → ∃ c, X.env.cells.lookup y.1 = some c := fun y hy e => by
    rcases S.blk.free y hy e with k | k
    · exact I.ok.has _ (.inl k)
    · exact I.ok.has _ (.inr k)
  refine gen_make S.co (closure_ok hfree) S.dot S.blk.kind (by have := hr.dp; omega) (thn (hi.run pins s σ H _ I h) fun xv s1 hx => thn hx fun itv s2 h2 => ?_) hs
  obtain ⟨it, fp, tn, J, H2, e, I2, T, st2, f2, ht, q⟩ := h2
  subst e
  refine ⟨I2.nolimit, genexpr_code C I2 ht fun H3 code s3 gr fr3 cat kp3 I3 => ?_⟩
  obtain ⟨P0, bm, ob, e1, e2, e3, e4, e5, e6, e7, e8⟩ := hbm
  refine wpAny_builtinsFor (m := X.mg) (by rw [I3.ok.glob]; exact I3.mod.glob.keeps I3.bk) e1 e2 (I3.bk _ _ e5) e6 e7 e8 ?_
  intro h5 m5 tk5 hn5 hk5 nm qn tk6
  obtain ⟨W, ⟨m0, w0⟩, turn⟩ := q H3 gr
  -- the iterator's objects
  have st3 : tn 0 s3.heap := T.keep _ _ _ st2 fun b hb o e => kp3 b o (f2 b hb).1 e
  have f3 : ∀ b ∈ fp, FpOk X pins H3 b ∧ b < s3.heap.objs.size := fun b hb => by
    obtain ⟨o, e, _⟩ := T.obj _ _ st2 b hb
    exact ⟨⟨fr3 b (f2 b hb).1 (Heap.lt_size e), (f2 b hb).2⟩, Heap.lt_size (kp3 b o (f2 b hb).1 e)⟩
  have I4 := gen_start (code := code) (tk := tk5) I3 S.blk hN hr.hd f3 hn5 hk5
  obtain ⟨pg, pt, pe⟩ := hG s3 H3 code fp pins σ I3 cat
  generalize hce : gEnv scope (cellsFrom (s3.heap.objs.size + 1) scope.names (cloFrom X.env.cells scope.names [])) s3.heap.objs.size code X.env = ce at I4 pg pt pe
  have cL : ce.locals = s3.heap.objs.size := by subst hce; rfl
  have k5 : ∀ b o, s3.heap.get? b = some o → h5.get? b = some o := fun b o e => hk5 b o (Nat.ne_of_lt (Heap.lt_size e)) (pushCells_keeps _ _ _ _ (Heap.get?_push_of_some _ e))
  have ha5 : h5.objs.size ≠ ce.locals := by
    have := hn5.lt
    rw [cL]
    exact Nat.ne_of_gt this
  have sz : s3.heap.objs.size ≤ h5.objs.size := Nat.le_of_lt hn5.lt
  have hgo : (h5.push (genObj s3.gens.size nm qn)).get? h5.objs.size = some (genObj s3.gens.size nm qn) := Heap.get?_push_size _ rfl
  -- the state at a wake
  have wake : ∀ s', AllBare s'.gens → s'.heap = h5.push (genObj s3.gens.size nm qn) → s'.os = s3.os → Inv (gCx X s3 H3 scope ce fp) [(h5.objs.size, genObj s3.gens.size nm qn)] (L2.wipe σ (own.map (·.2))) H3 s' := fun s' z3 z1 z2 => by
    have J1 := I4.kept (h' := h5.push (genObj s3.gens.size nm qn)) (t' := tk6) fun b o e => Heap.get?_push_of_some _ e
    have J2 := inv_woke (s' := s') J1 ⟨z1, z2, z3⟩
    refine J2.pins_of fun p hp => ?_
    have e : p = (h5.objs.size, genObj s3.gens.size nm qn) := by simpa using hp
    subst e
    refine ⟨by rw [z1]; exact hgo, I3.hok.fresh sz, ha5, fun hm => ?_, fun v z => by cases z⟩
    have hm : h5.objs.size ∈ frs X.stack := hm
    rcases List.mem_cons.mp (I3.stkSub _ hm) with z | z
    · exact absurd (Nat.lt_of_lt_of_le I3.lt sz) (by rw [z]; exact Nat.lt_irrefl _)
    · exact I3.nofs sz z
  have fr : ∀ b ∈ fp, H3 b = none := fun b hb => (f3 b hb).1.1
  refine hQ h5.objs.size s3.gens.size nm qn (m0 + 1) (L2.wipe σ (own.map (·.2))) _ (gCx X s3 H3 scope ce fp) rfl rfl ⟨hgo, (I3.nolimit.keeps fun b o e => Heap.get?_push_of_some _ (k5 b o e)), ?_, _, Array.getElem?_push_size .., rfl, ?_⟩ ?_
  · intro y hy
    rcases Array.mem_push.mp hy with hy | hy
    · exact I3.bare y hy
    · rw [hy]; rfl
  · have hb2 : AllBare (Shared.setGen { s3 with gens := s3.gens.push (.fresh (.compStart (.GeneratorExp elt [⟨tg, iter, ifs, 0⟩] scope gpos) 0 (.ref it) .none (newEnv scope s3.heap.objs.size X.env.globals (cellsFrom (s3.heap.objs.size + 1) scope.names (cloFrom X.env.cells scope.names [])) (X.env.qual ++ "<genexpr>.") none code none builtinsNs))), toks := tk6, heap := h5.push (genObj s3.gens.size nm qn) } s3.gens.size .running).gens := by
      refine allBare_setGen ?_ rfl
      intro y hy
      rcases Array.mem_push.mp hy with hy | hy
      · exact I3.bare y hy
      · rw [hy]; rfl
    have J := wake _ hb2 rfl rfl
    have hce' : newEnv scope s3.heap.objs.size X.env.globals (cellsFrom (s3.heap.objs.size + 1) scope.names (cloFrom X.env.cells scope.names [])) (X.env.qual ++ "<genexpr>.") none code none builtinsNs = ce := hce
    have hco : ce.scope.isCoroutine = false := by rw [← hce]; exact S.co
    rw [hce']
    refine seg_skStart (G := gCx X s3 H3 scope ce fp) (A := X.A.in1.in1) (σ := σ) hc hco rfl rfl T pg pt pe (fun σ' H' s' I' hn b hb => ⟨hn b hb, (I'.ok.exf b hb).1, I'.ok.exfs b hb, .inl hb, fun x c e => (I'.ok.exf b hb).2 x c e, fun p hp => ?_⟩) turn m0 (m0 + 1) H3 _ _ (Nat.lt_succ_self _) w0 (by rw [hce'] at J; exact J) ?_ fr
    · have hp : p = (h5.objs.size, genObj s3.gens.size nm qn) := by simpa using (show p ∈ ([] : List (Addr × Obj)) ++ _ from hp)
      rw [hp]
      exact Nat.ne_of_gt (Nat.lt_of_lt_of_le (f3 b hb).2 sz)
    · exact T.keep _ _ _ st3 fun b _ o e => Heap.get?_push_of_some _ (k5 b o e)
  · intro H' s' σ' I'
    exact I3.call' (ch := fp) I'.os I'.base I'.hok I'.bare fun b hb => ⟨(f3 b hb).1.2.2.2.1, (f3 b hb).1.2.1, (f3 b hb).1.2.2.2.2.1, (f3 b hb).1.2.2.2.2.2⟩
end
end D


set_option Elab.async false
set_option linter.all false
set_option maxHeartbeats 2000000
set_option maxRecDepth 100000
/-! DS: all(..), any(..). -/
namespace D
open PySem PySem.Spec PyProof.Rows L2
open Sem (wp)
section
variable {X : Cx} {k : Nat} {c P : Addr} {elt tg iter : Expr} {ifs : List Expr} {scope : Scope} {own : List (Str × Nat)} {gpos p pos : Pos} {wi : TI} {g : TG} {tt : TT} {te : TE}
theorem pe_all (hr : Room k X.A) (hc : X.calm = true) (hN : X.N.Nodup) (C : CodeT X c P) (hbm : ∃ P0, X.base.BuiltinsAt X.mg P0) (S : GenOk X scope own) (hi : PI X tg iter wi)
    (hG : ∀ (s : Shared) (H : Hp) (code : Value) (fp : List Addr) (pins : List (Addr × Obj)) (σ : L2.St), Inv X pins σ H s → CodeAt H code →
      PG (gCx X s H scope (gEnv scope (cellsFrom (s.heap.objs.size + 1) scope.names (cloFrom X.env.cells scope.names [])) s.heap.objs.size code X.env) fp) tg g ∧
      PTs (gCx X s H scope (gEnv scope (cellsFrom (s.heap.objs.size + 1) scope.names (cloFrom X.env.cells scope.names [])) s.heap.objs.size code X.env) fp) ifs tt ∧
      PE (gCx X s H scope (gEnv scope (cellsFrom (s.heap.objs.size + 1) scope.names (cloFrom X.env.cells scope.names [])) s.heap.objs.size code X.env) fp) elt te)
    (hs : ∀ v, genFold iter X.env v = pure v) (hg : Gl X "all") (hm : X.mg "all" = none) :
    PE X (.Call (.Name "all" p) [.GeneratorExp elt [⟨tg, iter, ifs, 0⟩] scope gpos] [] pos) (tSk false wi g tt te (own.map (·.2))) := by
  refine ⟨fun pins s σ H Q I h => ?_⟩
  refine wpAny_Call_Name_kw (ld_blt I hg hm (by decide +kernel : bootBuiltins "all" = some (.builtin "all")) ?_)
  refine PyProof.Rows.callWith_builtin1 ?_ rfl rfl
  show wpAny _ _ (spliced ((false, eval (.GeneratorExp elt [⟨tg, iter, ifs, 0⟩] scope gpos) X.env) :: backTo pos (starEach [] X.env))) _ _ s
  refine Calls.spliced_cons (gen_ready hr hc hN C hbm S hi hG hs I h fun a gn nm qn n σw s5 G eP ew hS back => ?_)
  refine Calls.spliced_nil ?_
  refine call_function_tree F.kind_all F.plain_all F.entry_all (F.args_all1 _) ?_
  unfold Builtin.«all»
  refine wpAny_bind (m := oneArg "all" _) (wpAny_pure ?_)
  refine wpAny_bind (wpAny_pyIter_gen (g := gn) ⟨_, nm, qn, hS.1, rfl, rfl, rfl⟩ ?_)
  refine wpAny_pure ⟨plainId_quiet F.plain_all_loop _, ?_⟩
  rw [← eP, ← ew]
  refine all_loop (Sleeps X G a gn nm qn σw false Q) (fun n s hS => wpAny_mono (seek_next hr.hd (by have := hr.dp; omega) back n s hS) (fun r s1 h1 => ?_) fun _ _ e => e) n s5 hS
  cases r with
  | none => exact h1
  | some v =>
    obtain ⟨cb, rfl, h1⟩ := h1
    refine ⟨cb, rfl, ?_⟩
    by_cases hcb : cb = false
    · rw [if_pos hcb] at h1 ⊢; exact h1
    · rw [if_neg hcb] at h1 ⊢; exact h1
theorem pe_any (hr : Room k X.A) (hc : X.calm = true) (hN : X.N.Nodup) (C : CodeT X c P) (hbm : ∃ P0, X.base.BuiltinsAt X.mg P0) (S : GenOk X scope own) (hi : PI X tg iter wi)
    (hG : ∀ (s : Shared) (H : Hp) (code : Value) (fp : List Addr) (pins : List (Addr × Obj)) (σ : L2.St), Inv X pins σ H s → CodeAt H code →
      PG (gCx X s H scope (gEnv scope (cellsFrom (s.heap.objs.size + 1) scope.names (cloFrom X.env.cells scope.names [])) s.heap.objs.size code X.env) fp) tg g ∧
      PTs (gCx X s H scope (gEnv scope (cellsFrom (s.heap.objs.size + 1) scope.names (cloFrom X.env.cells scope.names [])) s.heap.objs.size code X.env) fp) ifs tt ∧
      PE (gCx X s H scope (gEnv scope (cellsFrom (s.heap.objs.size + 1) scope.names (cloFrom X.env.cells scope.names [])) s.heap.objs.size code X.env) fp) elt te)
    (hs : ∀ v, genFold iter X.env v = pure v) (hg : Gl X "any") (hm : X.mg "any" = none) :
    PE X (.Call (.Name "any" p) [.GeneratorExp elt [⟨tg, iter, ifs, 0⟩] scope gpos] [] pos) (tSk true wi g tt te (own.map (·.2))) := by
  refine ⟨fun pins s σ H Q I h => ?_⟩
  refine wpAny_Call_Name_kw (ld_blt I hg hm (by decide +kernel : bootBuiltins "any" = some (.builtin "any")) ?_)
  refine PyProof.Rows.callWith_builtin1 ?_ rfl rfl
  show wpAny _ _ (spliced ((false, eval (.GeneratorExp elt [⟨tg, iter, ifs, 0⟩] scope gpos) X.env) :: backTo pos (starEach [] X.env))) _ _ s
  refine Calls.spliced_cons (gen_ready hr hc hN C hbm S hi hG hs I h fun a gn nm qn n σw s5 G eP ew hS back => ?_)
  refine Calls.spliced_nil ?_
  refine call_function_tree F.kind_any F.plain_any F.entry_any (F.args_any1 _) ?_
  unfold Builtin.«any»
  refine wpAny_bind (m := oneArg "any" _) (wpAny_pure ?_)
  refine wpAny_bind (wpAny_pyIter_gen (g := gn) ⟨_, nm, qn, hS.1, rfl, rfl, rfl⟩ ?_)
  refine wpAny_pure ⟨plainId_quiet F.plain_any_loop _, ?_⟩
  rw [← eP, ← ew]
  refine any_loop (Sleeps X G a gn nm qn σw true Q) (fun n s hS => wpAny_mono (seek_next hr.hd (by have := hr.dp; omega) back n s hS) (fun r s1 h1 => ?_) fun _ _ e => e) n s5 hS
  cases r with
  | none => exact h1
  | some v =>
    obtain ⟨cb, rfl, h1⟩ := h1
    refine ⟨cb, rfl, ?_⟩
    by_cases hcb : cb = true
    · rw [if_pos hcb] at h1 ⊢; exact h1
    · rw [if_neg hcb] at h1 ⊢; exact h1
end
/-! ### by the evaluator -/
section
variable {X : Cx} {W : WX} {XR : XRel} {H H' B B' : Hp} {m m' : Nat → Addr} {st st' : Store} {ρ : Sl} {σ : L2.St} {n : Nat}
theorem seekL_cons {β : Type} {g : Store → Bool} {b : Bool} {f : Val → M (Option Bool)} {x : Val} {xs : List Val} {F : Bool → M β} {E : XK} {R : β → (Nat → Addr) → Store → Hp → Prop} {P : Program} {w : World} {K : PySem.W.Frag}
    (h : PostM P w K XR E B m n R ((seekL g b f (x :: xs) >>= F) st)) :
    g st = true ∧ PostM P w K XR (fun _ _ _ => False) B m n (fun o m2 st2 _ => if o = some b then PostM P w K XR E B m2 st2.length R (F b st2) else PostM P w K XR E B m2 st2.length R ((seekL g b f xs >>= F) st2)) (f x st) := by
  rw [M.bind_eq] at h
  unfold seekL at h
  cases hg : g st with
  | false => simp only [hg] at h; exact h.elim
  | true =>
    refine ⟨rfl, ?_⟩
    simp only [hg, if_true] at h
    cases q : f x st with
    | ok o st1 =>
      simp only [q] at h
      intro m2 H2 x2 hr2
      by_cases ho : o = some b
      · rw [if_pos ho] at h ⊢
        exact PostM.from x2 h
      · rw [if_neg ho] at h ⊢
        rw [M.bind_eq]
        exact PostM.from x2 h
    | exc c pl st1 => simp only [q] at h; exact h.elim
    | stuck => simp only [q] at h; exact h.elim
theorem seekL_nil {β : Type} {g : Store → Bool} {b : Bool} {f : Val → M (Option Bool)} {F : Bool → M β} {E : XK} {R : β → (Nat → Addr) → Store → Hp → Prop} {P : Program} {w : World} {K : PySem.W.Frag}
    (h : PostM P w K XR E B m n R ((seekL g b f [] >>= F) st)) : g st = true ∧ PostM P w K XR E B m n R (F (!b) st) := by
  rw [M.bind_eq] at h
  unfold seekL at h
  cases hg : g st with
  | false => simp only [hg] at h; exact h.elim
  | true => simp only [hg, if_true] at h; exact ⟨rfl, h⟩
theorem rd_seek {ei : Sl → M Src} {ec : Sl → M Bool} {ee : Sl → M EV} {t : T} {own : List Nat} {b : Bool} (hid : ∀ i ∈ t.ids, i ∈ own) : ∀ σ H Q, rdE X W XR (fun ρ => do
      let s ← ei ρ
      let r ← seekL (fun st => s.gd.ok ρ st) b (bodyM t own ρ ec (fun ρ2 => mkB (ee ρ2)) (.pure none)) s.vals
      .pure (.v (.bool r))) σ H Q → tSk b (rdI X W XR ei) (tG X.K t) (rdB X W0 XR ec) (rdE X W0 XR ee) own σ H Q := by
  intro σ H Q ⟨B, ρ, st, m, S, bb, h⟩
  refine ⟨outB H m st.length, ρ, st, m, S, bs_out _ _ _, ?_⟩
  refine seq_gen S bb h fun src m1 st1 H1 s1 S1 b1 h1 as J hJ => ⟨S1.heap.tbl, fun H2 gr => ?_⟩
  have h1 := h1.more b1.le_out
  generalize hf : bodyM t own ρ ec (fun ρ2 => mkB (ee ρ2)) (.pure none) = f at h1
  generalize hgd : (fun st => src.gd.ok ρ st) = g at h1
  refine ⟨fun i k H' => k = src.vals.length - i ∧ i ≤ src.vals.length ∧ ∃ (m' : Nat → Addr) (st' : Store), LSt X H1 m1 st1.length m' st' H' ∧
    PostM X.prog X.w X.K XR (WE W σ) (outB H1 m1 st1.length) m' st'.length (RQ X B ρ σ Q) ((seekL g b f (src.vals.drop i) >>= fun r => .pure (.v (.bool r))) st'),
    ⟨src.vals.length, by simp, Nat.zero_le _, m1, st1, ⟨gr.rel S1.heap, gr.nx (bs_out H1 m1 st1.length)⟩, by simpa using h1⟩, ?_⟩
  rintro i k H' ⟨rfl, hle, m', st', L, hp⟩
  have b' : Bs (outB H1 m1 st1.length) m' st'.length H' := L.nx.bs (bs_out _ _ _)
  by_cases hlt : i < src.vals.length
  · obtain ⟨x, hx⟩ : ∃ x, src.vals[i]? = some x := ⟨_, List.getElem?_eq_getElem hlt⟩
    have hdrop : src.vals.drop i = x :: src.vals.drop (i + 1) := by
      rw [List.drop_eq_getElem_cons hlt]
      congr 1
      rw [List.getElem?_eq_getElem hlt] at hx
      cases hx
      rfl
    rw [hdrop] at hp
    obtain ⟨hgo, hp⟩ := seekL_cons hp
    rw [← hgd] at hgo
    obtain ⟨y1, _⟩ := yield_ok S1 hJ L (Gd.ok_S hgo) i
    obtain ⟨go, y2⟩ := y1 x hx
    refine .inr ⟨go, fun H2 => ∃ (m' : Nat → Addr) (st' : Store), LSt X H1 m1 st1.length m' st' H2 ∧
      PostM X.prog X.w X.K XR (WE W σ) (outB H1 m1 st1.length) m' st'.length (RQ X B ρ σ Q) ((seekL g b f (src.vals.drop (i + 1)) >>= fun r => .pure (.v (.bool r))) st'), fun H2 hN2 => ⟨src.vals.length - (i + 1), by omega, rfl, hlt, hN2⟩, fun v H'' y => ?_⟩
    obtain ⟨L2, kp, rx⟩ := y2 v H'' y
    have S2 := L2.sim S1
    have b2 : Bs (outB H1 m1 st1.length) m' st'.length H'' := L2.nx.bs (bs_out _ _ _)
    have hfx : f x = bodyM t own ρ ec (fun ρ2 => mkB (ee ρ2)) (.pure none) x := by rw [← hf]
    rw [hfx] at hp
    refine body_ok (fun _ _ _ z => z) hid S2 b2 rx hp ?_ ?_
    · intro ρ2 σ2 m3 st3 H3 S3 b3 x3 h3
      have L3 := L2.then x3 S3.heap
      unfold mkB at h3
      refine rd_seq S3 b3 h3 fun z u m4 st4 H4 s4 S4 b4 rz h4 => ?_
      obtain ⟨cb, rfl, h5⟩ := isB_inv h4
      cases rz
      refine ⟨cb, rfl, ?_⟩
      have h6 := h5.done b4 S4.heap
      have L4 := L3.then s4.nx S4.heap
      by_cases hcb : cb = b
      · rw [if_pos (by rw [hcb])] at h6
        rw [if_pos hcb]
        exact h6.done b4 S4.heap _ rfl
      · rw [if_neg (fun z => hcb (Option.some.inj z))] at h6
        rw [if_neg hcb]
        exact ⟨m4, st4, L4, h6⟩
    · intro m3 st3 H3 hr3 b3 x3 h3
      have h6 := h3.done b3 hr3
      rw [if_neg (fun z => nomatch z)] at h6
      exact ⟨m3, st3, L2.then x3 hr3, h6⟩
  · have hi' : i = src.vals.length := by omega
    have hdrop : src.vals.drop i = [] := List.drop_eq_nil_of_le (by omega)
    rw [hdrop] at hp
    obtain ⟨hgo, hp⟩ := seekL_nil hp
    rw [← hgd] at hgo
    obtain ⟨_, y1⟩ := yield_ok S1 hJ L (Gd.ok_S hgo) i
    exact .inl ⟨y1 hi'.symm, hp.done b' L.rel _ rfl⟩
end
end D


set_option Elab.async false
set_option linter.all false
set_option maxHeartbeats 2000000
set_option maxRecDepth 100000
/-! DT: comprehensions of one clause, any kind. -/
namespace D
open PySem PySem.Spec PyProof.Rows L2
open Sem (wp)
/-- what an item's making is: where the accumulator is, what is wanted behind, behind an exception -/
abbrev StepK := Env → Addr → (Shared → Prop) → (Value → Shared → Prop) → Shared → Prop
/-- a kind of comprehension -/
structure CompK (prog : Program) (w : World) (A : Around) (e tg iter : Expr) (ifs : List Expr) (newAcc : Sem Value) (ob0 : Obj) (u0 : Addr → HO) (step : StepK) : Prop where
  cl : clausesOf e = [⟨tg, iter, ifs, 0⟩]
  new : ∀ (s : Shared) (Q : Value → Shared → Prop) (E : Value → Shared → Prop), Q (.ref s.heap.objs.size) { s with heap := s.heap.push ob0 } → wpAny (model prog w) A newAcc Q E s
  free : ob0.isFreed = false
  ob : ∀ (H : Hp) (h : Heap), sysModules < h.objs.size → ObjOk prog w (upd H h.objs.size (u0 h.objs.size)) (h.push ob0) h.objs.size (u0 h.objs.size)
  mono : ∀ env acc P P' E E' s, step env acc P E s → (∀ s, P s → P' s) → (∀ e s, E e s → E' e s) → step env acc P' E' s
  loop : ∀ (it : Value) (acc : Addr) (env : Env) (R : Result → Shared → Prop) (I : Nat → Shared → Prop),
    (∀ n s, I n s → wpAny (model prog w) A (pyNext it) (fun r s₁ => match r with
      | none => R (.ok .next) s₁
      | some v => wpAny (model prog w) A (letOwnedTupleGo tg it v) (fun _ s₁' => wpAny (model prog w) A (assign tg env v) (fun _ s₂ =>
          wpAny (model prog w) A (forIn ifs true fun c r => if r = true then do let ok ← isTrue c env (eval c env); pure (ForInStep.yield ok) else pure (ForInStep.yield r)) (fun ok s₃ =>
            if ok = true then step env acc (fun s' => ∃ m, m < n ∧ I m s') (notedBy (model prog w) A env fun e s' => R (.error e) s') s₃
            else ∃ m, m < n ∧ I m s₃) (notedBy (model prog w) A env fun e s' => R (.error e) s') s₂) (notedBy (model prog w) A env fun e s' => R (.error e) s') s₁') (notedBy (model prog w) A env fun e s' => R (.error e) s') s₁) (notedBy (model prog w) A env fun e s' => R (.error e) s') s) →
    ∀ (n : Nat) (s : Shared), I n s → codeAny (model prog w) A (.compLoop e 0 it (.ref acc) env) R s
  start : ∀ (it : Value) (acc : Addr) (env : Env) (R : Result → Shared → Prop) (s : Shared), codeAny (model prog w) A (.compLoop e 0 it (.ref acc) env) R s →
    wpAny (model prog w) A (pyIter it) (fun it' s' => codeAny (model prog w) A (.compLoop e 0 it' (.ref acc) env) R s') (notedBy (model prog w) A env fun x s' => R (.error x) s') s → codeAny (model prog w) A (.compStart e 0 it (.ref acc) env) R s
section
variable {X : Cx}
/-- the item's part of a reading -/
abbrev TSt := L2.St → Hp → Addr → (Hp → Prop) → Prop
def PStep (Y : Cx) (step : StepK) (t : TSt) : Prop := ∀ (pins : List (Addr × Obj)) (s : Shared) (σ : L2.St) (H : Hp) (D : Addr) (Post : Hp → Prop), Inv Y pins σ H s → t σ H D Post →
  step Y.env D (fun s' => ∃ H', Inv Y pins σ H' s' ∧ Post H') (fun _ _ => False) s
def tCk (u0 : Addr → HO) (wi : TI) (g : TG) (tt : TT) (ts : TSt) (vs : List Nat) : TE := fun σ H Q => wi σ H fun J H1 => ∀ D, H1 D = none → (D == sysModules) = false → ∃ W : Nat → Nat → Hp → Prop, (∃ m, W 0 m (upd H1 D (u0 D))) ∧ ∀ i m H, W i m H →
  (J.stop i H ∧ Q (.ref D) H) ∨ (J.go i H ∧ ∃ Nx : Hp → Prop, (∀ H', Nx H' → ∃ m', m' < m ∧ W (i + 1) m' H') ∧ ∀ x H', J.yld i H x H' → g x (L2.wipe σ vs) H' fun σ2 H2 => L2.wipe σ2 vs = L2.wipe σ vs ∧ tt σ2 H2 fun b H3 =>
    if b = true then ts σ2 H3 D Nx else Nx H3)
/-- a block of X's -/
abbrev blkE (X : Cx) (s : Shared) (scope : Scope) : Env := compEnvC scope (cellsFrom (s.heap.objs.size + 1) scope.names (cloFrom X.env.cells scope.names [])) s.heap.objs.size X.env
theorem comp_core {pins : List (Addr × Obj)} {s : Shared} {σ : L2.St} {H : Hp} {Q : VK} {e tg iter : Expr} {ifs : List Expr} {newAcc : Sem Value} {ob0 : Obj} {u0 : Addr → HO} {step : StepK} {scope : Scope} {own : List (Str × Nat)} {pos' : Pos} {wi : TI} {g : TG} {tt : TT} {ts : TSt} {use : Option (Value → Sem Unit)} {Qf : Value → Shared → Prop}
    (kd : CompK X.prog X.w X.A e tg iter ifs newAcc ob0 u0 step) (hc : X.calm = true) (hN : X.N.Nodup) (I : Inv X pins σ H s) (hi : PI X tg iter wi) (ok : BlkOk X.N X.env.scope scope own)
    (hb : ∀ (s : Shared) (H : Hp) (fp : List Addr) (pins : List (Addr × Obj)) (σ : L2.St), Inv X pins σ H s → PG (X.blk s H scope (blkE X s scope) fp) tg g ∧ PTs (X.blk s H scope (blkE X s scope) fp) ifs tt ∧ PStep (X.blk s H scope (blkE X s scope) fp) step ts)
    (hs : ∀ x, foldedSetIterable iter X.env x = pure x) (h : tCk u0 wi g tt ts (own.map (·.2)) σ H Q)
    (hRR : ∀ D C s' m H', Inv X pins σ H' s' → Q (.ref D) H' → s'.heap.Ns C m → FpOk X pins H' C → compPost (model X.prog X.w) X.A X.xe use Qf (.ref D) C (.ok .next) s') :
    wpAny (model X.prog X.w) X.A (comprehension e scope X.env pos' newAcc false (eval iter X.env) use) Qf X.xe s := by
  have hfree : ∀ y ∈ scope.names, y.2 = .free → ∃ c, X.env.cells.lookup y.1 = some c := fun y hy e => by
    rcases ok.free y hy e with k | k
    · exact I.ok.has _ (.inl k)
    · exact I.ok.has _ (.inr k)
  refine wpAny_comprehension_free (use := use) kd.cl hs (closure_ok hfree) ok.kind (fun y hy e => by rw [ok.uniq y hy, e])
    (thn (hi.run pins s σ H _ I h) fun xv s1 hx => thn hx fun itv s2 h2 => ?_)
  obtain ⟨it, fp, tn, J, H2, e1, I2, T, st2, f2, q⟩ := h2
  subst e1
  refine kd.new s2 _ _ (newEnv_comp ?_)
  generalize hD : s2.heap.objs.size = D
  have hDn : H2 D = none := I2.hok.fresh (Nat.le_of_eq hD)
  obtain ⟨W, ⟨m0, w0⟩, turn⟩ := q D hDn (beq_eq_false_iff_ne.mpr (by rw [← hD]; exact Nat.ne_of_gt I2.big))
  generalize hs3 : ({ s2 with heap := s2.heap.push ob0 } : Shared) = s3
  have I3 : Inv X pins σ (upd H2 D (u0 D)) s3 := by
    rw [← hs3, ← hD]
    exact I2.laid (t' := s2.toks) (fun b o e => Heap.get?_push_of_some _ e) (Nat.le_refl _) (kd.ob H2 s2.heap I2.big)
  have h3 : s3.heap = s2.heap.push ob0 := by rw [← hs3]
  have f3 : ∀ b ∈ fp, FpOk X pins (upd H2 D (u0 D)) b ∧ b < s3.heap.objs.size := fun b hb => by
    obtain ⟨o, eo, _⟩ := T.obj _ _ st2 b hb
    have hlt := Heap.lt_size eo
    refine ⟨⟨?_, (f2 b hb).2⟩, by rw [h3, Heap.size_push]; exact Nat.lt_succ_of_lt hlt⟩
    rw [upd_ne (by rw [← hD]; exact Nat.ne_of_lt hlt)]
    exact (f2 b hb).1
  have st3 : tn 0 s3.heap := T.keep _ _ _ st2 fun b _ o e => by rw [h3]; exact Heap.get?_push_of_some _ e
  have I4 : Inv (X.blk s3 (upd H2 D (u0 D)) scope (blkE X s3 scope) fp) [] (L2.wipe σ (own.map (·.2))) (upd H2 D (u0 D)) { s3 with heap := pushCells (s3.heap.push { cls := .type "dict", data := .dict #[] }) scope.names } := block_start I3 ok hN f3
  obtain ⟨pg, pt, ps⟩ := hb s3 (upd H2 D (u0 D)) fp pins σ I3
  show codeAny _ _ (.compStart e 0 (.ref it) (.ref D) (blkE X s3 scope)) (compPost (model X.prog X.w) X.A X.xe use Qf (.ref D) s3.heap.objs.size) { s3 with heap := pushCells (s3.heap.push { cls := .type "dict", data := .dict #[] }) scope.names }
  have nfp : ∀ b ∈ fp, (upd H2 D (u0 D)) b = none := fun b hb => (f3 b hb).1.1
  have cL : (blkE X s3 scope).locals = s3.heap.objs.size := rfl
  generalize hce : blkE X s3 scope = ce at I4 pg pt ps cL ⊢
  generalize hH3 : upd H2 D (u0 D) = H3 at I3 I4 pg pt ps w0 nfp f3
  generalize hs4 : ({ s3 with heap := pushCells (s3.heap.push { cls := .type "dict", data := .dict #[] }) scope.names } : Shared) = s4 at I4 ⊢
  have st4 : tn 0 s4.heap := T.keep _ _ _ st3 fun b _ o e => by rw [← hs4]; exact pushCells_keeps _ _ _ _ (Heap.get?_push_of_some _ e)
  have stat : ∀ {σ' : L2.St} {H' : Hp} {s' : Shared}, Inv (X.blk s3 H3 scope ce fp) [] σ' H' s' → (∀ b ∈ fp, H' b = none) → ∀ b ∈ fp, FpOk (X.blk s3 H3 scope ce fp) [] H' b := fun {σ' H' s'} I' hn b hb =>
    ⟨hn b hb, (I'.ok.exf b hb).1, I'.ok.exfs b hb, .inl hb, fun x c e => (I'.ok.exf b hb).2 x c e, fun p hp => absurd (show p ∈ ([] : List (Addr × Obj)) ++ [] from hp) (by simp)⟩
  have loop : codeAny (model X.prog X.w) X.A (.compLoop e 0 (.ref it) (.ref D) ce) (compPost (model X.prog X.w) X.A X.xe use Qf (.ref D) s3.heap.objs.size) s4 := by
    refine kd.loop _ _ _ _ (fun n s' => ∃ i H', Inv (X.blk s3 H3 scope ce fp) [] (L2.wipe σ (own.map (·.2))) H' s' ∧ tn i s'.heap ∧ (∀ b ∈ fp, H' b = none) ∧ W i n H') ?_ m0 _ ⟨0, H3, I4, st4, nfp, w0⟩
    rintro n s5 ⟨i, H5, I5, st5, n5, w5⟩
    rcases turn i n H5 w5 with ⟨stop, qq⟩ | ⟨go, Nx, hNx, stp⟩
    · refine thnF (T.done (X.blk s3 H3 scope ce fp) rfl rfl rfl hc i [] s5 _ H5 (fun _ _ => False) I5 (stat I5 n5) st5 stop) fun r s6 ⟨hr, I6⟩ => ?_
      subst hr
      have I7 : Inv X pins σ H5 s6 := I3.call' (ch := fp) I6.os I6.base I6.hok I6.bare fun b hb => ⟨(f3 b hb).1.2.2.2.1, (f3 b hb).1.2.1, (f3 b hb).1.2.2.2.2.1, (f3 b hb).1.2.2.2.2.2⟩
      have nC : H5 s3.heap.objs.size = none := by
        have z : H5 ce.locals = none := I6.free
        rw [cL] at z
        exact z
      obtain ⟨m, hn, _⟩ := I6.loc
      have hn : s6.heap.Ns ce.locals m := hn
      rw [cL] at hn
      exact hRR D s3.heap.objs.size s6 m H5 I7 qq hn (I3.fpOk (Nat.le_refl _) nC)
    · refine thnF (T.item (X.blk s3 H3 scope ce fp) rfl rfl rfl hc i [] s5 _ H5 (fun _ _ => False) I5 (stat I5 n5) st5 go) fun r s6 ⟨u, hr, h6⟩ => ?_
      subst hr
      refine thnF h6 fun _ s7 ⟨x, H7, I7, r7, y7, st7, n7⟩ => ?_
      have I7' := I7.pinned (stat I7 n7) (T.obj _ _ st7)
      refine thnF (pg.run _ s7 _ H7 x u _ I7' r7 (stp x H7 y7)) fun _ s8 ⟨σ8, H8, I8, hw8, q8⟩ => ?_
      refine thnF (pt.run _ s8 σ8 H8 _ I8 q8) fun b s9 ⟨H9, I9, q9⟩ => ?_
      have fin : ∀ {s' : Shared} {H' : Hp}, Inv (X.blk s3 H3 scope ce fp) ([] ++ pinsAt fp s7.heap) σ8 H' s' → Nx H' → ∃ m, m < n ∧ ∃ i H', Inv (X.blk s3 H3 scope ce fp) [] (L2.wipe σ (own.map (·.2))) H' s' ∧ tn i s'.heap ∧ (∀ b ∈ fp, H' b = none) ∧ W i m H' := fun {s' H'} I' nx => by
        obtain ⟨m', hm, w'⟩ := hNx H' nx
        have pin' : ∀ b ∈ fp, ∀ o, s7.heap.get? b = some o → s'.heap.get? b = some o ∧ H' b = none := fun b hb o e =>
          let z := I'.pin (b, o) (List.mem_append_right _ (List.mem_append_right _ (mem_pinsAt hb e)))
          ⟨z.1, z.2.1⟩
        have hl : (L2.wipe σ (own.map (·.2))).length = σ8.length := by rw [← hw8, wipe_length]
        refine ⟨m', hm, i + 1, H', (I'.unpinned (pins := [])).weak hl (fun j v e => ?_), T.keep _ _ _ st7 fun b hb o e => (pin' b hb o e).1, fun b hb => ?_, w'⟩
        · rw [← hw8] at e
          exact (wipe_some e).1
        · obtain ⟨o, e, _⟩ := T.obj _ _ st7 b hb
          exact (pin' b hb o e).2
      cases b with
      | false =>
        simp only [Bool.false_eq_true, if_false] at q9 ⊢
        exact fin I9 q9
      | true =>
        simp only [if_true] at q9 ⊢
        exact kd.mono _ _ _ _ _ _ _ (ps _ s9 σ8 H9 D Nx I9 q9) (fun s' ⟨H', I', nx⟩ => fin I' nx) fun _ _ z => z.elim
  exact kd.start _ _ _ _ _ loop (T.self X.A 0 _ _ _ st4 loop)
/-- as a value -/
theorem pe_ck {e tg iter : Expr} {ifs : List Expr} {newAcc : Sem Value} {ob0 : Obj} {u0 : Addr → HO} {step : StepK} {scope : Scope} {own : List (Str × Nat)} {pos' : Pos} {wi : TI} {g : TG} {tt : TT} {ts : TSt}
    (kd : CompK X.prog X.w X.A e tg iter ifs newAcc ob0 u0 step) (hc : X.calm = true) (hN : X.N.Nodup) (hi : PI X tg iter wi) (ok : BlkOk X.N X.env.scope scope own)
    (hb : ∀ (s : Shared) (H : Hp) (fp : List Addr) (pins : List (Addr × Obj)) (σ : L2.St), Inv X pins σ H s → PG (X.blk s H scope (blkE X s scope) fp) tg g ∧ PTs (X.blk s H scope (blkE X s scope) fp) ifs tt ∧ PStep (X.blk s H scope (blkE X s scope) fp) step ts)
    (hs : ∀ x, foldedSetIterable iter X.env x = pure x) (he : eval e X.env = comprehension e scope X.env pos' newAcc false (eval iter X.env)) : PE X e (tCk u0 wi g tt ts (own.map (·.2))) := by
  refine ⟨fun pins s σ H Q I h => ?_⟩
  rw [he]
  refine comp_core kd hc hN I hi ok hb hs h fun D C s' m H' I' q hn f => ⟨m, hn, fun h'' sb => ?_⟩
  obtain ⟨f0, f1, f2, f3, f4, f5⟩ := f
  exact ⟨.ref D, H', I'.turned (t' := s'.toks) (fun b o hb e => (sb.2 b hb).trans e) f0 f1 f3 f4 f5, rfl, q⟩
/-- name = [..] on one line, the name a local -/
theorem ps_setCk {i : Nat} {y : Str} {py spos : Pos} {e tg iter : Expr} {ifs : List Expr} {newAcc : Sem Value} {ob0 : Obj} {u0 : Addr → HO} {step : StepK} {scope : Scope} {own : List (Str × Nat)} {pos' : Pos} {wi : TI} {g : TG} {tt : TT} {ts : TSt}
    (kd : CompK X.prog X.w X.A e tg iter ifs newAcc ob0 u0 step) (hc : X.calm = true) (hN : X.N.Nodup) (hy : X.N[i]? = some y) (hyl : X.env.scope.names.lookup y = some .local) (hi : PI X tg iter wi) (ok : BlkOk X.N X.env.scope scope own)
    (hb : ∀ (s : Shared) (H : Hp) (fp : List Addr) (pins : List (Addr × Obj)) (σ : L2.St), Inv X pins σ H s → PG (X.blk s H scope (blkE X s scope) fp) tg g ∧ PTs (X.blk s H scope (blkE X s scope) fp) ifs tt ∧ PStep (X.blk s H scope (blkE X s scope) fp) step ts)
    (hs : ∀ x, foldedSetIterable iter X.env x = pure x)
    (he : exec (.Assign [.Name y py] e spos) X.env = (do standAt spos; let _ ← (do let _ ← comprehension e scope X.env pos' newAcc false (eval iter X.env) (some (assign (.Name y py) X.env)); pure ()); pure .next)) :
    PS X (.Assign [.Name y py] e spos) (tAsg (tCk u0 wi g tt ts (own.map (·.2))) (gName i)) := by
  refine ⟨fun pins s σ H D I h => ?_⟩
  rw [he]
  refine wpAny_bind (wpAny_standAt (wpAny_bind ?_))
  have h : tCk u0 wi g tt ts (own.map (·.2)) σ H (fun x H1 => gName i x σ H1 D.nx) := h
  refine wpAny_bind (thn (comp_core (Qf := fun _ s' => SP X pins D .next s') kd hc hN I hi ok hb hs h fun L C s' m H' I' q hn f => ?_) fun _ s' hq => wpAny_pure (wpAny_pure hq))
  show wpAny _ _ (assign (.Name y py) X.env (.ref L)) _ _ _
  refine wpAny_assign_Name (store_ok2 (v := V.ref L) I' hN hy (.inl hyl) rfl (fun s2 I2 ⟨a, sb, ha⟩ => ?_) (.inr hyl))
  obtain ⟨f0, f1, f2, f3, f4, f5⟩ := f
  have haC : C ≠ a := by
    rcases ha with z | z
    · rw [z]; exact f1
    · exact fun e => f4 y a z e.symm
  refine ⟨m, hn.sameBut sb haC, fun h3 sb3 => ?_⟩
  exact ⟨_, H', I2.turned (t' := s2.toks) (fun b o hb e => (sb3.2 b hb).trans e) f0 f1 f3 f4 f5, q⟩
end

/-! ### lists -/
def stepL (prog : Program) (w : World) (A : Around) (elt : Expr) : StepK := fun env D P E s => wpAny (model prog w) A (eval elt env) (fun x s₄ => wpAny (model prog w) A (call (.builtin "list.append") [.ref D, x]) (fun _ s₅ => P s₅) E s₄) E s
theorem listK {prog : Program} {w : World} {A : Around} {elt tg iter : Expr} {ifs : List Expr} {scope : Scope} {pos : Pos} : CompK prog w A (.ListComp elt [⟨tg, iter, ifs, 0⟩] scope pos) tg iter ifs (newList []) { cls := .type "list", data := .seq ([] : List Value).toArray } (fun _ => .lst []) (stepL prog w A elt) where
  cl := rfl
  new := fun s Q E h => wpAny_newObj_type h (by show 0 ≤ sizeLine; decide)
  free := rfl
  ob := fun H h hs => ⟨Nat.zero_le _, [], 0, .nil, Heap.get?_push_size _ rfl⟩
  mono := fun env acc P P' E E' s h h1 h2 => wpAny_mono h (fun x s4 h4 => wpAny_mono h4 (fun _ s5 h5 => h1 _ h5) h2) h2
  loop := fun it acc env R I turn n s h => compLoop_any I turn n h
  start := fun it acc env R s h1 h2 => codeAny_compStart_list h1 h2
def tsL (te : TE) : TSt := fun σ H D Post => te σ H fun y H4 => ∃ acc, H4 D = some (.lst acc) ∧ acc.length < sizeLine ∧ Post (upd H4 D (.lst (acc ++ [y])))
theorem ps_L {Y : Cx} {elt : Expr} {te : TE} (hx : Y.xe = fun _ _ => False) (h : PE Y elt te) : PStep Y (stepL Y.prog Y.w Y.A elt) (tsL te) := fun pins s σ H D Post I q => by
  have := h.run pins s σ H _ I q
  rw [hx] at this
  refine wpAny_mono this (fun v s1 ⟨y, H1, I1, r1, acc, h1, h2, h3⟩ => ?_) fun _ _ z => z
  exact app_ok I1 h1 h2 r1 fun s' I' => ⟨_, I', h3⟩
end D


set_option Elab.async false
set_option linter.all false
set_option maxHeartbeats 2000000
set_option maxRecDepth 100000
/-! DU: calls of one's own defs. -/
namespace D
open PySem PySem.Spec PyProof.Rows L2
section
variable (P : Program) (w : World) (K : PySem.W.Frag) (H : Hp) (m : Nat → Addr) (n : Nat)
/-- arguments: values; things lent -/
def ARel : SV → V → Prop
  | .t c false, _ => False
  | x, v => SVRel P w K H m n x v
def ARels : List SV → List V → Prop
  | [], ws => ws = []
  | x :: xs, ws => ∃ u us, ws = u :: us ∧ ARel P w K H m n x u ∧ ARels xs us
end
section
variable {P : Program} {w : World} {K : PySem.W.Frag} {H H' : Hp} {m m' : Nat → Addr} {n n' : Nat} {st : Store}
theorem ARel.sv {x : SV} {v : V} (r : ARel P w K H m n x v) : SVRel P w K H m n x v := by
  cases x with
  | v y => exact r
  | t c k => cases k with
    | true => exact r
    | false => exact r.elim
theorem ARel.step (h : HRel P w K H m st) (s : Step m st.length H m' n' H') {x : SV} {v : V} (r : ARel P w K H m st.length x v) : ARel P w K H' m' n' x v := by
  have r' := r.sv.step h s
  cases x with
  | v y => exact r'
  | t c k => cases k with
    | true => exact r'
    | false => exact r.elim
theorem ARels.step (h : HRel P w K H m st) (s : Step m st.length H m' n' H') : ∀ {xs : List SV} {vs : List V}, ARels P w K H m st.length xs vs → ARels P w K H' m' n' xs vs
  | [], _, r => r
  | _ :: _, _, r => let ⟨u, us, e, r1, r2⟩ := r; ⟨u, us, e, r1.step h s, ARels.step h s r2⟩
theorem ARels.app : ∀ {xs ys : List SV} {vs ws : List V}, ARels P w K H m n xs vs → ARels P w K H m n ys ws → ARels P w K H m n (xs ++ ys) (vs ++ ws)
  | [], _, _, _, h, g => by cases h; exact g
  | _ :: _, _, _, _, h, g => by obtain ⟨u, us, rfl, r, rs⟩ := h; exact ⟨u, _, rfl, r, ARels.app rs g⟩
theorem ARels.len : ∀ {xs : List SV} {vs : List V}, ARels P w K H m n xs vs → xs.length = vs.length
  | [], _, h => by cases h; rfl
  | _ :: _, _, h => by obtain ⟨u, us, rfl, r, rs⟩ := h; simp [ARels.len rs]
end
section
variable (X : Cx) (W : WX) (XR : XRel)
def rdAs (ev : Sl → M (List SV)) : TA := fun σ H Q => ∃ (B : Hp) (ρ : Sl) (st : Store) (m : Nat → Addr), Sim X.prog X.w X.K H m ρ st σ ∧ Bs B m st.length H ∧
  PostM X.prog X.w X.K XR (WE W σ) B m st.length (fun vs m' st' H' => ∀ ws, ARels X.prog X.w X.K H' m' st'.length vs ws → Q ws H') (ev ρ st)
end
section
variable {X : Cx} {W : WX} {XR : XRel} {H H' B B' : Hp} {m m' : Nat → Addr} {st st' : Store} {ρ : Sl} {σ : L2.St} {α β : Type} {pos : Pos}
/-- an argument's way -/
theorem arg_ok {E : XK} {R : β → (Nat → Addr) → Store → Hp → Prop} {f : SV → M β} {x : EV} {v : V} {B0 : Hp} {ln : Bool} (S : Sim X.prog X.w X.K H m ρ st σ) (b : Bs B m st.length H)
    (r : EVRel X.prog X.w X.K H m st.length B0 ρ σ x v) (hb : ∀ a o, B a = some o → B0 a = some o)
    (ho : ∀ (i : Nat) (c : Cell) (k : Bool) (a : Addr), ρ[i]? = some (some (.t c k)) → σ[i]? = some (some (.ref a)) → ∃ o, B0 a = some o)
    (h : PostM X.prog X.w X.K XR E B m st.length R ((argOf ln x >>= f) st)) :
    ∃ y st2 m2, Sim X.prog X.w X.K H m2 ρ st2 σ ∧ Bs B m2 st2.length H ∧ ARel X.prog X.w X.K H m2 st2.length y v ∧ PostM X.prog X.w X.K XR E B m2 st2.length R (f y st2) := by
  cases x with
  | v z => exact ⟨.v z, st, m, S, b, r, h⟩
  | b i c =>
    obtain ⟨⟨k, e1⟩, e2⟩ := r
    obtain ⟨u, e3, hs⟩ := S.slot.get i _ e1
    rw [e2] at e3
    cases e3
    exact ⟨.t c true, st, m, S, b, hs, h⟩
  | t c =>
    cases ln with
    | true =>
      obtain ⟨a, e, hc, hn, hB⟩ := r
      exact ⟨.t c true, st, m, S, b, ⟨a, e, hc, hn⟩, h⟩
    | false =>
      have h' : PostM X.prog X.w X.K XR E B m st.length R ((intern (.t c) >>= fun y => f (.v y)) st) := h
      obtain ⟨y, st2, m2, S2, b2, ry, _, _, _, h2⟩ := intern_ok S b r hb ho h'
      exact ⟨.v y, st2, m2, S2, b2, ry, h2⟩
theorem s_asNil {Γ : Calls} : PA X [] (rdAs X W XR (evalAs Γ .nil)) := PA.imp pa_nil fun σ H Q ⟨B, ρ, st, m, S, b, h⟩ => by
  simp only [evalAs] at h
  exact h.done b S.heap _ rfl
theorem s_asCons {ee : Sl → M EV} {er : Sl → M (List SV)} {e : Expr} {es : List Expr} {ln : Bool} (he : PE X e (rdE X W XR ee)) (hr : PA X es (rdAs X W XR er))
    (hs : starEach (e :: es) X.env = (false, eval e X.env) :: starEach es X.env) :
    PA X (e :: es) (rdAs X W XR fun ρ => do
      let x ← ee ρ
      let v ← argOf ln x
      let vs ← er ρ
      .pure (v :: vs)) := by
  refine PA.imp (pa_cons he hr hs) fun σ H Q ⟨B, ρ, st, m, S, b, h⟩ => ?_
  refine rd_seq S b h fun x v m1 st1 H1 s1 S1 b1 rx h1 => ?_
  obtain ⟨y, st2, m2, S2, b2, ry, h2⟩ := arg_ok S1 b1 rx b.le_out (fun i c k a e1 e2 => own_out S e1 e2) h1
  refine ⟨outB H1 m2 st2.length, ρ, st2, m2, S2, bs_out _ _ _, ?_⟩
  refine (PostM.bind h2).more b2.le_out |>.imp fun vs m3 st3 H3 x3 hr3 h3 ws rw => ?_
  have s3 := x3.step hr3
  exact h3.done (bs_more b2 x3) hr3 (v :: ws) ⟨v, ws, rfl, ry.step S2.heap s3, rw⟩

/-- what stands from the start on: tables, the script -/
structure Tz where
  tabs : List Addr
  scr : V → Option (List Int)
def ZOk (K : PySem.W.Frag) (z : Tz) (H : Hp) : Prop := (∀ T ∈ z.tabs, ∃ ps, H T = some (.tbl ps)) ∧ ScrOk K H z.scr
theorem ZOk.un {K : PySem.W.Frag} {z : Tz} {fs ex : List Addr} {H H' : Hp} {h h' : Heap} (u : Un fs ex H H' h h') (q : ZOk K z H) : ZOk K z H' := ⟨fun T hT => let ⟨ps, e⟩ := q.1 T hT; let ⟨more, e2⟩ := u.tbls T ps e; ⟨_, e2⟩, fun c ns e => by
  obtain ⟨a, e1, e2⟩ := q.2 c ns e
  refine ⟨a, e1, ?_⟩
  rcases e2 with ⟨o, e2⟩ | e2
  · exact .inl ⟨o, u.frzs a o _ e2⟩
  · exact .inr e2⟩
/-- a def's promise: it does what the evaluator says -/
def spD (P : Program) (w : World) (K : PySem.W.Frag) (XR : XRel) (tabs : Tz) (np : Nat) (run : List SV → M EV) : Sp := fun vs H Q E => vs.length = np ∧ ZOk K tabs H ∧
  ∃ (B : Hp) (st : Store) (m : Nat → Addr) (as : List SV), HRel P w K H m st ∧ Bs B m st.length H ∧ ARels P w K H m st.length as vs ∧
    PostM P w K XR E B m st.length (fun x m' st' H' => ∀ v, EVRel P w K H' m' st'.length B [] [] x v → Q v H') (run as st)
theorem EVRel.nil {P : Program} {w : World} {K : PySem.W.Frag} {n : Nat} {x : EV} {v : V} (hb : ∀ i c, x ≠ .b i c) (r : EVRel P w K H m n B ρ σ x v) : EVRel P w K H m n B [] [] x v := by
  cases x with
  | b i c => exact absurd rfl (hb i c)
  | _ => exact r
theorem EVRel.wide {P : Program} {w : World} {K : PySem.W.Frag} {n : Nat} {x : EV} {v : V} (r : EVRel P w K H m n B [] [] x v) : EVRel P w K H m n B ρ σ x v := by
  cases x with
  | b i c => obtain ⟨⟨k, e⟩, _⟩ := r; simp at e
  | _ => exact r
end
section
variable {X : Cx} {W : WX} {XR : XRel} {k : Nat} {f : Addr} {fd : FuncData} {ps : List Str} {tabs : Tz} {run : List SV → M EV} {ds : List Value} {dvs : List V} {dxs : List Val} {x : Str} {p pos : Pos}
theorem dvs_rel (hdv : ∀ (H : Hp) (m : Nat → Addr) (n : Nat), VRels X.K H m n dxs dvs) (H : Hp) (m : Nat → Addr) (n : Nat) : ARels X.prog X.w X.K H m n (dxs.map .v) dvs := by
  have h := hdv H m n
  clear hdv
  induction dxs generalizing dvs with
  | nil => cases h; exact rfl
  | cons y ys ih => obtain ⟨u, us, rfl, r, rs⟩ := h; exact ⟨u, us, rfl, r, ih rs⟩
theorem s_call {ev : Sl → M (List SV)} {e : Expr} {es : List Expr} (F : FnOk X.prog X.w X.K X.mg X.base (L2.CX X.prog X.w) k f fd ps (spD X.prog X.w X.K XR tabs ps.length run)) (hr : Room k X.A) (hg : Gl X x) (hm : X.mg x = some (.ref f)) (hk : PySem.W.keepIn X.K (.ref f) = true)
    (hb : Binds X.K fd ps ds) (hd : Vals dvs ds) (hdv : ∀ (H : Hp) (m : Nat → Addr) (n : Nat), VRels X.K H m n dxs dvs) (tk : Takes X W) (ht : ZOk X.K tabs X.H_0) (hnp : (e :: es).length + dvs.length = ps.length)
    (ha : PA X (e :: es) (rdAs X W XR ev)) (hlen : ∀ ρ st vs st', ev ρ st = .ok vs st' → vs.length = (e :: es).length) (hdb : (x == ("__debug__" : Str)) = false) (ho : (e :: es).all okE = true) :
    PE X (.Call (.Name x p) (e :: es) [] pos) (rdE X W XR fun ρ => do let vs ← ev ρ; run (vs ++ dxs.map .v)) := by
  have h1 : okE e = true := by simp only [List.all_cons, Bool.and_eq_true] at ho; exact ho.1
  have h2 : es.all okE = true := by simp only [List.all_cons, Bool.and_eq_true] at ho; exact ho.2
  refine ⟨fun pins s σ H Q I ⟨B, ρ, st, m, S, b, h⟩ => ?_⟩
  refine wpAny_Call_Name_kw (ld_glob I hg hm ?_ hdb)
  refine PySem.W.callWith_K (h₀ := X.base) I.ok.mod.kin hk (thn (ha.run pos pins s σ H (fun ws H1 => ∃ as m1 st1, Sim X.prog X.w X.K H1 m1 ρ st1 σ ∧ Bs B m1 st1.length H1 ∧ ARels X.prog X.w X.K H1 m1 st1.length as ws ∧ as.length = (e :: es).length ∧
    PostM X.prog X.w X.K XR (WE W σ) B m1 st1.length (RQ X B ρ σ Q) (run (as ++ dxs.map .v) st1)) I ⟨outB H m st.length, ρ, st, m, S, bs_out _ _ _, ?_⟩) fun us s1 ⟨ws, H1, I1, r, as, m1, st1, S1, b1, ra, hal, h3⟩ => ⟨I1.kIn, ?_⟩) (star_ok h1 es X.env) (star_none X.env pos h2)
  · have h' := PostM.bind h
    have hl := hlen ρ st
    have h' := h'.more b.le_out
    cases q : ev ρ st with
    | ok as st1 =>
      rw [q] at h'
      intro m1 H1 x1 hr1 ws rw
      have h2 := h' m1 H1 x1 hr1
      have s1 := x1.step hr1
      exact ⟨as, m1, st1, S.step s1 hr1, bs_more b x1, rw, hl as st1 q, h2⟩
    | exc c pl st1 => rw [q] at h'; exact h'
    | stuck => rw [q] at h'; exact h'
  · refine run_fnSD (dvs := dvs) (E := WE W) F hr hb hd (passAt tk σ) I1 r ⟨?_, ht.un I1.base, B, st1, m1, as ++ dxs.map .v, S1.heap, b1, ra.app (dvs_rel hdv H1 m1 st1.length), h3.imp fun z m' st' H' x' hr' h4 v rv => h4 v rv.wide⟩
    · rw [List.length_append, ← ra.len, hal]
      exact hnp
theorem s_call0 (F : FnOk X.prog X.w X.K X.mg X.base (L2.CX X.prog X.w) k f fd ps (spD X.prog X.w X.K XR tabs ps.length run)) (hr : Room k X.A) (hg : Gl X x) (hm : X.mg x = some (.ref f)) (hk : PySem.W.keepIn X.K (.ref f) = true)
    (hb : Binds X.K fd ps ds) (hd : Vals dvs ds) (hdv : ∀ (H : Hp) (m : Nat → Addr) (n : Nat), VRels X.K H m n dxs dvs) (tk : Takes X W) (ht : ZOk X.K tabs X.H_0) (hnp : dvs.length = ps.length) (hdb : (x == ("__debug__" : Str)) = false) :
    PE X (.Call (.Name x p) [] [] pos) (rdE X W XR fun ρ => run (dxs.map .v)) := by
  refine ⟨fun pins s σ H Q I ⟨B, ρ, st, m, S, b, h⟩ => ?_⟩
  refine wpAny_Call_Name_kw (ld_glob I hg hm ?_ hdb)
  refine PySem.W.callWith_K0 I.kIn hk (run_fnSD (us := []) (dvs := dvs) (E := WE W) F hr hb hd (passAt tk σ) I .nil ⟨hnp, ht.un I.base, B, st, m, dxs.map .v, S.heap, b, dvs_rel hdv H m st.length, h.imp fun z m' st' H' x' hr' h4 v rv => h4 v rv.wide⟩)
end
end D


set_option Elab.async false
set_option linter.all false
set_option maxHeartbeats 2000000
set_option maxRecDepth 100000
/-! DV: statements. -/
namespace D
open PySem PySem.Spec PyProof.Rows L2
/-- what slots own is none of what stays -/
def OutS (B : Hp) (ρ : Sl) (σ : L2.St) : Prop := ∀ (i : Nat) (c : Cell) (a : Addr), ρ[i]? = some (some (.t c false)) → σ[i]? = some (some (.ref a)) → B a = none
/-- what is lent or locked behind was so before -/
def KeepK (ρ : Sl) (σ : L2.St) (ρ' : Sl) (σ' : L2.St) : Prop := ∀ (i : Nat) (c : Cell), ρ'[i]? = some (some (.t c true)) → ρ[i]? = some (some (.t c true)) ∧ σ'[i]? = σ[i]?
theorem KeepK.refl (ρ : Sl) (σ : L2.St) : KeepK ρ σ ρ σ := fun i c e => ⟨e, rfl⟩
theorem KeepK.trans {ρ ρ1 ρ2 : Sl} {σ σ1 σ2 : L2.St} (a : KeepK ρ σ ρ1 σ1) (b : KeepK ρ1 σ1 ρ2 σ2) : KeepK ρ σ ρ2 σ2 := fun i c e => by
  obtain ⟨e1, e2⟩ := b i c e
  obtain ⟨e3, e4⟩ := a i c e1
  exact ⟨e3, e2.trans e4⟩
section
variable (P : Program) (w : World) (K : PySem.W.Frag) (XR : XRel) (W : WX) (B : Hp) (m : Nat → Addr) (n : Nat) (ρ : Sl) (σ : L2.St) (D : Ends)
def PostS : SRes → Prop
  | .nx ρ' st' => ∀ (m' : Nat → Addr) (σ' : L2.St) (H' : Hp), Nx B m n m' st'.length H' → Sim P w K H' m' ρ' st' σ' → OutS B ρ' σ' → KeepK ρ σ ρ' σ' → D.nx σ' H'
  | .bk ρ' st' => ∀ (m' : Nat → Addr) (σ' : L2.St) (H' : Hp), Nx B m n m' st'.length H' → Sim P w K H' m' ρ' st' σ' → OutS B ρ' σ' → KeepK ρ σ ρ' σ' → D.bk σ' H'
  | .ct ρ' st' => ∀ (m' : Nat → Addr) (σ' : L2.St) (H' : Hp), Nx B m n m' st'.length H' → Sim P w K H' m' ρ' st' σ' → OutS B ρ' σ' → KeepK ρ σ ρ' σ' → D.ct σ' H'
  | .rt x st' => ∀ (m' : Nat → Addr) (H' : Hp) (v : V), Nx B m n m' st'.length H' → HRel P w K H' m' st' → EVRel P w K H' m' st'.length B [] [] x v → D.rt v H'
  | .ex c pl ρ' st' => ∀ (m' : Nat → Addr) (σ' : L2.St) (H' : Hp) (u : Value) (dx : Option Addr), Nx B m n m' st'.length H' → Sim P w K H' m' ρ' st' σ' → OutS B ρ' σ' → KeepK ρ σ ρ' σ' → XR c pl m' st'.length u dx H' → W u dx σ' H'
  | .stuck => False
end
def rdS (X : Cx) (W : WX) (XR : XRel) (ev : Sl → Store → SRes) : TS := fun D σ H => ∃ (B : Hp) (ρ : Sl) (st : Store) (m : Nat → Addr), Sim X.prog X.w X.K H m ρ st σ ∧ Bs B m st.length H ∧ OutS B ρ σ ∧ PostS X.prog X.w X.K XR W B m st.length ρ σ D (ev ρ st)
section
variable {P : Program} {w : World} {K : PySem.W.Frag} {XR : XRel} {W : WX} {B : Hp} {m m' : Nat → Addr} {n n' : Nat} {ρ ρ' : Sl} {σ σ' : L2.St} {D : Ends} {H H' : Hp} {st st' : Store}
theorem PostS.from {r : SRes} (x : Nx B m n m' n' H') (k : KeepK ρ σ ρ' σ') (h : PostS P w K XR W B m n ρ σ D r) : PostS P w K XR W B m' n' ρ' σ' D r := by
  cases r with
  | nx ρ2 st2 => exact fun m2 σ2 H2 y s o k2 => h m2 σ2 H2 (x.trans y fun _ _ e => e) s o (k.trans k2)
  | bk ρ2 st2 => exact fun m2 σ2 H2 y s o k2 => h m2 σ2 H2 (x.trans y fun _ _ e => e) s o (k.trans k2)
  | ct ρ2 st2 => exact fun m2 σ2 H2 y s o k2 => h m2 σ2 H2 (x.trans y fun _ _ e => e) s o (k.trans k2)
  | rt z st2 => exact fun m2 H2 v y hr r => h m2 H2 v (x.trans y fun _ _ e => e) hr r
  | ex c pl ρ2 st2 => exact fun m2 σ2 H2 u dx y s o k2 xr => h m2 σ2 H2 u dx (x.trans y fun _ _ e => e) s o (k.trans k2) xr
  | stuck => exact h
theorem Nx.small {C : Hp} (hb : ∀ a o, B a = some o → C a = some o) (x : Nx C m n m' n' H') : Nx B m n m' n' H' := ⟨x.le, x.agree, fun a o e => x.keep a o (hb a o e), fun l h1 h2 => by
  have := x.fresh l h1 h2
  cases q : B (m' l) with
  | none => rfl
  | some o => rw [hb _ _ q] at this; cases this⟩
/-- the expression, then the rest -/
theorem PostS.toM {α : Type} {g : M α} {k : α → Store → SRes} (S : Sim P w K H m ρ st σ) (b : Bs B m st.length H) (o : OutS B ρ σ) (h : PostS P w K XR W B m st.length ρ σ D (toS g ρ k st)) :
    PostM P w K XR (WE W σ) (outB H m st.length) m st.length (fun a m1 st1 H1 => Sim P w K H1 m1 ρ st1 σ ∧ Bs B m1 st1.length H1 ∧ PostS P w K XR W B m1 st1.length ρ σ D (k a st1)) (g st) := by
  unfold toS at h
  cases e : g st with
  | ok a st1 =>
    rw [e] at h
    intro m1 H1 x1 hr1
    exact ⟨S.step (x1.step hr1) hr1, (Nx.small b.le_out x1).bs b, PostS.from (Nx.small b.le_out x1) (.refl _ _) h⟩
  | exc c pl st1 =>
    rw [e] at h
    exact fun m1 H1 u dx x1 hr1 xr => h m1 σ H1 u dx (Nx.small b.le_out x1) (S.step (x1.step hr1) hr1) o (.refl _ _) xr
  | stuck => rw [e] at h; exact h.elim
theorem PostS.nx (h : PostS P w K XR W B m st.length ρ σ D (.nx ρ' st)) (b : Bs B m st.length H) (S : Sim P w K H m ρ' st σ') (o : OutS B ρ' σ') (k : KeepK ρ σ ρ' σ') : D.nx σ' H := h m σ' H (Nx.refl b) S o k
mutual
theorem assign_v : ∀ (t : T) (x : Val) (ρ ρ2 : Sl), assignT t x ρ = some ρ2 → ∀ i ∈ t.ids, ∃ v, ρ2[i]? = some (some (.v v))
  | .nm j, x, ρ, ρ2, h, i, hi => by
    simp only [assignT] at h
    split at h
    · rename_i hl
      cases h
      have : i = j := by simpa [T.ids] using hi
      subst this
      exact ⟨x, List.getElem?_set_self hl⟩
    · cases h
  | .tup ts, .tup vs, ρ, ρ2, h, i, hi => assigns_v ts vs ρ ρ2 h i (by simpa [T.ids] using hi)
  | .tup ts, .non, ρ, ρ2, h, i, hi | .tup ts, .bool _, ρ, ρ2, h, i, hi | .tup ts, .int _, ρ, ρ2, h, i, hi | .tup ts, .str _, ρ, ρ2, h, i, hi | .tup ts, .loc _, ρ, ρ2, h, i, hi | .tup ts, .cst _, ρ, ρ2, h, i, hi => by simp [assignT] at h
theorem assigns_v : ∀ (ts : List T) (xs : List Val) (ρ ρ2 : Sl), assignTs ts xs ρ = some ρ2 → ∀ i ∈ idsL ts, ∃ v, ρ2[i]? = some (some (.v v))
  | [], [], _, _, h, i, hi => by simp [idsL] at hi
  | [], _ :: _, _, _, h, _, _ => by simp [assignTs] at h
  | _ :: _, [], _, _, h, _, _ => by simp [assignTs] at h
  | t :: ts, x :: xs, ρ, ρ2, h, i, hi => by
    simp only [assignTs, Option.bind_eq_some_iff] at h
    obtain ⟨ρ1, h1, h2⟩ := h
    by_cases hc : i ∈ idsL ts
    · exact assigns_v ts xs ρ1 ρ2 h2 i hc
    · have hi' : i ∈ t.ids := by
        simp only [idsL, List.mem_append] at hi
        exact hi.resolve_right hc
      obtain ⟨v, e⟩ := assign_v t x ρ ρ1 h1 i hi'
      exact ⟨v, by rw [assigns_same ts xs ρ1 ρ2 h2 i hc]; exact e⟩
theorem assign_same : ∀ (t : T) (x : Val) (ρ ρ2 : Sl), assignT t x ρ = some ρ2 → ∀ i, i ∉ t.ids → ρ2[i]? = ρ[i]?
  | .nm j, x, ρ, ρ2, h, i, hi => by
    simp only [assignT] at h
    split at h
    · cases h
      exact List.getElem?_set_ne (fun z => hi (by simp [T.ids, z]))
    · cases h
  | .tup ts, .tup vs, ρ, ρ2, h, i, hi => assigns_same ts vs ρ ρ2 h i (by simpa [T.ids] using hi)
  | .tup ts, .non, ρ, ρ2, h, i, hi | .tup ts, .bool _, ρ, ρ2, h, i, hi | .tup ts, .int _, ρ, ρ2, h, i, hi | .tup ts, .str _, ρ, ρ2, h, i, hi | .tup ts, .loc _, ρ, ρ2, h, i, hi | .tup ts, .cst _, ρ, ρ2, h, i, hi => by simp [assignT] at h
theorem assigns_same : ∀ (ts : List T) (xs : List Val) (ρ ρ2 : Sl), assignTs ts xs ρ = some ρ2 → ∀ i, i ∉ idsL ts → ρ2[i]? = ρ[i]?
  | [], [], _, _, h, i, hi => by cases h; rfl
  | [], _ :: _, _, _, h, _, _ => by simp [assignTs] at h
  | _ :: _, [], _, _, h, _, _ => by simp [assignTs] at h
  | t :: ts, x :: xs, ρ, ρ2, h, i, hi => by
    simp only [assignTs, Option.bind_eq_some_iff] at h
    obtain ⟨ρ1, h1, h2⟩ := h
    simp only [idsL, List.mem_append, not_or] at hi
    rw [assigns_same ts xs ρ1 ρ2 h2 i hi.2, assign_same t x ρ ρ1 h1 i hi.1]
end
/-- a target is given what an expression gave -/
theorem assign1_ok {t : T} {x : EV} {v : V} {B0 : Hp} {Q : L2.St → Hp → Prop} (S : Sim P w K H m ρ st σ) (o : OutS B ρ σ) (hb : ∀ a o, B a = some o → B0 a = some o) (ho : ∀ (i : Nat) (c : Cell) (k : Bool) (a : Addr), ρ[i]? = some (some (.t c k)) → σ[i]? = some (some (.ref a)) → ∃ o, B0 a = some o)
    (r : EVRel P w K H m st.length B0 ρ σ x v) (h : assign1 t x ρ = some ρ') (k : ∀ σ', Sim P w K H m ρ' st σ' → OutS B ρ' σ' → KeepK ρ σ ρ' σ' → Q σ' H) : tG K t v σ H Q := by
  have val : ∀ y, x = .v y → assignT t y ρ = some ρ' → tG K t v σ H Q := fun y e h' => by
    subst e
    refine tG_ok t y v ρ ρ' σ Q h' r S.slot fun σ2 S2 k2 => ?_
    have no : ∀ i c b, ρ'[i]? = some (some (.t c b)) → i ∉ t.ids := fun i c b e hi => by
      obtain ⟨z, ez⟩ := assign_v t y ρ ρ' h' i hi
      rw [ez] at e
      cases e
    refine k σ2 ⟨S.heap, S2⟩ (fun i c a e1 e2 => ?_) fun i c e => ?_
    · obtain ⟨g1, g2⟩ := k2 i (no i c false e1)
      rw [g2] at e1
      rw [g1] at e2
      exact o i c a e1 e2
    · obtain ⟨g1, g2⟩ := k2 i (no i c true e)
      rw [g2] at e
      exact ⟨e, g1⟩
  cases x with
  | v y =>
    refine val y rfl ?_
    cases t <;> exact h
  | t c =>
    cases t with
    | nm i =>
      simp only [assign1] at h
      split at h
      · rename_i hl
        cases h
        obtain ⟨a, rfl, hc, hn, hB⟩ := r
        have hl' : i < σ.length := by rw [← S.slot.len]; exact hl
        have ne : ∀ j d b u, j ≠ i → ρ[j]? = some (some (.t d b)) → σ[j]? = some (some u) → u ≠ .ref a := fun j d b u hj e1 e2 z => by
          subst z
          obtain ⟨ob, e3⟩ := ho j d b a e1 e2
          rw [hB] at e3
          cases e3
        refine k _ ⟨S.heap, ⟨fun j y e => ?_, fun j l d d' b u e1 e2 e3 e4 => ?_, by simp [S.slot.len]⟩⟩ (fun j d a' e1 e2 => ?_) fun j d e => ?_
        · by_cases hj : i = j
          · subst hj
            rw [List.getElem?_set_self hl] at e
            cases e
            exact ⟨.ref a, List.getElem?_set_self hl', ⟨a, rfl, hc, hn⟩⟩
          · rw [List.getElem?_set_ne hj] at e ⊢
            exact S.slot.get j y e
        · by_cases hj : i = j
          · by_cases hk : i = l
            · omega
            · exfalso
              subst hj
              rw [List.getElem?_set_ne hk] at e2 e4
              rw [List.getElem?_set_self hl'] at e3
              cases e3
              exact ne l d' b _ (fun z => hk z.symm) e2 e4 rfl
          · rw [List.getElem?_set_ne hj] at e1 e3
            by_cases hk : i = l
            · exfalso
              subst hk
              rw [List.getElem?_set_self hl'] at e4
              cases e4
              exact ne j d false _ (fun z => hj z.symm) e1 e3 rfl
            · rw [List.getElem?_set_ne hk] at e2 e4
              exact S.slot.own j l d d' b u e1 e2 e3 e4
        · by_cases hj : i = j
          · subst hj
            rw [List.getElem?_set_self hl'] at e2
            cases e2
            cases q : B a with
            | none => rfl
            | some ob => rw [hb a ob q] at hB; cases hB
          · rw [List.getElem?_set_ne hj] at e1 e2
            exact o j d a' e1 e2
        · by_cases hj : i = j
          · subst hj
            rw [List.getElem?_set_self hl] at e
            cases e
          · rw [List.getElem?_set_ne hj] at e ⊢
            exact ⟨e, rfl⟩
      · cases h
    | tup ts => simp [assign1] at h
  | b i c => cases t <;> simp [assign1] at h
end
end D


set_option Elab.async false
set_option linter.all false
set_option maxHeartbeats 2000000
set_option maxRecDepth 100000
/-! DW: statements, one by one. -/
namespace D
open PySem PySem.Spec PyProof.Rows L2
section
variable {X : Cx} {XR : XRel} {W : WX} {B : Hp} {m m' : Nat → Addr} {n n' : Nat} {ρ ρ' : Sl} {σ σ' : L2.St} {D : Ends} {H H' : Hp} {st st' : Store} {pos : Pos}
theorem PS.imp {s : Stmt} {t t' : TS} (h : PS X s t) (hi : ∀ D σ H, t' D σ H → t D σ H) : PS X s t' := ⟨fun pins s σ H D I q => h.run pins s σ H D I (hi D σ H q)⟩
theorem PSs.imp {s : List Stmt} {t t' : TS} (h : PSs X s t) (hi : ∀ D σ H, t' D σ H → t D σ H) : PSs X s t' := ⟨fun pins s σ H D I q => h.run pins s σ H D I (hi D σ H q)⟩
/-- from the statement to its expression -/
theorem rdS_E {ea : Sl → M EV} {k : Sl → EV → Store → SRes} {Q : VK} (h : rdS X W XR (fun ρ => toS (ea ρ) ρ (k ρ)) D σ H)
    (hq : ∀ (B : Hp) (ρ : Sl) (st0 : Store) (m0 : Nat → Addr) (H0 : Hp) (x : EV) (v : V) (m1 : Nat → Addr) (st1 : Store) (H1 : Hp), Sim X.prog X.w X.K H0 m0 ρ st0 σ → Bs B m0 st0.length H0 → OutS B ρ σ → Sim X.prog X.w X.K H1 m1 ρ st1 σ → Bs B m1 st1.length H1 →
      EVRel X.prog X.w X.K H1 m1 st1.length (outB H0 m0 st0.length) ρ σ x v → PostS X.prog X.w X.K XR W B m1 st1.length ρ σ D (k ρ x st1) → Q v H1) : rdE X W XR ea σ H Q := by
  obtain ⟨B, ρ, st, m, S, b, o, h⟩ := h
  exact ⟨outB H m st.length, ρ, st, m, S, bs_out _ _ _, (h.toM S b o).imp fun x m1 st1 H1 x1 hr1 ⟨S1, b1, h1⟩ v rv => hq B ρ st m H x v m1 st1 H1 S b o S1 b1 rv h1⟩
theorem rd_asg {ea : Sl → M EV} {t : T} (h : rdS X W XR (fun ρ => toS (ea ρ) ρ (asgK t ρ)) D σ H) : tAsg (rdE X W XR ea) (tG X.K t) D σ H := by
  refine rdS_E h fun B ρ st0 m0 H0 x v m1 st1 H1 S b o S1 b1 rv h1 => ?_
  unfold asgK at h1
  cases e : assign1 t x ρ with
  | none => rw [e] at h1; exact h1.elim
  | some ρ' =>
    rw [e] at h1
    exact assign1_ok S1 o b.le_out (fun i c k a e1 e2 => own_out S e1 e2) rv e fun σ' S' o' k' => h1.nx b1 S' o' k'
theorem rd_exp {ea : Sl → M EV} (h : rdS X W XR (fun ρ => toS (ea ρ) ρ fun _ st => .nx ρ st) D σ H) : tDrop (rdE X W XR ea) D σ H := by
  refine rdS_E h fun B ρ st0 m0 H0 x v m1 st1 H1 S b o S1 b1 rv h1 => ?_
  exact h1.nx b1 S1 o (.refl _ _)
theorem rd_ret {ea : Sl → M EV} (h : rdS X W XR (fun ρ => toS (ea ρ) ρ (retK ρ)) D σ H) : tRet (rdE X W XR ea) D σ H := by
  refine rdS_E h fun B ρ st0 m0 H0 x v m1 st1 H1 S b o S1 b1 rv h1 => ?_
  unfold retK at h1
  cases e : given ρ x with
  | none => rw [e] at h1; exact h1.elim
  | some y =>
    rw [e] at h1
    refine h1 m1 H1 v (Nx.refl b1) S1.heap ?_
    cases x with
    | v z => cases e; exact rv
    | t c => cases e; exact EVRel.less b.le_out rv
    | b i c =>
      simp only [given] at e
      split at e
      · rename_i e1
        cases e
        obtain ⟨_, e2⟩ := rv
        obtain ⟨u, e3, a, rfl, hc, hn⟩ := S1.slot.get i _ e1
        rw [e2] at e3
        cases e3
        exact ⟨a, rfl, hc, hn, o i c a e1 e2⟩
      · cases e
theorem rd_if {ec : Sl → M EV} {ta tb : Sl → Store → SRes} (h : rdS X W XR (fun ρ => toS (ec ρ >>= isB) ρ fun p st => if p then ta ρ st else tb ρ st) D σ H) : tIfS (rdB X W XR fun ρ => ec ρ >>= isB) (rdS X W XR ta) (rdS X W XR tb) D σ H := by
  obtain ⟨B, ρ, st, m, S, b, o, h⟩ := h
  refine ⟨outB H m st.length, ρ, st, m, S, bs_out _ _ _, (h.toM S b o).imp fun c m1 st1 H1 x1 hr1 ⟨S1, b1, h1⟩ => ?_⟩
  cases c with
  | true => exact ⟨B, ρ, st1, m1, S1, b1, o, h1⟩
  | false => exact ⟨B, ρ, st1, m1, S1, b1, o, h1⟩
theorem rd_next (h : rdS X W XR (fun ρ st => .nx ρ st) D σ H) : tNext D σ H := by
  obtain ⟨B, ρ, st, m, S, b, o, h⟩ := h
  exact PostS.nx h b S o (.refl _ _)
theorem rd_brk (h : rdS X W XR (fun ρ st => .bk ρ st) D σ H) : tBreak D σ H := by
  obtain ⟨B, ρ, st, m, S, b, o, h⟩ := h
  exact h m σ H (Nx.refl b) S o (.refl _ _)
theorem rd_cnt (h : rdS X W XR (fun ρ st => .ct ρ st) D σ H) : tCont D σ H := by
  obtain ⟨B, ρ, st, m, S, b, o, h⟩ := h
  exact h m σ H (Nx.refl b) S o (.refl _ _)
theorem rd_retN (h : rdS X W XR (fun ρ st => .rt (.v .non) st) D σ H) : tRetN D σ H := by
  obtain ⟨B, ρ, st, m, S, b, o, h⟩ := h
  exact h m H .non (Nx.refl b) S.heap rfl
theorem rd_seqS {ta tb : Sl → Store → SRes} (h : rdS X W XR (seqS ta tb) D σ H) : tSeq (rdS X W XR ta) (rdS X W XR tb) D σ H := by
  obtain ⟨B, ρ, st, m, S, b, o, h⟩ := h
  refine ⟨B, ρ, st, m, S, b, o, ?_⟩
  unfold seqS at h
  cases e : ta ρ st with
  | nx ρ1 st1 =>
    rw [e] at h
    exact fun m1 σ1 H1 x1 S1 o1 k1 => ⟨B, ρ1, st1, m1, S1, x1.bs b, o1, h.from x1 k1⟩
  | rt x st1 => rw [e] at h; exact h
  | bk ρ1 st1 => rw [e] at h; exact h
  | ct ρ1 st1 => rw [e] at h; exact h
  | ex c pl ρ1 st1 => rw [e] at h; exact h
  | stuck => rw [e] at h; exact h
theorem rd_prom {i : Nat} {tb : Sl → Store → SRes} (h : rdS X W XR (seqS (promS i) tb) D σ H) : rdS X W XR tb D σ H := by
  obtain ⟨B, ρ, st, m, S, b, o, h⟩ := h
  unfold seqS promS at h
  cases e : ρ[i]? with
  | none => simp only [e] at h; exact h.elim
  | some y =>
    cases y with
    | none => simp only [e] at h; exact h.elim
    | some z =>
      cases z with
      | v _ => simp only [e] at h; exact h.elim
      | t c k =>
        cases k with
        | true => simp only [e] at h; exact h.elim
        | false =>
          simp only [e] at h
          obtain ⟨u, e2, a, rfl, hc, hn⟩ := S.slot.get i _ e
          have hB : B a = none := o i c a e e2
          have hl : i < ρ.length := (List.getElem?_eq_some_iff.mp e).1
          have ag : ∀ l, l < st.length → (fun l => if l = st.length then a else m l) l = m l := fun l hl => if_neg (Nat.ne_of_lt hl)
          have le : st.length ≤ (st ++ [c]).length := by simp
          have ne : ∀ j d b', j ≠ i → ρ[j]? = some (some (.t d b')) → σ[j]? = some (some (V.ref a)) → False := fun j d b' hj e3 e4 => hj (S.slot.own i j c d b' _ e e3 e2 e4).symm
          have x1 : Nx B m st.length (fun l => if l = st.length then a else m l) (st ++ [c]).length H := ⟨le, ag, b.sub, fun l h1 h2 => by
            have : l = st.length := by simp at h2; omega
            simp only [this, if_true]
            exact hB⟩
          refine ⟨B, ρ.set i (some (.v (.loc st.length))), st ++ [c], fun l => if l = st.length then a else m l, ⟨S.heap.put hc hn, ⟨fun j y ey => ?_, fun j l d d' b' u e1 e3 e4 e5 => ?_, by simp [S.slot.len]⟩⟩, x1.bs b, fun j d a' e3 e4 => ?_, h.from x1 fun j d e3 => ?_⟩
          · by_cases hj : i = j
            · subst hj
              rw [List.getElem?_set_self hl] at ey
              cases ey
              exact ⟨.ref a, e2, by simp, by simp⟩
            · rw [List.getElem?_set_ne hj] at ey
              obtain ⟨u, e3, r⟩ := S.slot.get j y ey
              refine ⟨u, e3, ?_⟩
              cases y with
              | v w0 => exact VRel.stay (fun _ _ r => r) ag le r
              | t d k =>
                obtain ⟨a2, rfl, hd, hn2⟩ := r
                refine ⟨a2, rfl, hd.stay (fun _ _ r => r) ag le fun _ q => q, fun l hl2 q => ?_⟩
                by_cases hl3 : l = st.length
                · have q' : a = a2 := by simpa [hl3] using q
                  subst q'
                  exact ne j d k (fun z => hj z.symm) ey e3
                · exact hn2 l (by simp at hl2; omega) (by simpa [hl3] using q)
          · have hj : i ≠ j := fun z => by subst z; rw [List.getElem?_set_self hl] at e1; cases e1
            have hk : i ≠ l := fun z => by subst z; rw [List.getElem?_set_self hl] at e3; cases e3
            rw [List.getElem?_set_ne hj] at e1
            rw [List.getElem?_set_ne hk] at e3
            exact S.slot.own j l d d' b' u e1 e3 e4 e5
          · have hj : i ≠ j := fun z => by subst z; rw [List.getElem?_set_self hl] at e3; cases e3
            rw [List.getElem?_set_ne hj] at e3
            exact o j d a' e3 e4
          · have hj : i ≠ j := fun z => by subst z; rw [List.getElem?_set_self hl] at e3; cases e3
            rw [List.getElem?_set_ne hj] at e3
            exact ⟨e3, rfl⟩
end
end D


set_option Elab.async false
set_option linter.all false
set_option maxHeartbeats 2000000
set_option maxRecDepth 100000
/-! DX: for. -/
namespace D
open PySem PySem.Spec PyProof.Rows L2
open Classical in
/-- all but the store, the tables, what slots own -/
noncomputable def outS (H : Hp) (m : Nat → Addr) (n : Nat) (ρ : Sl) (σ : L2.St) : Hp := fun a => if ∃ (i : Nat) (c : Cell), ρ[i]? = some (some (.t c false)) ∧ σ[i]? = some (some (.ref a)) then none else outB H m n a
theorem outS_some {H : Hp} {m : Nat → Addr} {n : Nat} {ρ : Sl} {σ : L2.St} {a : Addr} {o : HO} : outS H m n ρ σ a = some o ↔ outB H m n a = some o ∧ ∀ (i : Nat) (c : Cell), ρ[i]? = some (some (.t c false)) → σ[i]? ≠ some (some (.ref a)) := by
  unfold outS
  split
  · rename_i h
    obtain ⟨i, c, h1, h2⟩ := h
    exact ⟨fun e => (nomatch e), fun e => absurd h2 (e.2 i c h1)⟩
  · rename_i h
    exact ⟨fun e => ⟨e, fun i c h1 h2 => h ⟨i, c, h1, h2⟩⟩, fun e => e.1⟩
section
variable {P : Program} {w : World} {K : PySem.W.Frag} {XR : XRel} {W : WX} {B : Hp} {m m' : Nat → Addr} {n n' : Nat} {ρ ρ' : Sl} {σ σ' : L2.St} {D : Ends} {H H' : Hp} {st st' : Store}
theorem bs_outS : Bs (outS H m n ρ σ) m n H := ⟨fun a o e => (outB_some.mp (outS_some.mp e).1).1, fun l hl => by
  cases q : outS H m n ρ σ (m l) with
  | none => rfl
  | some o => exact absurd rfl ((outB_some.mp (outS_some.mp q).1).2.2 l hl), fun a o e => (outB_some.mp (outS_some.mp e).1).2.1⟩
theorem out_outS : OutS (outS H m n ρ σ) ρ σ := fun i c a e1 e2 => by
  cases q : outS H m n ρ σ a with
  | none => rfl
  | some o => exact absurd e2 ((outS_some.mp q).2 i c e1)
theorem PostS.small {C : Hp} {r : SRes} (hb : ∀ a o, B a = some o → C a = some o) (h : PostS P w K XR W B m n ρ σ D r) : PostS P w K XR W C m n ρ σ D r := by
  have os : ∀ {ρ2 σ2}, OutS C ρ2 σ2 → OutS B ρ2 σ2 := fun o i c a e1 e2 => by
    cases q : B a with
    | none => rfl
    | some ob => have := o i c a e1 e2; rw [hb a ob q] at this; cases this
  cases r with
  | nx ρ2 st2 => exact fun m2 σ2 H2 y s o k2 => h m2 σ2 H2 (y.small hb) s (os o) k2
  | bk ρ2 st2 => exact fun m2 σ2 H2 y s o k2 => h m2 σ2 H2 (y.small hb) s (os o) k2
  | ct ρ2 st2 => exact fun m2 σ2 H2 y s o k2 => h m2 σ2 H2 (y.small hb) s (os o) k2
  | rt z st2 => exact fun m2 H2 v y hr r => h m2 H2 v (y.small hb) hr (r.less hb)
  | ex c pl ρ2 st2 => exact fun m2 σ2 H2 u dx y s o k2 xr => h m2 σ2 H2 u dx (y.small hb) s (os o) k2 xr
  | stuck => exact h
/-- locked: the loop's part -/
theorem PostS.lock {g : Gd} {r : SRes} (S : Sim P w K H m ρ st σ) (b : Bs B m st.length H) (o : OutS B ρ σ) (h : PostS P w K XR W B m st.length ρ σ D (r.mapS (unlockS g ρ))) :
    PostS P w K XR W (outS H m st.length (lockS g ρ) σ) m st.length (lockS g ρ) σ D r := by
  -- what the lock does to the slots
  have hL : ∀ (j : Nat) (c : Cell) (k : Bool), (lockS g ρ)[j]? = some (some (.t c k)) → ∃ k', ρ[j]? = some (some (.t c k')) ∧ (k = false → k' = false) := fun j c k e => by
    cases g with
    | slot i d =>
      simp only [lockS] at e
      split at e
      · rename_i hi
        by_cases hj : i = j
        · subst hj
          rw [List.getElem?_set_self (List.getElem?_eq_some_iff.mp hi).1] at e
          cases e
          exact ⟨false, hi, fun _ => rfl⟩
        · rw [List.getElem?_set_ne hj] at e
          exact ⟨k, e, id⟩
      · exact ⟨k, e, id⟩
    | _ => exact ⟨k, e, id⟩
  have hb : ∀ a o, B a = some o → outS H m st.length (lockS g ρ) σ a = some o := fun a ob e => outS_some.mpr ⟨b.le_out a ob e, fun i c e1 e2 => by
    obtain ⟨k', e3, e4⟩ := hL i c false e1
    rw [e4 rfl] at e3
    have := o i c a e3 e2
    rw [e] at this
    cases this⟩
  -- unlocked behind
  have un : ∀ {m2 σ2 H2 ρ2 st2}, Sim P w K H2 m2 ρ2 st2 σ2 → OutS (outS H m st.length (lockS g ρ) σ) ρ2 σ2 → KeepK (lockS g ρ) σ ρ2 σ2 → Sim P w K H2 m2 (unlockS g ρ ρ2) st2 σ2 ∧ OutS B (unlockS g ρ ρ2) σ2 ∧ KeepK ρ σ (unlockS g ρ ρ2) σ2 := by
    intro m2 σ2 H2 ρ2 st2 S2 o2 k2
    have os : OutS B ρ2 σ2 := fun i c a e1 e2 => by
      cases q : B a with
      | none => rfl
      | some ob => have := o2 i c a e1 e2; rw [hb a ob q] at this; cases this
    have plain : (lockS g ρ = ρ) → (unlockS g ρ ρ2 = ρ2) → Sim P w K H2 m2 (unlockS g ρ ρ2) st2 σ2 ∧ OutS B (unlockS g ρ ρ2) σ2 ∧ KeepK ρ σ (unlockS g ρ ρ2) σ2 := fun e1 e2 => by
      rw [e1] at k2
      rw [e2]
      exact ⟨S2, os, k2⟩
    cases g with
    | no => exact plain rfl rfl
    | loc l c => exact plain rfl rfl
    | slot i c =>
      by_cases h0 : ρ[i]? = some (some (.t c false))
      · have hl0 : i < ρ.length := (List.getElem?_eq_some_iff.mp h0).1
        have eL : lockS (.slot i c) ρ = ρ.set i (some (.t c true)) := by simp only [lockS]; rw [if_pos h0]
        have eLi : (lockS (.slot i c) ρ)[i]? = some (some (.t c true)) := by rw [eL, List.getElem?_set_self hl0]
        obtain ⟨ui, eui, ai, rfl, hci, hni⟩ := S.slot.get i _ h0
        by_cases h1 : ρ2[i]? = some (some (.t c true))
        · have eU : unlockS (.slot i c) ρ ρ2 = ρ2.set i (some (.t c false)) := by simp only [unlockS]; rw [if_pos ⟨h0, h1⟩]
          have hl2 : i < ρ2.length := (List.getElem?_eq_some_iff.mp h1).1
          have es : σ2[i]? = some (some (.ref ai)) := (k2 i c h1).2.trans eui
          have hin : ∃ ob, outS H m st.length (lockS (.slot i c) ρ) σ ai = some ob := by
            obtain ⟨ob, e3, ht3, _⟩ := hci.some
            have e3 := outB_some.mpr ⟨e3, ht3, hni⟩
            refine ⟨ob, outS_some.mpr ⟨e3, fun j d e4 e5 => ?_⟩⟩
            obtain ⟨k', e6, e7⟩ := hL j d false e4
            rw [e7 rfl] at e6
            have := S.slot.own i j c d false _ h0 e6 eui e5
            subst this
            rw [eLi] at e4
            cases e4
          rw [eU]
          refine ⟨⟨S2.heap, ⟨fun j y ey => ?_, fun j l d d' b' u e1 e3 e4 e5 => ?_, by simp [S2.slot.len]⟩⟩, fun j d a e1 e2 => ?_, fun j d e => ?_⟩
          · by_cases hj : i = j
            · subst hj
              rw [List.getElem?_set_self hl2] at ey
              cases ey
              exact S2.slot.get i (.t c true) h1
            · rw [List.getElem?_set_ne hj] at ey
              exact S2.slot.get j y ey
          · -- one of them may be the unlocked slot
            have key : ∀ (x : Nat) (e0 : Cell) (k0 : Bool), x ≠ i → ρ2[x]? = some (some (.t e0 k0)) → σ2[x]? = some (some (.ref ai)) → False := fun x e0 k0 hx ex ev => by
              cases k0 with
              | false =>
                have q := o2 x e0 ai ex ev
                obtain ⟨ob, e9⟩ := hin
                rw [e9] at q
                cases q
              | true =>
                obtain ⟨g1, g2⟩ := k2 x e0 ex
                rw [eL, List.getElem?_set_ne (fun z => hx z.symm)] at g1
                rw [g2] at ev
                exact hx (S.slot.own i x c e0 true _ h0 g1 eui ev).symm
            by_cases hj : i = j
            · by_cases hk : i = l
              · omega
              · exfalso
                subst hj
                rw [List.getElem?_set_ne hk] at e3
                rw [es] at e4
                cases e4
                exact key l d' b' (fun z => hk z.symm) e3 e5
            · rw [List.getElem?_set_ne hj] at e1
              by_cases hk : i = l
              · exfalso
                subst hk
                rw [es] at e5
                cases e5
                exact key j d false (fun z => hj z.symm) e1 e4
              · rw [List.getElem?_set_ne hk] at e3
                exact S2.slot.own j l d d' b' u e1 e3 e4 e5
          · by_cases hj : i = j
            · subst hj
              rw [es] at e2
              cases e2
              exact o i c _ h0 eui
            · rw [List.getElem?_set_ne hj] at e1
              exact os j d a e1 e2
          · by_cases hj : i = j
            · subst hj
              rw [List.getElem?_set_self hl2] at e
              cases e
            · rw [List.getElem?_set_ne hj] at e
              obtain ⟨g1, g2⟩ := k2 j d e
              rw [eL, List.getElem?_set_ne hj] at g1
              exact ⟨g1, g2⟩
        · have eU : unlockS (.slot i c) ρ ρ2 = ρ2 := by simp only [unlockS]; rw [if_neg fun z => h1 z.2]
          rw [eU]
          refine ⟨S2, os, fun j d e => ?_⟩
          obtain ⟨g1, g2⟩ := k2 j d e
          by_cases hj : i = j
          · subst hj
            rw [eLi] at g1
            cases g1
            exact absurd e h1
          · rw [eL, List.getElem?_set_ne hj] at g1
            exact ⟨g1, g2⟩
      · exact plain (by simp only [lockS]; rw [if_neg h0]) (by simp only [unlockS]; rw [if_neg fun z => h0 z.1])
  cases r with
  | nx ρ2 st2 => exact fun m2 σ2 H2 y s o2 k2 => let ⟨a1, a2, a3⟩ := un s o2 k2; h m2 σ2 H2 (y.small hb) a1 a2 a3
  | bk ρ2 st2 => exact fun m2 σ2 H2 y s o2 k2 => let ⟨a1, a2, a3⟩ := un s o2 k2; h m2 σ2 H2 (y.small hb) a1 a2 a3
  | ct ρ2 st2 => exact fun m2 σ2 H2 y s o2 k2 => let ⟨a1, a2, a3⟩ := un s o2 k2; h m2 σ2 H2 (y.small hb) a1 a2 a3
  | rt z st2 => exact fun m2 H2 v y hr r => h m2 H2 v (y.small hb) hr (r.less hb)
  | ex c pl ρ2 st2 => exact fun m2 σ2 H2 u dx y s o2 k2 xr => let ⟨a1, a2, a3⟩ := un s o2 k2; h m2 σ2 H2 u dx (y.small hb) a1 a2 a3 xr
  | stuck => exact h
theorem for_cons {g : Gd} {body : Val → Sl → Store → SRes} {x : Val} {xs : List Val} {N : L2.St → Hp → Prop} (h : PostS P w K XR W B m n ρ σ D (forL g body (x :: xs) ρ st))
    (hN : ∀ (m' : Nat → Addr) (ρ' : Sl) (σ' : L2.St) (st' : Store) (H' : Hp), Nx B m n m' st'.length H' → Sim P w K H' m' ρ' st' σ' → OutS B ρ' σ' → KeepK ρ σ ρ' σ' → PostS P w K XR W B m' st'.length ρ' σ' D (forL g body xs ρ' st') → N σ' H') :
    g.ok ρ st = true ∧ PostS P w K XR W B m n ρ σ { D with nx := N, ct := N, bk := D.nx } (body x ρ st) := by
  unfold forL at h
  cases hg : g.ok ρ st with
  | false => rw [hg] at h; exact h.elim
  | true =>
    rw [hg] at h
    simp only [if_true] at h
    refine ⟨rfl, ?_⟩
    cases e : body x ρ st with
    | nx ρ1 st1 => rw [e] at h; exact fun m1 σ1 H1 x1 S1 o1 k1 => hN m1 ρ1 σ1 st1 H1 x1 S1 o1 k1 (h.from x1 k1)
    | ct ρ1 st1 => rw [e] at h; exact fun m1 σ1 H1 x1 S1 o1 k1 => hN m1 ρ1 σ1 st1 H1 x1 S1 o1 k1 (h.from x1 k1)
    | bk ρ1 st1 => rw [e] at h; exact h
    | rt x st1 => rw [e] at h; exact h
    | ex c pl ρ1 st1 => rw [e] at h; exact h
    | stuck => rw [e] at h; exact h
end
end D


set_option Elab.async false
set_option linter.all false
set_option maxHeartbeats 2000000
set_option maxRecDepth 100000
/-! DY: for, while. -/
namespace D
open PySem PySem.Spec PyProof.Rows L2
section
variable {X : Cx} {XR : XRel} {W : WX} {B : Hp} {m m' : Nat → Addr} {n n' : Nat} {ρ ρ' : Sl} {σ σ' : L2.St} {D : Ends} {H H' : Hp} {st st' : Store} {pos : Pos}
theorem lock_own {g : Gd} {j : Nat} {c : Cell} (e : (lockS g ρ)[j]? = some (some (.t c false))) : ρ[j]? = some (some (.t c false)) ∧ ∀ i d, g = .slot i d → ρ[i]? = some (some (.t d false)) → j ≠ i := by
  cases g with
  | slot i d =>
    simp only [lockS] at e
    split at e
    · rename_i hi
      by_cases hj : i = j
      · subst hj
        rw [List.getElem?_set_self (List.getElem?_eq_some_iff.mp hi).1] at e
        cases e
      · rw [List.getElem?_set_ne hj] at e
        exact ⟨e, fun i' d' h _ z => by cases h; exact hj z.symm⟩
    · rename_i hi
      exact ⟨e, fun i' d' h h2 => by cases h; exact absurd h2 hi⟩
  | _ => exact ⟨e, fun _ _ h => nomatch h⟩
theorem sim_lock {g : Gd} (S : Sim X.prog X.w X.K H m ρ st σ) : Sim X.prog X.w X.K H m (lockS g ρ) st σ := by
  cases g with
  | slot i d =>
    simp only [lockS]
    split
    · rename_i hi
      have hl := (List.getElem?_eq_some_iff.mp hi).1
      refine ⟨S.heap, ⟨fun j y ey => ?_, fun j l c c' b u e1 e2 e3 e4 => ?_, by simp [S.slot.len]⟩⟩
      · by_cases hj : i = j
        · subst hj
          rw [List.getElem?_set_self hl] at ey
          cases ey
          exact S.slot.get i (.t d false) hi
        · rw [List.getElem?_set_ne hj] at ey
          exact S.slot.get j y ey
      · have hj : i ≠ j := fun z => by subst z; rw [List.getElem?_set_self hl] at e1; cases e1
        rw [List.getElem?_set_ne hj] at e1
        by_cases hk : i = l
        · subst hk
          exact S.slot.own j i c d false u e1 hi e3 e4
        · rw [List.getElem?_set_ne hk] at e2
          exact S.slot.own j l c c' b u e1 e2 e3 e4
    · exact S
  | _ => exact S
theorem assign1_v (t : T) (x : Val) (ρ : Sl) : assign1 t (.v x) ρ = assignT t x ρ := by cases t <;> rfl
theorem rd_for {ei : Sl → M Src} {t : T} {body : Sl → Store → SRes} (h : rdS X W XR (fun ρ => toS (ei ρ) ρ fun s st => (forL s.gd (forB t body) s.vals (lockS s.gd ρ) st).mapS (unlockS s.gd ρ)) D σ H) :
    tFor (rdI X W XR ei) (tG X.K t) (rdS X W XR body) D σ H := by
  obtain ⟨B, ρ, st, m, S, b, o, h⟩ := h
  refine ⟨outB H m st.length, ρ, st, m, S, bs_out _ _ _, (h.toM S b o).imp fun src m1 st1 H1 x1 hr1 ⟨S1, b1, h1⟩ as J hJ => ?_⟩
  have hP := h1.lock S1 b1 o
  have S2 := sim_lock (g := src.gd) S1
  generalize hρL : lockS src.gd ρ = ρL at hP S2
  -- the source's objects stay
  have hasB : ∀ a, a ∈ as → ∃ ob, outS H1 m1 st1.length ρL σ a = some ob ∧ H1 a = some ob := fun a ha => by
    obtain ⟨⟨ob, e, ht⟩, hn, hsrc⟩ := hJ.1 a ha
    refine ⟨ob, outS_some.mpr ⟨outB_some.mpr ⟨e, ht, hn⟩, fun j d e1 e2 => ?_⟩, e⟩
    rw [← hρL] at e1
    obtain ⟨g1, g2⟩ := lock_own e1
    rcases hsrc with hB | ⟨i, c, k, hg, e3, e4⟩
    · obtain ⟨ob', e5⟩ := own_out S g1 e2
      rw [hB] at e5
      cases e5
    · have hji := S1.slot.own j i d c k _ g1 e3 e2 e4
      subst hji
      rw [g1] at e3
      cases e3
      exact g2 j _ hg g1 rfl
  have tups : ∀ {m' st' H'}, Nx (outS H1 m1 st1.length ρL σ) m1 st1.length m' st'.length H' → HRel X.prog X.w X.K H' m' st' → TupsK H1 H' := fun {m' st' H'} x hr a xs r => by
    have nst : ∀ l, l < st1.length → m1 l ≠ a := hr1.notTup r
    have nsl : ∀ (i : Nat) (c : Cell), ρL[i]? = some (some (.t c false)) → σ[i]? ≠ some (some (.ref a)) := fun i c e1 e2 => by
      rw [← hρL] at e1
      obtain ⟨g1, _⟩ := lock_own e1
      obtain ⟨u, e3, a', rfl, hc, _⟩ := S1.slot.get i _ g1
      rw [e2] at e3
      cases e3
      obtain ⟨_, _, _, _, hnt⟩ := hc.some
      exact hnt xs r
    rcases r with r | ⟨ob, r⟩
    · exact .inl (x.keep a _ (outS_some.mpr ⟨outB_some.mpr ⟨r, True.intro, nst⟩, nsl⟩))
    · exact .inr ⟨ob, x.keep a _ (outS_some.mpr ⟨outB_some.mpr ⟨r, True.intro, nst⟩, nsl⟩)⟩
  refine ⟨fun i k σ' H' => k = src.vals.length - i ∧ i ≤ src.vals.length ∧ ∃ (m' : Nat → Addr) (ρ' : Sl) (st' : Store), Nx (outS H1 m1 st1.length ρL σ) m1 st1.length m' st'.length H' ∧ Sim X.prog X.w X.K H' m' ρ' st' σ' ∧ OutS (outS H1 m1 st1.length ρL σ) ρ' σ' ∧
    PostS X.prog X.w X.K XR W (outS H1 m1 st1.length ρL σ) m' st'.length ρ' σ' D (forL src.gd (forB t body) (src.vals.drop i) ρ' st'), ⟨src.vals.length, by simp, Nat.zero_le _, m1, ρL, st1, Nx.refl bs_outS, S2, out_outS, by simpa using hP⟩, ?_⟩
  rintro i k σ' H' ⟨rfl, hle, m', ρ', st', x', S', o', hp⟩
  have b' : Bs (outS H1 m1 st1.length ρL σ) m' st'.length H' := x'.bs bs_outS
  have items := fun (g : src.gd.okS st') => hJ.2 m' st' H' S'.heap x'.le x'.agree (tups x' S'.heap) (fun a ha => by
    obtain ⟨ob, e1, e2⟩ := hasB a ha
    rw [e2]
    exact x'.keep a ob e1) g i
  by_cases hlt : i < src.vals.length
  · obtain ⟨x, hx⟩ : ∃ x, src.vals[i]? = some x := ⟨_, List.getElem?_eq_getElem hlt⟩
    have hdrop : src.vals.drop i = x :: src.vals.drop (i + 1) := by
      rw [List.drop_eq_getElem_cons hlt]
      congr 1
      rw [List.getElem?_eq_getElem hlt] at hx
      cases hx
      rfl
    rw [hdrop] at hp
    obtain ⟨hgo, hp⟩ := for_cons (N := fun σ' H' => ∃ (m' : Nat → Addr) (ρ' : Sl) (st' : Store), Nx (outS H1 m1 st1.length ρL σ) m1 st1.length m' st'.length H' ∧ Sim X.prog X.w X.K H' m' ρ' st' σ' ∧ OutS (outS H1 m1 st1.length ρL σ) ρ' σ' ∧
      PostS X.prog X.w X.K XR W (outS H1 m1 st1.length ρL σ) m' st'.length ρ' σ' D (forL src.gd (forB t body) (src.vals.drop (i + 1)) ρ' st')) hp
      fun m2 ρ2 σ2 st2 H2 x2 S2 o2 k2 h2 => ⟨m2, ρ2, st2, x'.trans x2 fun _ _ e => e, S2, o2, h2⟩
    obtain ⟨go, y2⟩ := (items (Gd.ok_S hgo)).1 x hx
    refine .inr ⟨go, _, fun σ2 H2 hN2 => ⟨src.vals.length - (i + 1), by omega, rfl, hlt, hN2⟩, fun v H'' y => ?_⟩
    obtain ⟨y3, rx⟩ := y2 v H'' y
    -- the state when the item has come
    obtain ⟨x3, S3⟩ : Nx (outS H1 m1 st1.length ρL σ) m' st'.length m' st'.length H'' ∧ Sim X.prog X.w X.K H'' m' ρ' st' σ' := by
      rcases y3 with rfl | ⟨p, us, hp', rfl⟩
      · exact ⟨Nx.refl b', S'⟩
      · have hs : Step m' st'.length H' m' st'.length (upd H' p (.tup us)) := ⟨Nat.le_refl _, fun _ _ => rfl, fun a ob e _ _ => by rw [upd_ne (ne_of_none e hp')]; exact e, fun l h1 h2 => absurd (Nat.lt_of_lt_of_le h2 h1) (Nat.lt_irrefl _)⟩
        exact ⟨nx_alloc b' hp' _, S'.step hs (S'.heap.alloc hp' _)⟩
    unfold forB at hp
    cases ea : assignT t x ρ' with
    | none => rw [ea] at hp; exact hp.elim
    | some ρ2 =>
      rw [ea] at hp
      refine assign1_ok (x := .v x) (B0 := outB H'' m' st'.length) S3 o' ((x3.bs b').le_out) (fun i c k a e1 e2 => own_out S3 e1 e2) rx (by rw [assign1_v]; exact ea) fun σ2 S4 o4 k4 => ?_
      exact ⟨_, ρ2, st', m', S4, x3.bs b', o4, hp.from x3 k4⟩
  · have hi' : i = src.vals.length := by omega
    have hdrop : src.vals.drop i = [] := List.drop_eq_nil_of_le (by omega)
    rw [hdrop] at hp
    unfold forL at hp
    cases hg : src.gd.ok ρ' st' with
    | false => rw [hg] at hp; exact hp.elim
    | true =>
      rw [hg] at hp
      simp only [if_true] at hp
      exact .inl ⟨(items (Gd.ok_S hg)).2 hi'.symm, PostS.nx hp b' S' o' (.refl _ _)⟩
/-- while -/
theorem wh_cons {test : Sl → M Bool} {body : Sl → Store → SRes} {k : Nat} (S : Sim X.prog X.w X.K H m ρ st σ) (b : Bs B m st.length H) (o : OutS B ρ σ) (h : PostS X.prog X.w X.K XR W B m st.length ρ σ D (whL test body (k + 1) ρ st)) :
    PostM X.prog X.w X.K XR (WE W σ) (outB H m st.length) m st.length (fun c m1 st1 H1 => Sim X.prog X.w X.K H1 m1 ρ st1 σ ∧ Bs B m1 st1.length H1 ∧ Nx (outB H m st.length) m st.length m1 st1.length H1 ∧
      PostS X.prog X.w X.K XR W B m1 st1.length ρ σ D (if c then (match body ρ st1 with
      | .nx ρ' st' => whL test body k ρ' st'
      | .ct ρ' st' => whL test body k ρ' st'
      | .bk ρ' st' => .nx ρ' st'
      | .rt x st' => .rt x st'
      | .ex c pl ρ' st' => .ex c pl ρ' st'
      | .stuck => .stuck) else .nx ρ st1)) (test ρ st) := by
  unfold whL at h
  exact (h.toM S b o).imp fun c m1 st1 H1 x1 hr1 ⟨S1, b1, h1⟩ => ⟨S1, b1, x1, h1⟩
theorem rd_while {ec : Sl → M EV} {body : Sl → Store → SRes} {k : Nat} (h : rdS X W XR (fun ρ => whL (fun ρ1 => ec ρ1 >>= isB) body k ρ) D σ H) : tWhile (rdB X W XR fun ρ => ec ρ >>= isB) (rdS X W XR body) D σ H := by
  obtain ⟨B, ρ, st, m, S, b, o, h⟩ := h
  refine ⟨fun k σ H => ∃ (m : Nat → Addr) (ρ : Sl) (st : Store), Sim X.prog X.w X.K H m ρ st σ ∧ Bs B m st.length H ∧ OutS B ρ σ ∧ PostS X.prog X.w X.K XR W B m st.length ρ σ D (whL (fun ρ1 => ec ρ1 >>= isB) body k ρ st), ⟨k, m, ρ, st, S, b, o, h⟩, ?_⟩
  rintro k σ H ⟨m, ρ, st, S, b, o, h⟩
  cases k with
  | zero => exact h.elim
  | succ k =>
    refine ⟨outB H m st.length, ρ, st, m, S, bs_out _ _ _, (wh_cons S b o h).imp fun c m1 st1 H1 x1 hr1 ⟨S1, b1, _, h1⟩ => ?_⟩
    cases c with
    | false =>
      simp only [Bool.false_eq_true, if_false] at h1 ⊢
      exact PostS.nx h1 b1 S1 o (.refl _ _)
    | true =>
      simp only [if_true] at h1 ⊢
      refine ⟨fun σ' H' => ∃ (m : Nat → Addr) (ρ : Sl) (st : Store), Sim X.prog X.w X.K H' m ρ st σ' ∧ Bs B m st.length H' ∧ OutS B ρ σ' ∧ PostS X.prog X.w X.K XR W B m st.length ρ σ' D (whL (fun ρ1 => ec ρ1 >>= isB) body k ρ st), fun σ' H' hN => ⟨k, Nat.lt_succ_self k, hN⟩, B, ρ, st1, m1, S1, b1, o, ?_⟩
      cases e : body ρ st1 with
      | nx ρ2 st2 => rw [e] at h1; exact fun m2 σ2 H2 x2 S2 o2 k2 => ⟨m2, ρ2, st2, S2, x2.bs b1, o2, h1.from x2 k2⟩
      | ct ρ2 st2 => rw [e] at h1; exact fun m2 σ2 H2 x2 S2 o2 k2 => ⟨m2, ρ2, st2, S2, x2.bs b1, o2, h1.from x2 k2⟩
      | bk ρ2 st2 => rw [e] at h1; exact h1
      | rt x st2 => rw [e] at h1; exact h1
      | ex c pl ρ2 st2 => rw [e] at h1; exact h1
      | stuck => rw [e] at h1; exact h1
end
end D


set_option Elab.async false
set_option linter.all false
set_option maxHeartbeats 2000000
set_option maxRecDepth 100000
/-! EA: a dict is written. -/
namespace D
open PySem PySem.Spec PyProof.Rows L2
section
variable {K : PySem.W.Frag} {H H' : Hp} {m : Nat → Addr} {n : Nat}
theorem pleaf_stay (t : TupsK H H') {p : Val × Val} {q : Key × V} (r : PLeaf K H m n p q) : PLeaf K H' m n p q := ⟨r.1, r.2.stay t (fun _ _ => rfl) (Nat.le_refl _)⟩
theorem ptup_stay (t : TupsK H H') {p : Val × Val} {q : NestedKey × Addr × Value} (r : PTup K H m n p q) : PTup K H' m n p q :=
  let ⟨z1, z2, z3, v, z4, z5⟩ := r; ⟨z1, z2, z3.stay t (fun _ _ => rfl) (Nat.le_refl _), v, z4.stay t (fun _ _ => rfl) (Nat.le_refl _), z5⟩
theorem leaf_any {kvs : List (Val × Val)} {kv : List (Key × V)} {k : Val} {c : Key} (p : Paired (PLeaf K H m n) kvs kv) (hk : k.leaf = some c) : kvs.any (fun x => x.1 == k) = kv.any fun x => decide (x.1 = c) := by
  induction p with
  | nil => rfl
  | @cons a b l1 l2 r _ ih =>
    simp only [List.any_cons, ih]
    congr 1
    by_cases h : a.1 = k
    · have : b.1 = c := by have := r.1; rw [h, hk] at this; exact (Option.some.inj this).symm
      simp [h, this]
    · have : b.1 ≠ c := fun z => h (leaf_inj r.1 (by rw [hk, z]))
      simp [h, this]
theorem leaf_put {kvs : List (Val × Val)} {kv : List (Key × V)} {k v : Val} {c : Key} {y : V} (p : Paired (PLeaf K H m n) kvs kv) (hk : k.leaf = some c) (rv : VRel K H m n v y) : Paired (PLeaf K H m n) (dput kvs k v) (putK kv c y) := by
  unfold dput putK
  rw [leaf_any p hk]
  split
  · rename_i hz; clear hz
    induction p with
    | nil => exact .nil
    | @cons a b l1 l2 r _ ih =>
      refine .cons ?_ ih
      by_cases h : a.1 = k
      · have : b.1 = c := by have := r.1; rw [h, hk] at this; exact (Option.some.inj this).symm
        simp only [h, this, beq_self_eq_true, if_true]
        exact ⟨hk, rv⟩
      · have : b.1 ≠ c := fun z => h (leaf_inj r.1 (by rw [hk, z]))
        simp only [this, if_false, beq_eq_false_iff_ne.mpr h, Bool.false_eq_true]
        exact r
  · exact Paired.app p (.cons ⟨hk, rv⟩ .nil)
theorem tup_any {kvs : List (Val × Val)} {xs : List (NestedKey × Addr × Value)} {k : Val} {c : NestedKey} (p : Paired (PTup K H m n) kvs xs) (hk : k.nk 8 = some c) : kvs.any (fun x => x.1 == k) = (atKey xs c).isSome := by
  induction p with
  | nil => rfl
  | @cons a b l1 l2 r _ ih =>
    rw [atKey_cons]
    by_cases h : a.1 = k
    · have : b.1 = c := by have := r.2.1; rw [h, hk] at this; exact (Option.some.inj this).symm
      simp [h, this]
    · have : b.1 ≠ c := fun z => h (nk_inj 8 _ _ c (by rw [r.2.1, z]) hk)
      simp [h, this, ih]
theorem tup_put {kvs : List (Val × Val)} {xs : List (NestedKey × Addr × Value)} {k v : Val} {c : NestedKey} {q : Addr} {y : V} {u : Value} (p : Paired (PTup K H m n) kvs xs) (ht : k.isTup = true) (hk : k.nk 8 = some c) (rk : VRel K H m n k (.ref q)) (rv : VRel K H m n v y) (ry : RelV y u) :
    Paired (PTup K H m n) (dput kvs k v) (storedH xs c q u) := by
  unfold dput storedH
  rw [tup_any p hk]
  split
  · rename_i hz; clear hz
    induction p with
    | nil => exact .nil
    | @cons a b l1 l2 r _ ih =>
      refine .cons ?_ ih
      by_cases h : a.1 = k
      · have : b.1 = c := by have := r.2.1; rw [h, hk] at this; exact (Option.some.inj this).symm
        simp only [h, beq_self_eq_true, if_true, putAt, this]
        obtain ⟨z1, z2, z3, _⟩ := r
        rw [h] at z1 z3
        exact ⟨z1, hk, z3, y, rv, ry⟩
      · have : b.1 ≠ c := fun z => h (nk_inj 8 _ _ c (by rw [r.2.1, z]) hk)
        simp only [putAt, this, if_false, beq_eq_false_iff_ne.mpr h, Bool.false_eq_true]
        exact r
  · exact Paired.app p (.cons ⟨ht, hk, rk, y, rv, ry⟩ .nil)
theorem dput_len (kvs : List (Val × Val)) (k v : Val) : (dput kvs k v).length ≤ kvs.length + 1 := by
  unfold dput
  split
  · simp
  · simp
end
section
variable {X : Cx} {pins : List (Addr × Obj)} {σ : L2.St} {H : Hp} {s : Shared} {m : Nat → Addr} {n : Nat}
theorem lim_succ {a b : Nat} (h : a < LIM) (hb : b ≤ a + 1) : b ≤ sizeLine := by
  unfold LIM at h
  rw [sizeLine_eq]
  omega
/-- the ways of writing: setItem, dictSet -/
theorem dict_write {a : Addr} {kvs : List (Val × Val)} {k v : Val} {x y : V} {u r : Value} {act : Value → Value → Sem Unit} {Post : Hp → Prop} {E : Value → Shared → Prop} (I : Inv X pins σ H s) (c : CRel X.prog X.w X.K H m n (.dict kvs) a) (hk : dkOk kvs k = true) (hl : kvs.length < LIM)
    (rk : VRel X.K H m n k x) (ru : RelV x u) (rv : VRel X.K H m n v y) (rr : RelV y r)
    (w1 : ∀ {ck : Key} {vs : List (Key × Value)} {Q : Unit → Shared → Prop}, (mixKind X.prog X.w).is ck u = true → s.heap.DictOf (mixKind X.prog X.w) a vs → vs.length ≤ sizeLine → (∀ h', h'.DictOf (mixKind X.prog X.w) a (stored vs ck r) → Heap.SameBut a s.heap h' → Q () { s with heap := h', toks := s.toks + 1 }) → wpAny (model X.prog X.w) X.A (act u r) Q E s)
    (w2 : ∀ {ck : NestedKey} {q : Addr} {xs : List (NestedKey × Addr × Value)} {Q : Unit → Shared → Prop}, u = .ref q → (nestedKind X.prog X.w).is s.heap ck q → s.heap.DictOfH (nestedKind X.prog X.w) a xs → xs.length ≤ sizeLine → (∀ h', h'.DictOfH (nestedKind X.prog X.w) a (storedH xs ck q r) → Heap.SameBut a s.heap h' → Q () { s with heap := h', toks := s.toks + (nestedKind X.prog X.w).draws ck }) → wpAny (model X.prog X.w) X.A (act u r) Q E s)
    (h : ∀ o', CRel X.prog X.w X.K (upd H a (AtO a o')) m n (.dict (dput kvs k v)) a → Post (upd H a (AtO a o'))) : wpAny (model X.prog X.w) X.A (act u r) (fun _ s' => ∃ H', Inv X pins σ H' s' ∧ Post H') E s := by
  obtain ⟨h1, h2, o, e, dd⟩ := dict_kind c hk
  have hk1 : k.key = true := by
    simp only [dkOk, Bool.and_eq_true] at hk
    exact hk.1
  have nt : ∀ xs, ¬ Rd H a (.tup xs) := fun xs r => by rcases r with r | ⟨_, r⟩ <;> rw [e] at r <;> cases r
  have fin : ∀ {h' : Heap} {t' : Nat} {o' : Obj}, h'.get? a = some o' → Heap.SameBut a s.heap h' → Inv X pins σ (upd H a (AtO a o')) { s with heap := h', toks := t' } := fun {h' t' o'} ho hs =>
    d_write I (by rw [e]; exact True.intro) hs ⟨o', ho⟩ ⟨ho, ⟨o', ho⟩, fun h1 h2 a1 a2 => a2 o' a1⟩
  rcases dd with ⟨ht, dd⟩ | ⟨ht, dd⟩
  · obtain ⟨kv, vs, D, rel, p⟩ := dleaf_at I e dd
    obtain ⟨ck, hc⟩ := leaf_of hk1 ht
    have his : (mixKind X.prog X.w).is ck u = true := by
      cases k with
      | int i => cases hc; cases rk; obtain ⟨t, rfl⟩ := ru; exact keyIs_int i t
      | str z => cases hc; cases rk; obtain ⟨t, rfl⟩ := ru; exact keyIs_str _ t
      | _ => cases hc
    refine w1 his D (by rw [← rel.length, ← Paired.len p]; exact h2) fun h' D' hs => ?_
    obtain ⟨o', es, ep, ho, g1, g2, g3, g4, g5⟩ := D'
    refine ⟨_, fin ho hs, h o' ⟨h1, lim_succ hl (dput_len _ _ _), o', upd_same, .inl ⟨putK kv ck y, stored vs ck r, ⟨es, ep, g1, g2, g3, g4, g5⟩, rel.put ck rr, ?_⟩⟩⟩
    exact Paired.mapP (leaf_put p hc rv) fun _ _ z => pleaf_stay (tups_upd e nt) z
  · obtain ⟨xs, D, p⟩ := dtup_at I e dd
    cases k with
    | tup us =>
      obtain ⟨ck, hc⟩ : ∃ c, (Val.tup us).nk 8 = some c := Option.isSome_iff_exists.mp hk1
      obtain ⟨q, ws, rfl, hq, rq⟩ := id rk
      have eu : u = .ref q := ru
      refine w2 eu ⟨VRel.nested I 8 _ _ _ _ hc rk rfl, nk_depth 8 _ _ hc⟩ D (by rw [← Paired.len p]; exact h2) fun h' D' hs => ?_
      obtain ⟨o', es, ep, ho, g1, g2, g3, g4, g5⟩ := D'
      refine ⟨_, fin ho hs, h o' ⟨h1, lim_succ hl (dput_len _ _ _), o', upd_same, .inr ⟨storedH xs ck q r, ⟨es, ep, g1, g2, g3, g5⟩, ?_⟩⟩⟩
      exact Paired.mapP (tup_put p rfl hc rk rv rr) fun _ _ z => ptup_stay (tups_upd e nt) z
    | _ => cases ht
theorem set_dictA {a : Addr} {kvs : List (Val × Val)} {k v : Val} {x y : V} {u r : Value} {Post : Hp → Prop} {E : Value → Shared → Prop} (hu : X.A.units + 200 < cLine) (I : Inv X pins σ H s) (c : CRel X.prog X.w X.K H m n (.dict kvs) a) (hk : dkOk kvs k = true) (hl : kvs.length < LIM)
    (rk : VRel X.K H m n k x) (ru : RelV x u) (rv : VRel X.K H m n v y) (rr : RelV y r) (h : ∀ o', CRel X.prog X.w X.K (upd H a (AtO a o')) m n (.dict (dput kvs k v)) a → Post (upd H a (AtO a o'))) :
    wpAny (model X.prog X.w) X.A (setItem (.ref a) u r) (fun _ s' => ∃ H', Inv X pins σ H' s' ∧ Post H') E s :=
  dict_write (act := fun u r => setItem (.ref a) u r) I c hk hl rk ru rv rr (fun his D hz hQ => wpAny_setItem_pairs (hsz := hz) his D hQ)
    (fun eu his D hz hQ => by subst eu; exact wpAny_setItem_heap (hsz := hz) (by show X.A.units + 1 + 8 < cLine; omega) his D hQ) h
theorem set_dictC {a : Addr} {kvs : List (Val × Val)} {k v : Val} {x y : V} {u r : Value} {Post : Hp → Prop} {E : Value → Shared → Prop} (hu : X.A.units + 200 < cLine) (I : Inv X pins σ H s) (c : CRel X.prog X.w X.K H m n (.dict kvs) a) (hk : dkOk kvs k = true) (hl : kvs.length < LIM)
    (rk : VRel X.K H m n k x) (ru : RelV x u) (rv : VRel X.K H m n v y) (rr : RelV y r) (h : ∀ o', CRel X.prog X.w X.K (upd H a (AtO a o')) m n (.dict (dput kvs k v)) a → Post (upd H a (AtO a o'))) :
    wpAny (model X.prog X.w) X.A (dictSet a u r) (fun _ s' => ∃ H', Inv X pins σ H' s' ∧ Post H') E s :=
  dict_write (act := fun u r => dictSet a u r) I c hk hl rk ru rv rr (fun his D hz hQ => wpAny_dictSet_pairs (hsz := hz) his D hQ)
    (fun eu his D hz hQ => by subst eu; exact wpAny_dictSet_heap (hsz := hz) (by show X.A.units + 8 < cLine; omega) his D hQ) h
end
end D


set_option Elab.async false
set_option linter.all false
set_option maxHeartbeats 2000000
set_option maxRecDepth 100000
/-! EB: o[k] = v. -/
namespace D
open PySem PySem.Spec PyProof.Rows L2
section
variable {P : Program} {w : World} {K : PySem.W.Frag} {B H H' : Hp} {m m' : Nat → Addr} {n n' : Nat} {st st' : Store} {ρ ρ' : Sl} {σ σ' : L2.St}
/-- a place of the store is written -/
theorem sim_write (S : Sim P w K H m ρ st σ) {l : Nat} {c : Cell} {o : HO} (hl : l < st.length) (hc : CRel P w K (upd H (m l) o) m st.length c (m l)) : Sim P w K (upd H (m l) o) m ρ (st.set l c) σ := by
  refine ⟨S.heap.write hl hc, ?_⟩
  rw [List.length_set]
  refine ⟨fun i x e => ?_, S.slot.own, S.slot.len⟩
  obtain ⟨v, e1, r⟩ := S.slot.get i x e
  refine ⟨v, e1, ?_⟩
  cases x with
  | v y => exact VRel.stay (tups_write S.heap o hl) (fun _ _ => rfl) (Nat.le_refl _) r
  | t d k =>
    obtain ⟨a, e2, hd, hn⟩ := r
    exact ⟨a, e2, hd.stay (tups_write S.heap o hl) (fun _ _ => rfl) (Nat.le_refl _) fun u q => by rw [upd_ne fun z => hn l hl z.symm]; exact q, hn⟩
/-- what a slot owns is written -/
theorem sim_slot (S : Sim P w K H m ρ st σ) {i : Nat} {c c' : Cell} {a : Addr} {o o' : HO} [NoT o'] (h1 : ρ[i]? = some (some (.t c false))) (h2 : σ[i]? = some (some (.ref a))) (hp : H a = some o) (h0 : NoTbl o) (hf : ∀ oc u, o ≠ .frz oc u) (ht : ∀ xs, ¬ Rd H a (.tup xs)) (hn : ∀ l, l < st.length → m l ≠ a)
    (hc : CRel P w K (upd H a o') m st.length c' a) : Sim P w K (upd H a o') m (ρ.set i (some (.t c' false))) st σ := by
  have hl := (List.getElem?_eq_some_iff.mp h1).1
  refine ⟨S.heap.other hp h0 hf ht hn, ⟨fun j x e => ?_, fun j k d d' b v e1 e2 e3 e4 => ?_, by simp [S.slot.len]⟩⟩
  · by_cases hj : i = j
    · subst hj
      rw [List.getElem?_set_self hl] at e
      cases e
      exact ⟨.ref a, h2, ⟨a, rfl, hc, hn⟩⟩
    · rw [List.getElem?_set_ne hj] at e
      obtain ⟨v, e1, r⟩ := S.slot.get j x e
      refine ⟨v, e1, ?_⟩
      cases x with
      | v y => exact VRel.stay (tups_upd hp ht) (fun _ _ => rfl) (Nat.le_refl _) r
      | t d k =>
        obtain ⟨a2, rfl, hd, hn2⟩ := r
        have hne : a2 ≠ a := fun z => by
          subst z
          exact hj (S.slot.own i j c d k _ h1 e h2 e1)
        exact ⟨a2, rfl, hd.stay (tups_upd hp ht) (fun _ _ => rfl) (Nat.le_refl _) fun u q => by rw [upd_ne hne]; exact q, hn2⟩
  · have own : ∀ {x y : Nat} {d : Cell} {b : Bool}, x = i → y ≠ i → ρ[y]? = some (some (.t d b)) → σ[y]? = σ[x]? → False := fun {x y d b} hx hy e5 e6 => by
      subst hx
      rw [h2] at e6
      exact hy (S.slot.own x y c d b _ h1 e5 h2 e6).symm
    by_cases hj : i = j
    · by_cases hk : i = k
      · omega
      · exfalso
        rw [List.getElem?_set_ne hk] at e2
        exact own hj.symm (fun z => hk z.symm) e2 (e4.trans e3.symm)
    · rw [List.getElem?_set_ne hj] at e1
      by_cases hk : i = k
      · exfalso
        exact own hk.symm (fun z => hj z.symm) e1 (e3.trans e4.symm)
      · rw [List.getElem?_set_ne hk] at e2
        exact S.slot.own j k d d' b v e1 e2 e3 e4
theorem nx_slot (b : Bs B m n H) {a : Addr} (o : HO) (hB : B a = none) : Nx B m n m n (upd H a o) :=
  ⟨Nat.le_refl _, fun _ _ => rfl, fun d u e => by rw [upd_ne fun z => by rw [z, hB] at e; cases e]; exact b.sub d u e, fun l h1 h2 => absurd (Nat.lt_of_lt_of_le h2 h1) (Nat.lt_irrefl _)⟩
theorem out_slot (o : OutS B ρ σ) {i : Nat} {c c' : Cell} (h1 : ρ[i]? = some (some (.t c false))) : OutS B (ρ.set i (some (.t c' false))) σ := fun j d a e1 e2 => by
  by_cases hj : i = j
  · subst hj
    exact o i c a h1 e2
  · rw [List.getElem?_set_ne hj] at e1
    exact o j d a e1 e2
theorem keep_slot {i : Nat} {c' : Cell} : KeepK ρ σ (ρ.set i (some (.t c' false))) σ := fun j d e => by
  by_cases hj : i = j
  · subst hj
    by_cases hl : i < ρ.length
    · rw [List.getElem?_set_self hl] at e; cases e
    · rw [List.getElem?_eq_none (by simp; omega)] at e; cases e
  · rw [List.getElem?_set_ne hj] at e
    exact ⟨e, rfl⟩
theorem keep_len {l : Nat} {c : Cell} : (st.set l c).length = st.length := List.length_set
end
section
variable {X : Cx} {XR : XRel} {W : WX} {B : Hp} {m m' : Nat → Addr} {n n' : Nat} {ρ ρ' : Sl} {σ σ' : L2.St} {D : Ends} {H H' : Hp} {st st' : Store}
/-- by what it does -/
def rSemSet (X : Cx) : TSet := fun o i v H Q => ∀ (pins : List (Addr × Obj)) (s : Shared) (σ : L2.St) (ov iv u : Value), Inv X pins σ H s → RelV o ov → RelV i iv → RelV v u →
  wpAny (model X.prog X.w) X.A (setItem ov iv u) (fun _ s' => ∃ H', Inv X pins σ H' s' ∧ Q H') X.xe s
theorem pset_sem (X : Cx) : PSet X (rSemSet X) := fun pins s σ H o i v ov iv u Q I r1 r2 r3 h => h pins s σ ov iv u I r1 r2 r3
/-- the written cell -/
theorem put_ok (hu : X.A.units + 200 < cLine) {a : Addr} {c c' : Cell} {k v : Val} {x y : V} {Q : Hp → Prop} (hc : CRel X.prog X.w X.K H m n c a) (hp : putOp c k v = some c') (rk : VRel X.K H m n k x) (rv : VRel X.K H m n v y)
    (h : ∀ o' : HO, NoTbl o' → CRel X.prog X.w X.K (upd H a o') m n c' a → Q (upd H a o')) : rSemSet X (.ref a) x y H Q := by
  intro pins s σ ov iv u I r1 r2 r3
  cases c with
  | lst vs =>
    cases k with
    | int i =>
      simp only [putOp, Option.map_eq_some_iff] at hp
      obtain ⟨j, hj, rfl⟩ := hp
      obtain ⟨ws, e, rw⟩ := hc
      cases rk
      refine set_list pins s σ H _ _ _ ov iv u Q I r1 r2 r3 ⟨a, ws, i, j, rfl, rfl, e, by rw [← rw.length]; exact hj, h _ True.intro ⟨_, upd_same, ?_⟩⟩
      exact (rw.set j rv).stay (tups_upd e (not_tup_lst e)) (fun _ _ => rfl) (Nat.le_refl _)
    | _ => simp [putOp] at hp
  | dict kvs =>
    simp only [putOp] at hp
    split at hp
    · rename_i hd
      cases hp
      simp only [Bool.and_eq_true, decide_eq_true_eq] at hd
      cases r1
      exact set_dictA hu I hc hd.1 hd.2 rk r2 rv r3 fun o' ho' => h _ True.intro ho'
    · cases hp
  | set _ => simp [putOp] at hp
  | inst _ _ => simp [putOp] at hp
theorem rd_put (hu : X.A.units + 200 < cLine) {ee eo ek : Sl → M EV} (h : rdS X W XR (fun ρ => toS (do
      let y ← ee ρ
      let v ← intern y
      let x ← eo ρ
      let k ← ek ρ
      let kv ← intern k
      (.pure (v, x, kv) : M (Val × EV × Val))) ρ (putKt ρ)) D σ H) : tAsg (rdE X W XR ee) (gSub (rdE X W XR eo) (rdE X W XR ek) (rSemSet X)) D σ H := by
  obtain ⟨B, ρ, st, m, S, b, o, h⟩ := h
  have h := h.toM S b o
  refine rd_seq S (bs_out _ _ _) h fun y v m1 st1 H1 s1 S1 b1 ry h1 => ?_
  obtain ⟨yv, st2, m2, S2, b2, ryv, _, _, _, h2⟩ := intern_ok S1 b1 ry (fun _ _ e => e) (fun i c k a e1 e2 => own_out S e1 e2) h1
  refine rd_seq S2 b2 h2 fun x xv m3 st3 H3 s3 S3 b3 rx h3 => ?_
  have ryv3 := ryv.stay (s3.tups S2.heap) s3.agree s3.le
  refine rd_seq S3 b3 h3 fun k kv m4 st4 H4 s4 S4 b4 rk h4 => ?_
  have ryv4 := ryv3.stay (s4.tups S3.heap) s4.agree s4.le
  have rx4 := rx.step S3.heap s4
  obtain ⟨kvv, st5, m5, S5, b5, rkv, ag5, le5, _, h5⟩ := intern_ok S4 b4 rk b3.le_out (fun i c k a e1 e2 => own_out S3 e1 e2) h4
  have ryv5 := ryv4.stay (fun _ _ r => r) ag5 le5
  obtain ⟨_, b6, h6⟩ := h5.done b5 S5.heap
  dsimp only [putKt] at h6
  split at h6
  · rename_i l
    obtain ⟨hl4, rfl⟩ := rx4
    cases e : st5[l]? with
    | none => rw [e] at h6; exact h6.elim
    | some c =>
      rw [e] at h6
      simp only [Option.bind_some] at h6
      cases ep : putOp c kvv yv with
      | none => rw [ep] at h6; exact h6.elim
      | some c' =>
        rw [ep] at h6
        have hl5 : l < st5.length := (List.getElem?_eq_some_iff.mp e).1
        have hcell := S5.heap.cell l c e
        rw [← ag5 l hl4]
        refine put_ok hu hcell ep rkv ryv5 fun o' _ hc' => ?_
        refine h6 m5 σ _ ?_ (sim_write S5 hl5 hc') o (.refl _ _)
        rw [List.length_set]
        exact nx_write b6 o' hl5
  · exact h6.elim
theorem rd_sput (hu : X.A.units + 200 < cLine) {j : Nat} {ee ek : Sl → M EV} (h : rdS X W XR (sputS j fun ρ => do
      let y ← ee ρ
      let v ← intern y
      let k ← ek ρ
      let kv ← intern k
      (.pure (v, kv) : M (Val × Val))) D σ H) : tAsg (rdE X W XR ee) (gSub (fun σ H Q => ∃ v, σ[j]? = some (some v) ∧ Q v H) (rdE X W XR ek) (rSemSet X)) D σ H := by
  obtain ⟨B, ρ, st, m, S, b, o, h⟩ := h
  obtain ⟨c, hj⟩ : ∃ c, ρ[j]? = some (some (.t c false)) := by
    unfold sputS at h
    cases e : ρ[j]? with
    | none => simp only [e] at h; exact h.elim
    | some y =>
      cases y with
      | none => simp only [e] at h; exact h.elim
      | some z =>
        cases z with
        | v _ => simp only [e] at h; exact h.elim
        | t c k => cases k with
          | true => simp only [e] at h; exact h.elim
          | false => exact ⟨c, rfl⟩
  unfold sputS at h
  simp only [hj] at h
  have h := h.toM S b o
  refine rd_seq S (bs_out _ _ _) h fun y v m1 st1 H1 s1 S1 b1 ry h1 => ?_
  obtain ⟨yv, st2, m2, S2, b2, ryv, _, _, _, h2⟩ := intern_ok S1 b1 ry (fun _ _ e => e) (fun i c k a e1 e2 => own_out S e1 e2) h1
  obtain ⟨u, e2, a, rfl, hca, hna⟩ := S2.slot.get j _ hj
  refine ⟨.ref a, e2, rd_seq S2 b2 h2 fun k kv m4 st4 H4 s4 S4 b4 rk h4 => ?_⟩
  have ryv4 := ryv.stay (s4.tups S2.heap) s4.agree s4.le
  obtain ⟨kvv, st5, m5, S5, b5, rkv, ag5, le5, _, h5⟩ := intern_ok S4 b4 rk b2.le_out (fun i c k a e1 e2 => own_out S2 e1 e2) h4
  have ryv5 := ryv4.stay (fun _ _ r => r) ag5 le5
  obtain ⟨_, b6, h6⟩ := h5.done b5 S5.heap
  dsimp only [sputK] at h6
  cases ep : putOp c kvv yv with
  | none => rw [ep] at h6; exact h6.elim
  | some c' =>
    rw [ep] at h6
    obtain ⟨u', e3, a', ea, hc5, hn5⟩ := S5.slot.get j _ hj
    rw [e2] at e3
    cases e3
    cases ea
    obtain ⟨ob, ho, ht, hf, hnt⟩ := hc5.some
    refine put_ok hu hc5 ep rkv ryv5 fun o' hno hc' => ?_
    haveI : NoT o' := ⟨hno⟩
    exact h6 m5 σ _ (nx_slot b6 o' (o j c a hj e2)) (sim_slot S5 hj e2 ho ht hf hnt hn5 hc') (out_slot o hj) keep_slot
end
end D


set_option Elab.async false
set_option linter.all false
set_option maxHeartbeats 2000000
set_option maxRecDepth 100000
/-! EC: x.append(e), x.extend(e); x += e; raise. -/
namespace D
open PySem PySem.Spec PyProof.Rows L2
def Mth.id : Mth → String
  | .append => "list.append" | .extend => "list.extend" | .update => "dict.update" | _ => ""
section
variable {X : Cx} {XR : XRel} {W : WX} {B : Hp} {m m' : Nat → Addr} {n n' : Nat} {ρ ρ' : Sl} {σ σ' : L2.St} {D : Ends} {H H' : Hp} {st st' : Store}
theorem i_append : MInfo "list" "append" "list.append" := ⟨PySem.F.plainAttrs_list, PySem.F.slot_list_append, PySem.F.type_list_append⟩
theorem i_extend : MInfo "list" "extend" "list.extend" := ⟨PySem.F.plainAttrs_list, PySem.F.slot_list_extend, PySem.F.type_list_extend⟩
theorem rSemM_of {id : String} {r : V → List V → Hp → VK → Prop} (h : MtM X id r) {x : V} {xs : List V} {Q : VK} (q : r x xs H Q) : rSemM X id x xs H Q := fun pins s σ v us I rx rv => h pins s σ H x xs v us Q I rx rv q
/-- the list is longer -/
theorem app_sound {a : Addr} {c c' : Cell} {x : EV} {k : Mth} {v : V} {B1 : Hp} {Q : VK} (hk : k = .append ∨ k = .extend) (S : Sim X.prog X.w X.K H m ρ st σ) (hc : CRel X.prog X.w X.K H m st.length c a) (rx : EVRel X.prog X.w X.K H m st.length B1 ρ σ x v) (hp : appOp k c x st = some c')
    (h : ∀ o' : HO, NoTbl o' → CRel X.prog X.w X.K (upd H a o') m st.length c' a → Q .non (upd H a o')) : rSemM X k.id (.ref a) [v] H Q := by
  cases c with
  | lst vs =>
    obtain ⟨ws, e, rw⟩ := hc
    rcases hk with rfl | rfl
    · cases x with
      | v y =>
        simp only [appOp] at hp
        split at hp
        · rename_i hl
          cases hp
          refine rSemM_of mt_append ⟨a, ws, v, rfl, rfl, e, by rw [← rw.length]; exact lim_lt hl, h _ True.intro ⟨_, upd_same, ?_⟩⟩
          exact (rw.append (VRels.one rx)).stay (tups_upd e (not_tup_lst e)) (fun _ _ => rfl) (Nat.le_refl _)
        · cases hp
      | t d => simp [appOp] at hp
      | b i d => simp [appOp] at hp
    · have hp : (match cellOf st x with
        | some (.lst ws) => if vs.length + ws.length ≤ LIM then some (Cell.lst (vs ++ ws)) else none
        | _ => none) = some c' := by cases x <;> exact hp
      split at hp
      · rename_i us hx
        split at hp
        · rename_i hl
          cases hp
          obtain ⟨q, zs, rfl, e2, rz⟩ := cell_lst S rx hx
          refine rSemM_of mt_extend ⟨a, q, ws, zs, rfl, rfl, e, e2, lim_line (by rw [← rw.length, ← rz.length]; exact hl), h _ True.intro ⟨_, upd_same, ?_⟩⟩
          exact (rw.append rz).stay (tups_upd e (not_tup_lst e)) (fun _ _ => rfl) (Nat.le_refl _)
        · cases hp
      · cases hp
  | dict kvs => rcases hk with rfl | rfl <;> (cases x <;> simp [appOp] at hp)
  | set _ => rcases hk with rfl | rfl <;> (cases x <;> simp [appOp] at hp)
  | inst _ _ => rcases hk with rfl | rfl <;> (cases x <;> simp [appOp] at hp)
theorem kind_ty {k : Mth} {c : Cell} {a : Addr} (hk : k = .append ∨ k = .extend) (h : kindOk k c = true) (hc : CRel X.prog X.w X.K H m n c a) : ∃ id, MInfo "list" (Str.ofString k.nm) id ∧ id = k.id ∧ TyS X (.ref a) H "list" := by
  cases c with
  | lst vs =>
    obtain ⟨ws, e, _⟩ := hc
    rcases hk with rfl | rfl
    · exact ⟨_, i_append, rfl, ty_lst e⟩
    · exact ⟨_, i_extend, rfl, ty_lst e⟩
  | _ => rcases hk with rfl | rfl <;> cases h
/-- the argument's value, then the rest -/
theorem appA_rd {ee : Sl → M EV} {k : Mth} {R : EV → (Nat → Addr) → Store → Hp → Prop} {Q : VK} (hk : k = .append ∨ k = .extend) (S : Sim X.prog X.w X.K H m ρ st σ) (h : PostM X.prog X.w X.K XR (WE W σ) (outB H m st.length) m st.length R (appA k (ee ρ) st))
    (hq : ∀ x v m1 st1 H1, Nx (outB H m st.length) m st.length m1 st1.length H1 → Sim X.prog X.w X.K H1 m1 ρ st1 σ → Bs (outB H m st.length) m1 st1.length H1 → EVRel X.prog X.w X.K H1 m1 st1.length (outB H m st.length) ρ σ x v → R x m1 st1 H1 → Q v H1) : rdE X W XR ee σ H Q := by
  rcases hk with rfl | rfl
  · refine rd_seq S (bs_out _ _ _) h fun y v m1 st1 H1 s1 S1 b1 ry h1 => ?_
    obtain ⟨yv, st2, m2, S2, b2, ryv, ag, le, _, h2⟩ := intern_ok S1 b1 ry (fun _ _ e => e) (fun i c k a e1 e2 => own_out S e1 e2) h1
    refine hq (.v yv) v m2 st2 H1 ?_ S2 b2 ryv (h2.done b2 S2.heap)
    exact ⟨Nat.le_trans s1.le le, fun l hl => (ag l (Nat.lt_of_lt_of_le hl s1.le)).trans (s1.agree l hl), b2.sub, fun l _ hl => b2.out l hl⟩
  · refine ⟨outB H m st.length, ρ, st, m, S, bs_out _ _ _, PostM.imp h fun x m1 st1 H1 x1 hr1 hR v rv => ?_⟩
    exact hq x v m1 st1 H1 x1 (S.step (x1.step hr1) hr1) (x1.bs (bs_out _ _ _)) rv hR
/-- x.append(e), x.extend(e) -/
theorem rd_app {j : Nat} {k : Mth} {ee : Sl → M EV} (hk : k = .append ∨ k = .extend) (h : rdS X W XR (appS j k ee) D σ H) :
    tDrop (tMG X (Str.ofString k.nm) (fun σ H Q => ∃ v, σ[j]? = some (some v) ∧ Q v H) (tCons (rdE X W XR ee) tNil)) D σ H := by
  obtain ⟨B, ρ, st, m, S, b, o, h⟩ := h
  unfold appS at h
  split at h
  · rename_i c hj
    split at h
    · rename_i hkind
      obtain ⟨u, e2, a, rfl, hca, hna⟩ := S.slot.get j _ hj
      obtain ⟨id, hi, rfl, hty⟩ := kind_ty hk hkind hca
      refine ⟨.ref a, e2, "list", _, hi, hty, appA_rd hk S (h.toM S b o) fun x v m1 st1 H1 x1 S1 b1 rx ⟨_, b2, h2⟩ => ?_⟩
      unfold appK1 at h2
      cases ep : appOp k c x st1 with
      | none => rw [ep] at h2; exact h2.elim
      | some c' =>
        rw [ep] at h2
        obtain ⟨u', e3, a', ea, hc5, hn5⟩ := S1.slot.get j _ hj
        rw [e2] at e3
        cases e3
        cases ea
        obtain ⟨ob, ho, ht, hf, hnt⟩ := hc5.some
        refine app_sound hk S1 hc5 rx ep fun o' hno hc' => ?_
        haveI : NoT o' := ⟨hno⟩
        exact h2 m1 σ _ (nx_slot b2 o' (o j c a hj e2)) (sim_slot S1 hj e2 ho ht hf hnt hn5 hc') (out_slot o hj) keep_slot
    · exact h.elim
  · rename_i l hj
    split at h
    · rename_i hkind
      obtain ⟨u, e2, hl, rfl⟩ := S.slot.get j _ hj
      obtain ⟨c, hc, hkc⟩ : ∃ c, st[l]? = some c ∧ kindOk k c = true := by
        cases e : st[l]? with
        | none => rw [e] at hkind; cases hkind
        | some c => rw [e] at hkind; exact ⟨c, rfl, hkind⟩
      obtain ⟨id, hi, rfl, hty⟩ := kind_ty hk hkc (S.heap.cell l c hc)
      refine ⟨.ref (m l), e2, "list", _, hi, hty, appA_rd hk S (h.toM S b o) fun x v m1 st1 H1 x1 S1 b1 rx ⟨_, b2, h2⟩ => ?_⟩
      unfold appK2 at h2
      cases e5 : st1[l]? with
      | none => rw [e5] at h2; exact h2.elim
      | some c5 =>
        rw [e5] at h2
        simp only [Option.bind_some] at h2
        cases ep : appOp k c5 x st1 with
        | none => rw [ep] at h2; exact h2.elim
        | some c' =>
          rw [ep] at h2
          have hl5 : l < st1.length := (List.getElem?_eq_some_iff.mp e5).1
          have hcell := S1.heap.cell l c5 e5
          rw [x1.agree l hl] at hcell
          refine app_sound hk S1 hcell rx ep fun o' hno hc' => ?_
          rw [← x1.agree l hl] at hc' ⊢
          refine h2 m1 σ _ ?_ (sim_write S1 hl5 hc') o (.refl _ _)
          rw [List.length_set]
          exact nx_write b2 o' hl5
    · exact h.elim
  · exact h.elim
end
end D


set_option Elab.async false
set_option linter.all false
set_option maxHeartbeats 2000000
set_option maxRecDepth 100000
/-! ED: x op= e, raise, x, y = a, b. -/
namespace D
open PySem PySem.Spec PyProof.Rows L2
section
variable {X : Cx} {XR : XRel} {W : WX} {B : Hp} {m m' : Nat → Addr} {n n' : Nat} {ρ ρ' : Sl} {σ σ' : L2.St} {D : Ends} {H H' : Hp} {st st' : Store} {pos : Pos}
/-- a slot is given a value -/
theorem set_v (S : Sim X.prog X.w X.K H m ρ st σ) (o : OutS B ρ σ) {i : Nat} {x : Val} {v : V} (r : VRel X.K H m st.length x v) : Sim X.prog X.w X.K H m (ρ.set i (some (.v x))) st (σ.set i (some v)) ∧ OutS B (ρ.set i (some (.v x))) (σ.set i (some v)) ∧ KeepK ρ σ (ρ.set i (some (.v x))) (σ.set i (some v)) := by
  have no : ∀ {j c k}, (ρ.set i (some (.v x)))[j]? = some (some (.t c k)) → i ≠ j := fun {j c k} e z => by
    subst z
    by_cases hl : i < ρ.length
    · rw [List.getElem?_set_self hl] at e; cases e
    · rw [List.getElem?_eq_none (by simp; omega)] at e; cases e
  refine ⟨⟨S.heap, S.slot.setV r⟩, fun j c a e1 e2 => ?_, fun j c e => ?_⟩
  · have hj := no e1
    rw [List.getElem?_set_ne hj] at e1 e2
    exact o j c a e1 e2
  · have hj := no e
    rw [List.getElem?_set_ne hj] at e ⊢
    exact ⟨e, rfl⟩
/-- op= on values by what it does -/
def rSemIp (X : Cx) (op : Operator) : TIp := fun x y H Q => ∀ (pins : List (Addr × Obj)) (s : Shared) (σ : L2.St) (v u : Value), Inv X pins σ H s → RelV x v → RelV y u → wpAny (model X.prog X.w) X.A (inplaceOp op v u) (EP X pins σ Q) X.xe s
theorem pip_sem (X : Cx) (op : Operator) : PIp X op (rSemIp X op) := fun pins s σ H x y v u Q I r1 r2 h => h pins s σ v u I r1 r2
theorem ip_sound {E : XK} {o : Bop} {x : Val} {y : EV} {v u : V} {B1 : Hp} {Q : VK} (ho : o = .add ∨ o = .sub) (S : Sim X.prog X.w X.K H m ρ st σ) (b : Bs B m st.length H) (rx : VRel X.K H m st.length x v) (ry : EVRel X.prog X.w X.K H m st.length B1 ρ σ y u)
    (hi : ∃ i, x = .int i) (h : PostM X.prog X.w X.K XR E B m st.length (RQ X B ρ σ Q) (bop o (.v x) y st)) : rSemIp X o.op v u H Q := by
  obtain ⟨i, rfl⟩ := hi
  cases rx
  rcases ho with rfl | rfl
  · cases y with
    | v z => cases z with
      | int j =>
        cases ry
        exact fun pins s σ v u I r1 r2 => ip_add pins s σ H _ _ v u Q I r1 r2 ⟨i, j, rfl, rfl, h.done b S.heap _ rfl⟩
      | _ => exact h.elim
    | t c => exact h.elim
    | b k c => exact h.elim
  · cases y with
    | v z => cases z with
      | int j =>
        cases ry
        exact fun pins s σ v u I r1 r2 => ip_sub pins s σ H _ _ v u Q I r1 r2 ⟨i, j, rfl, rfl, h.done b S.heap _ rfl⟩
      | _ => exact h.elim
    | t c => exact h.elim
    | b k c => exact h.elim
/-- raise C('..') -/
theorem rd_raise {c : String} {u : Value} {Γ : Calls} (hx : ∀ (m : Nat → Addr) (n : Nat) (H : Hp), XR c [] m n u none H) (h : rdS X W XR (evalS Γ (.raise c .nil)) D σ H) : W u none σ H := by
  obtain ⟨B, ρ, st, m, S, b, o, h⟩ := h
  exact h m σ H u none (Nx.refl b) S o (.refl _ _) (hx _ _ _)
/-- x, y = a, b -/
theorem rd_asg2 {i j : Nat} {ea eb : Sl → M EV} (h : rdS X W XR (fun ρ => toS (do let x ← ea ρ; let y ← eb ρ; .pure (x, y)) ρ (asg2K (.nm i) (.nm j) ρ)) D σ H) : tPar i j (tCons (rdE X W XR ea) (tCons (rdE X W XR eb) tNil)) D σ H := by
  obtain ⟨B, ρ, st, m, S, b, o, h⟩ := h
  have h := h.toM S b o
  refine rd_seq S (bs_out _ _ _) h fun x v m1 st1 H1 s1 S1 b1 rx h1 => ?_
  refine rd_seq S1 b1 h1 fun y w m2 st2 H2 s2 S2 b2 ry h2 => ?_
  refine ⟨v, w, rfl, ?_⟩
  obtain ⟨_, b3, h3⟩ := h2.done b2 S2.heap
  unfold asg2K at h3
  cases e : assigns1 [.nm i, .nm j] [x, y] ρ with
  | none => rw [e] at h3; exact h3.elim
  | some ρ' =>
    rw [e] at h3
    simp only [assigns1, Option.bind_eq_some_iff] at e
    obtain ⟨ρ1, e1, ρ2, e2, e3⟩ := e
    cases e3
    have rx2 := rx.step S1.heap s2
    have le1 : ∀ a u, B a = some u → outB H1 m1 st1.length a = some u := fun a u e => b1.le_out a u (b.le_out a u e)
    obtain ⟨S3, o3, k3⟩ : Sim X.prog X.w X.K H2 m2 ρ1 st2 (σ.set i (some v)) ∧ OutS B ρ1 (σ.set i (some v)) ∧ KeepK ρ σ ρ1 (σ.set i (some v)) :=
      assign1_ok (t := .nm i) (Q := fun σ1 _ => Sim X.prog X.w X.K H2 m2 ρ1 st2 σ1 ∧ OutS B ρ1 σ1 ∧ KeepK ρ σ ρ1 σ1) S2 o b.le_out (fun i c k a e1 e2 => own_out S e1 e2) (rx2.less (bs_out H m st.length).le_out) e1 fun σ1 S3 o3 k3 => ⟨S3, o3, k3⟩
    have ne : ∀ l, l ≠ i → ρ1[l]? = ρ[l]? := fun l hl => by
      cases x with
      | v z =>
        rw [assign1_v] at e1
        exact assign_same (.nm i) z ρ ρ1 e1 l (by simpa [T.ids] using hl)
      | t c =>
        simp only [assign1] at e1
        split at e1
        · cases e1; exact List.getElem?_set_ne (fun z => hl z.symm)
        · cases e1
      | b i c => simp [assign1] at e1
    have own : ∀ (l : Nat) (c : Cell) (k : Bool) (a : Addr), ρ1[l]? = some (some (.t c k)) → (σ.set i (some v))[l]? = some (some (.ref a)) → ∃ o, outB H1 m1 st1.length a = some o := fun l c k a g1 g2 => by
      by_cases hl : l = i
      · subst hl
        cases x with
        | v z =>
          rw [assign1_v] at e1
          obtain ⟨z', ez⟩ := assign_v (.nm l) z ρ ρ1 e1 l (by simp [T.ids])
          rw [ez] at g1
          cases g1
        | t c0 =>
          simp only [assign1] at e1
          split at e1
          · rename_i hlt
            cases e1
            have hs : l < σ.length := by rw [← S.slot.len]; exact hlt
            rw [List.getElem?_set_self hs] at g2
            cases g2
            obtain ⟨a', ea, hc, hn, _⟩ := rx
            cases ea
            obtain ⟨ob, ho, ht, _⟩ := hc.some
            exact ⟨ob, outB_some.mpr ⟨ho, ht, hn⟩⟩
          · cases e1
        | b i c => simp [assign1] at e1
      · rw [ne l hl] at g1
        rw [List.getElem?_set_ne (fun z => hl z.symm)] at g2
        exact own_out S1 g1 g2
    have ry2 : EVRel X.prog X.w X.K H2 m2 st2.length (outB H1 m1 st1.length) ρ1 (σ.set i (some v)) y w := by
      cases y with
      | v z => exact ry
      | t c => exact ry
      | b l c => simp [assign1] at e2
    refine assign1_ok (t := .nm j) (Q := D.nx) S3 o3 le1 own ry2 e2 fun σ2 S4 o4 k4 => ?_
    exact PostS.nx h3 b3 S4 o4 (k3.trans k4)
end
end D


set_option Elab.async false
set_option linter.all false
set_option maxHeartbeats 2000000
set_option maxRecDepth 100000
/-! EE: x op= e. -/
namespace D
open PySem PySem.Spec PyProof.Rows L2
section
variable {X : Cx} {XR : XRel} {W : WX} {B : Hp} {m m' : Nat → Addr} {n n' : Nat} {ρ ρ' : Sl} {σ σ' : L2.St} {D : Ends} {H H' : Hp} {st st' : Store} {pos : Pos}
/-- x op= e, x an int -/
theorem rd_aug {i : Nat} {o : Bop} {ee : Sl → M EV} (ho : o = .add ∨ o = .sub) (h : rdS X W XR (augS i o ee) D σ H) : tAug i (rdE X W XR ee) (rSemIp X o.op) D σ H := by
  obtain ⟨B, ρ, st, m, S, b, oo, h⟩ := h
  obtain ⟨k, hx⟩ : ∃ k, ρ[i]? = some (some (.v (.int k))) := by
    unfold augS at h
    cases e : ρ[i]? with
    | none => simp only [e] at h; exact h.elim
    | some y =>
      cases y with
      | none => simp only [e] at h; exact h.elim
      | some z =>
        cases z with
        | v q => cases q with
          | int k => exact ⟨k, rfl⟩
          | _ => simp only [e] at h; exact h.elim
        | t c k => simp only [e] at h; exact h.elim
  unfold augS at h
  simp only [hx] at h
  obtain ⟨v, e1, r⟩ := S.slot.get i _ hx
  have h := h.toM S b oo
  refine ⟨v, e1, rd_seq S (bs_out _ _ _) h fun y u m1 st1 H1 s1 S1 b1 ry h1 => ?_⟩
  have r1 := VRel.stay (s1.tups S.heap) s1.agree s1.le r
  refine ip_sound (B := outB H1 m1 st1.length) (XR := XR) (E := WE W σ) (ρ := ρ) (σ := σ) ho S1 (bs_out _ _ _) r1 ry ⟨k, rfl⟩ ((h1.more b1.le_out).imp fun z m2 st2 H2 x2 hr2 ⟨S2, b2, h2⟩ w rw => ?_)
  cases z with
  | v q =>
    obtain ⟨g1, g2, g3⟩ := set_v (i := i) S2 oo rw
    exact PostS.nx h2 b2 g1 g2 g3
  | t c => exact h2.elim
  | b k c => exact h2.elim
end
end D


set_option Elab.async false
set_option linter.all false
set_option maxHeartbeats 2000000
set_option maxRecDepth 100000
/-! EF: list comprehensions, all, any: rules. -/
namespace D
open PySem PySem.Spec PyProof.Rows L2
section
variable {X : Cx} {XR : XRel} {W : WX} {k : Nat} {cc PP : Addr} {ei : Sl → M Src} {ec : Sl → M Bool} {ee : Sl → M EV} {t : T} {elt tg iter : Expr} {ifs : List Expr} {scope : Scope} {own : List (Str × Nat)} {pos gpos p : Pos}
theorem rdI_mono {R R' : It → Hp → Prop} {ev : Sl → M Src} {σ : L2.St} {H : Hp} (h : rdI X W XR ev σ H R) (hi : ∀ J H1, R J H1 → R' J H1) : rdI X W XR ev σ H R' :=
  let ⟨B, ρ, st, m, S, b, h⟩ := h
  ⟨B, ρ, st, m, S, b, h.imp fun s m' st' H' _ _ q as J k => hi _ _ (q as J k)⟩
/-- what the block's rules are, wherever the block starts -/
abbrev BlkR (X : Cx) (XR : XRel) (scope : Scope) (tg elt : Expr) (ifs : List Expr) (t : T) (ec : Sl → M Bool) (ee : Sl → M EV) : Prop := ∀ (s : Shared) (H : Hp) (fp : List Addr) (pins : List (Addr × Obj)) (σ : L2.St), Inv X pins σ H s →
  PG (X.blk s H scope (blkE X s scope) fp) tg (tG X.K t) ∧ PTs (X.blk s H scope (blkE X s scope) fp) ifs (rdB X W0 XR ec) ∧ PE (X.blk s H scope (blkE X s scope) fp) elt (rdE X W0 XR ee)
theorem s_lc (hc : X.calm = true) (hN : X.N.Nodup) (hi : PI X tg iter (rdI X W XR ei)) (ok : BlkOk X.N X.env.scope scope own) (hid : ∀ i ∈ t.ids, i ∈ own.map (·.2)) (hb : BlkR X XR scope tg elt ifs t ec ee) (hs : ∀ x, foldedSetIterable iter X.env x = pure x) :
    PE X (.ListComp elt [⟨tg, iter, ifs, 0⟩] scope pos) (rdE X W XR fun ρ => do
      let s ← ei ρ
      let vs ← compL (fun st => s.gd.ok ρ st) (bodyM t (own.map (·.2)) ρ ec (fun ρ2 => mkV (ee ρ2)) (.pure none)) s.vals
      finL vs) :=
  PE.imp (pe_ck listK hc hN hi ok (fun s H fp pins σ I => let ⟨a, b, c⟩ := hb s H fp pins σ I; ⟨a, b, ps_L rfl c⟩) hs (eval_ListComp ..)) fun σ H Q h => rdI_mono (rd_lc hid σ H Q h) fun J H1 q D hD _ => q D hD
/-- y = [..] on one line, y a local -/
theorem s_setLc {i : Nat} {y : Str} {py spos : Pos} (hc : X.calm = true) (hN : X.N.Nodup) (hy : X.N[i]? = some y) (hyl : X.env.scope.names.lookup y = some .local) (hsw : swapsWith (.ListComp elt [⟨tg, iter, ifs, 0⟩] scope pos) (some (.Name y py)) spos.line X.env = pure true)
    (hi : PI X tg iter (rdI X W XR ei)) (ok : BlkOk X.N X.env.scope scope own) (hid : ∀ i ∈ t.ids, i ∈ own.map (·.2)) (hb : BlkR X XR scope tg elt ifs t ec ee) (hs : ∀ x, foldedSetIterable iter X.env x = pure x) :
    PS X (.Assign [.Name y py] (.ListComp elt [⟨tg, iter, ifs, 0⟩] scope pos) spos) (rdS X W XR fun ρ => toS (do
      let s ← ei ρ
      let vs ← compL (fun st => s.gd.ok ρ st) (bodyM t (own.map (·.2)) ρ ec (fun ρ2 => mkV (ee ρ2)) (.pure none)) s.vals
      finL vs) ρ (asgK (.nm i) ρ)) :=
  PS.imp (ps_setCk listK hc hN hy hyl hi ok (fun s H fp pins σ I => let ⟨a, b, c⟩ := hb s H fp pins σ I; ⟨a, b, ps_L rfl c⟩) hs (exec_Assign_Name_used _ _ _ _ hsw)) fun D σ H h => rdI_mono (rd_lc hid σ H _ (rd_asg h)) fun J H1 q D hD _ => q D hD
end
end D


set_option Elab.async false
set_option linter.all false
set_option maxHeartbeats 2000000
set_option maxRecDepth 100000
/-! EG: all, any: rules. -/
namespace D
open PySem PySem.Spec PyProof.Rows L2
section
variable {X : Cx} {XR : XRel} {W : WX} {k : Nat} {cc PP : Addr} {ei : Sl → M Src} {ec : Sl → M Bool} {ee : Sl → M EV} {t : T} {elt tg iter : Expr} {ifs : List Expr} {scope : Scope} {own : List (Str × Nat)} {pos gpos p : Pos}
/-- what the rules in a generator expression's code are -/
abbrev GenR (X : Cx) (XR : XRel) (scope : Scope) (tg elt : Expr) (ifs : List Expr) (t : T) (ec : Sl → M Bool) (ee : Sl → M EV) : Prop := ∀ (s : Shared) (H : Hp) (code : Value) (fp : List Addr) (pins : List (Addr × Obj)) (σ : L2.St), Inv X pins σ H s → CodeAt H code →
  PG (gCx X s H scope (gEnv scope (cellsFrom (s.heap.objs.size + 1) scope.names (cloFrom X.env.cells scope.names [])) s.heap.objs.size code X.env) fp) tg (tG X.K t) ∧
  PTs (gCx X s H scope (gEnv scope (cellsFrom (s.heap.objs.size + 1) scope.names (cloFrom X.env.cells scope.names [])) s.heap.objs.size code X.env) fp) ifs (rdB X W0 XR ec) ∧
  PE (gCx X s H scope (gEnv scope (cellsFrom (s.heap.objs.size + 1) scope.names (cloFrom X.env.cells scope.names [])) s.heap.objs.size code X.env) fp) elt (rdE X W0 XR ee)
theorem s_all (hr : Room k X.A) (hc : X.calm = true) (hN : X.N.Nodup) (C : CodeT X cc PP) (hbm : ∃ P0, X.base.BuiltinsAt X.mg P0) (S : GenOk X scope own) (hi : PI X tg iter (rdI X W XR ei)) (hid : ∀ i ∈ t.ids, i ∈ own.map (·.2)) (hG : GenR X XR scope tg elt ifs t ec ee)
    (hs : ∀ v, genFold iter X.env v = pure v) (hg : Gl X "all") (hm : X.mg "all" = none) :
    Snd X W XR (fun ρ => do
      let s ← ei ρ
      let r ← seekL (fun st => s.gd.ok ρ st) false (bodyM t (own.map (·.2)) ρ ec (fun ρ2 => mkB (ee ρ2)) (.pure none)) s.vals
      .pure (.v (.bool r))) (.Call (.Name "all" p) [.GeneratorExp elt [⟨tg, iter, ifs, 0⟩] scope gpos] [] pos) :=
  .of (PE.imp (pe_all hr hc hN C hbm S hi hG hs hg hm) (rd_seek hid)) call_test
theorem s_any (hr : Room k X.A) (hc : X.calm = true) (hN : X.N.Nodup) (C : CodeT X cc PP) (hbm : ∃ P0, X.base.BuiltinsAt X.mg P0) (S : GenOk X scope own) (hi : PI X tg iter (rdI X W XR ei)) (hid : ∀ i ∈ t.ids, i ∈ own.map (·.2)) (hG : GenR X XR scope tg elt ifs t ec ee)
    (hs : ∀ v, genFold iter X.env v = pure v) (hg : Gl X "any") (hm : X.mg "any" = none) :
    Snd X W XR (fun ρ => do
      let s ← ei ρ
      let r ← seekL (fun st => s.gd.ok ρ st) true (bodyM t (own.map (·.2)) ρ ec (fun ρ2 => mkB (ee ρ2)) (.pure none)) s.vals
      .pure (.v (.bool r))) (.Call (.Name "any" p) [.GeneratorExp elt [⟨tg, iter, ifs, 0⟩] scope gpos] [] pos) :=
  .of (PE.imp (pe_any hr hc hN C hbm S hi hG hs hg hm) (rd_seek hid)) call_test
end
end D


set_option Elab.async false
set_option linter.all false
set_option maxHeartbeats 2000000
set_option maxRecDepth 100000
/-! EH: when a store is plain. -/
namespace D
open PySem PySem.Spec PyProof.Rows L2
/-- no comprehension -/
def okV : Expr → Bool
  | .ListComp .. | .SetComp .. | .DictComp .. => false
  | _ => true
theorem sw_ok {e : Expr} (h : okV e = true) (t : Option Expr) (l : Nat) (env : Env) : swapsWith e t l env = pure false := by
  cases e <;> first | rfl | cases h
theorem fold_ok {e : Expr} (h : okE e = true) (env : Env) (x : Value) : foldedSetIterable e env x = pure x := by
  cases e <;> first | rfl | cases h
/-- not a display whose iteration is folded -/
def okG : Expr → Bool
  | .List .. | .Set .. => false
  | _ => true
theorem genf_ok {e : Expr} (h : okG e = true) (env : Env) (x : Value) : genFold e env x = pure x := by
  cases e <;> first | rfl | cases h
end D


set_option Elab.async false
set_option linter.all false
set_option maxHeartbeats 2000000
set_option maxRecDepth 100000
/-! EI: dict comprehensions. -/
namespace D
open PySem PySem.Spec PyProof.Rows L2
def stepD (prog : Program) (w : World) (A : Around) (kx vx : Expr) : StepK := fun env D P E s => wpAny (model prog w) A (eval kx env) (fun kv s₄ => wpAny (model prog w) A (eval vx env) (fun vv s₅ => wpAny (model prog w) A (dictSet D kv vv) (fun _ s₆ => P s₆) E s₅) E s₄) E s
abbrev dict0 : Obj := { cls := .type "dict", data := .dict #[] }
theorem dictK {prog : Program} {w : World} {A : Around} {kx vx tg iter : Expr} {ifs : List Expr} {scope : Scope} {pos : Pos} : CompK prog w A (.DictComp kx vx [⟨tg, iter, ifs, 0⟩] scope pos) tg iter ifs newDict dict0 (fun a => AtO a dict0) (stepD prog w A kx vx) where
  cl := rfl
  new := fun s Q E h => wpAny_newObj_type h
  free := rfl
  ob := fun H h hs => ⟨Heap.get?_push_size _ rfl, ⟨_, Heap.get?_push_size _ rfl⟩, fun h1 h2 a1 a2 => a2 _ a1⟩
  mono := fun env acc P P' E E' s h h1 h2 => wpAny_mono h (fun kv s4 h4 => wpAny_mono h4 (fun vv s5 h5 => wpAny_mono h5 (fun _ s6 h6 => h1 _ h6) h2) h2) h2
  loop := fun it acc env R I turn n s h => compLoop_anyD I turn n h
  start := fun it acc env R s h1 h2 => codeAny_compStart_dict h1 h2
end D


set_option Elab.async false
set_option linter.all false
set_option maxHeartbeats 2000000
set_option maxRecDepth 100000
/-! EJ: a dict comprehension's item. -/
namespace D
open PySem PySem.Spec PyProof.Rows L2
def rDS (X : Cx) (D : Addr) (x y : V) (H : Hp) (Post : Hp → Prop) : Prop := ∀ (Y : Cx), Y.prog = X.prog → Y.w = X.w → Y.K = X.K → Y.A = X.A → ∀ (pins : List (Addr × Obj)) (s : Shared) (σ : L2.St) (u r : Value), Inv Y pins σ H s → RelV x u → RelV y r →
  wpAny (model Y.prog Y.w) Y.A (dictSet D u r) (fun _ s' => ∃ H', Inv Y pins σ H' s' ∧ Post H') (fun _ _ => False) s
def tsD (X : Cx) (tk tv : TE) : TSt := fun σ H D Post => tk σ H fun x H1 => tv σ H1 fun y H2 => rDS X D x y H2 Post
theorem ps_D {X Y : Cx} {kx vx : Expr} {tk tv : TE} (e1 : Y.prog = X.prog) (e2 : Y.w = X.w) (e3 : Y.K = X.K) (e4 : Y.A = X.A) (hx : Y.xe = fun _ _ => False) (hk : PE Y kx tk) (hv : PE Y vx tv) : PStep Y (stepD Y.prog Y.w Y.A kx vx) (tsD X tk tv) := fun pins s σ H D Post I q => by
  have h1 := hk.run pins s σ H _ I q
  rw [hx] at h1
  refine wpAny_mono h1 (fun u s1 ⟨x, H1, I1, r1, q1⟩ => ?_) fun _ _ z => z
  have h2 := hv.run pins s1 σ H1 _ I1 q1
  rw [hx] at h2
  exact wpAny_mono h2 (fun r s2 ⟨y, H2, I2, r2, q2⟩ => q2 Y e1 e2 e3 e4 pins s2 σ u r I2 r1 r2) fun _ _ z => z
theorem rds_ok {X : Cx} {m : Nat → Addr} {n : Nat} {a : Addr} {kvs : List (Val × Val)} {k v : Val} {x y : V} {H : Hp} {Post : Hp → Prop} (hu : X.A.units + 200 < cLine) (c : CRel X.prog X.w X.K H m n (.dict kvs) a) (hk : dkOk kvs k = true) (hl : kvs.length < LIM)
    (rk : VRel X.K H m n k x) (rv : VRel X.K H m n v y) (h : ∀ o', CRel X.prog X.w X.K (upd H a (AtO a o')) m n (.dict (dput kvs k v)) a → Post (upd H a (AtO a o'))) : rDS X a x y H Post := by
  intro Y e1 e2 e3 e4 pins s σ u r I ru rr
  rw [← e1, ← e2, ← e3] at c
  rw [← e3] at rk rv
  refine set_dictC (by rw [e4]; exact hu) I c hk hl rk ru rv rr fun o' hc => ?_
  rw [e1, e2, e3] at hc
  exact h o' hc
end D


set_option Elab.async false
set_option linter.all false
set_option maxHeartbeats 2000000
set_option maxRecDepth 100000
/-! EK: a dict comprehension's reading. -/
namespace D
open PySem PySem.Spec PyProof.Rows L2
theorem hom_all : ∀ {kvs : List (Val × Val)}, hom kvs = true → ∀ p ∈ kvs, p.1.key = true ∧ ∀ q ∈ kvs, q.1.isTup = p.1.isTup
  | [], _, p, hp => by cases hp
  | kv :: r, h, p, hp => by
    simp only [hom, dkOk, Bool.and_eq_true, List.all_eq_true, beq_iff_eq] at h
    obtain ⟨⟨h1, h2⟩, h3⟩ := h
    have ih := hom_all h3
    rcases List.mem_cons.mp hp with e | hp
    · rw [e]
      refine ⟨h1, fun q hq => ?_⟩
      rcases List.mem_cons.mp hq with rfl | hq
      · rfl
      · exact h2 q hq
    · refine ⟨(ih p hp).1, fun q hq => ?_⟩
      rcases List.mem_cons.mp hq with e | hq
      · rw [e]; exact (h2 p hp).symm
      · exact (ih p hp).2 q hq
theorem dput_mem {kvs : List (Val × Val)} {k v : Val} {p : Val × Val} (h : p ∈ dput kvs k v) : p.1 = k ∨ ∃ q ∈ kvs, q.1 = p.1 := by
  unfold dput at h
  split at h
  · obtain ⟨q, hq, rfl⟩ := List.mem_map.mp h
    by_cases e : (q.1 == k) = true
    · rw [if_pos e]; exact .inr ⟨q, hq, rfl⟩
    · rw [if_neg e]; exact .inr ⟨q, hq, rfl⟩
  · rcases List.mem_append.mp h with h | h
    · exact .inr ⟨p, h, rfl⟩
    · cases List.mem_singleton.mp h; exact .inl rfl
theorem mergeD_snoc (kvs more : List (Val × Val)) (k v : Val) : mergeD kvs (more ++ [(k, v)]) = dput (mergeD kvs more) k v := by simp [mergeD]
theorem mergeD_mem : ∀ (more kvs : List (Val × Val)) (p : Val × Val), p ∈ mergeD kvs more → ∃ q ∈ kvs ++ more, q.1 = p.1
  | [], kvs, p, h => ⟨p, by simpa [mergeD] using h, rfl⟩
  | x :: more, kvs, p, h => by
    have h : p ∈ mergeD (dput kvs x.1 x.2) more := h
    obtain ⟨q, hq, e⟩ := mergeD_mem more _ p h
    rcases List.mem_append.mp hq with hq | hq
    · rcases dput_mem hq with z | ⟨q2, hq2, z⟩
      · exact ⟨x, by simp, by rw [← e, z]⟩
      · exact ⟨q2, by simp [hq2], by rw [z, e]⟩
    · exact ⟨q, by simp [hq], e⟩
theorem mergeD_len : ∀ (more kvs : List (Val × Val)), (mergeD kvs more).length ≤ kvs.length + more.length
  | [], kvs => by simp [mergeD]
  | x :: more, kvs => by
    have h := mergeD_len more (dput kvs x.1 x.2)
    have := dput_len kvs x.1 x.2
    have e : mergeD kvs (x :: more) = mergeD (dput kvs x.1 x.2) more := rfl
    rw [e]
    simp only [List.length_cons]
    omega
theorem hom_dk {acc r : List (Val × Val)} {k v : Val} (h : hom ((acc ++ [(k, v)]) ++ r) = true) : dkOk (mergeD [] acc) k = true := by
  have hk := hom_all h (k, v) (by simp)
  simp only [dkOk, Bool.and_eq_true, List.all_eq_true, beq_iff_eq]
  refine ⟨hk.1, fun p hp => ?_⟩
  obtain ⟨q, hq, e⟩ := mergeD_mem acc [] p hp
  rw [← e]
  exact hk.2 q (by simp at hq; simp [hq])
section
variable {X : Cx} {W : WX} {XR : XRel} {H H' B B' : Hp} {m m' : Nat → Addr} {st st' : Store} {ρ : Sl} {σ : L2.St} {n : Nat}
theorem compL_exc {α : Type} {g : Store → Bool} {f : Val → M (Option α)} : ∀ {xs : List Val} {st st2 : Store} {c : String} {pl : List Val}, compL g f xs st ≠ .exc c pl st2
  | [], st, st2, c, pl => by unfold compL; split <;> simp
  | x :: xs, st, st2, c, pl => by
    unfold compL
    split
    · split
      · split <;> simp
      · simp
      · simp
    · simp
theorem finD_ok {g : Store → Bool} {f : Val → M (Option (Val × Val))} {xs : List Val} {acc : List (Val × Val)} {E : XK} {R : EV → (Nat → Addr) → Store → Hp → Prop} {P : Program} {w : World} {K : PySem.W.Frag}
    (h : PostM P w K XR E B m n R ((compL g f xs >>= fun r => finD (acc ++ r)) st)) : ∃ r, hom (acc ++ r) = true ∧ (acc ++ r).length ≤ LIM := by
  rw [M.bind_eq] at h
  cases q : compL g f xs st with
  | ok r st2 =>
    rw [q] at h
    have h : PostM P w K XR E B m n R (finD (acc ++ r) st2) := h
    unfold finD at h
    split at h
    · rename_i hl
      simp only [Bool.and_eq_true, decide_eq_true_eq] at hl
      exact ⟨r, hl⟩
    · exact h.elim
  | exc c pl st2 => exact absurd q compL_exc
  | stuck => rw [q] at h; exact h.elim
theorem crel_d0 {P : Program} {w : World} {K : PySem.W.Frag} {D : Addr} (h : (D == sysModules) = false) : CRel P w K (upd H D (AtO D dict0)) m n (.dict []) D :=
  ⟨h, Nat.zero_le _, dict0, upd_same, .inl ⟨[], [], ⟨#[], 0, ⟨rfl, rfl, rfl⟩, rfl, fun _ h => (by simp at h), .nil, List.nodup_nil⟩, .nil, .nil⟩⟩
end
end D


set_option Elab.async false
set_option linter.all false
set_option maxHeartbeats 2000000
set_option maxRecDepth 100000
/-! EL: dict comprehensions by the evaluator. -/
namespace D
open PySem PySem.Spec PyProof.Rows L2
section
variable {X : Cx} {W : WX} {XR : XRel} {H H' B B' : Hp} {m m' : Nat → Addr} {st st' : Store} {ρ : Sl} {σ : L2.St} {n : Nat}
theorem rd_dc {ei : Sl → M Src} {ec : Sl → M Bool} {ek ee : Sl → M EV} {t : T} {own : List Nat} (hu : X.A.units + 200 < cLine) (hid : ∀ i ∈ t.ids, i ∈ own) : ∀ σ H Q, rdE X W XR (fun ρ => do
      let s ← ei ρ
      let kvs ← compL (fun st => s.gd.ok ρ st) (bodyM t own ρ ec (fun ρ2 => mkKV (ek ρ2) (ee ρ2)) (.pure none)) s.vals
      finD kvs) σ H Q → tCk (fun a => AtO a dict0) (rdI X W XR ei) (tG X.K t) (rdB X W0 XR ec) (tsD X (rdE X W0 XR ek) (rdE X W0 XR ee)) own σ H Q := by
  intro σ H Q ⟨B, ρ, st, m, S, b, h⟩
  refine ⟨outB H m st.length, ρ, st, m, S, bs_out _ _ _, ?_⟩
  refine seq_gen S b h fun src m1 st1 H1 s1 S1 b1 h1 as J hJ D hD hsys => ?_
  have hB : outB H1 m1 st1.length D = none := outB_none.mpr (.inl hD)
  have h1 := h1.more b1.le_out
  have bD : B D = none := by
    cases q : B D with
    | none => rfl
    | some o => have := b1.sub D o q; rw [hD] at this; cases this
  generalize hf : bodyM t own ρ ec (fun ρ2 => mkKV (ek ρ2) (ee ρ2)) (.pure none) = f at h1
  generalize hgd : (fun st => src.gd.ok ρ st) = g at h1
  have NN : ∃ NN : Nat → Hp → Prop, NN = fun i H' => ∃ (acc : List (Val × Val)) (m' : Nat → Addr) (st' : Store), LSt X H1 m1 st1.length m' st' H' ∧ CRel X.prog X.w X.K H' m' st'.length (.dict (mergeD [] acc)) D ∧ (∀ l, l < st'.length → m' l ≠ D) ∧
    PostM X.prog X.w X.K XR (WE W σ) (outB H1 m1 st1.length) m' st'.length (RQ X B ρ σ Q) ((compL g f (src.vals.drop i) >>= fun r => finD (acc ++ r)) st') := ⟨_, rfl⟩
  obtain ⟨NN, hNN⟩ := NN
  refine ⟨fun i k H' => k = src.vals.length - i ∧ i ≤ src.vals.length ∧ NN i H', ⟨src.vals.length, by simp, Nat.zero_le _, ?_⟩, ?_⟩
  · rw [hNN]
    refine ⟨[], m1, st1, ⟨S1.heap.alloc hD _, (nx_alloc (bs_out H1 m1 st1.length) hD _)⟩, crel_d0 hsys, fun l hl e => ?_, by simpa using h1⟩
    obtain ⟨o, ho, _⟩ := S1.heap.domAll l hl
    rw [e, hD] at ho
    cases ho
  rintro i k H' ⟨rfl, hle, hN⟩
  rw [hNN] at hN
  obtain ⟨acc, m', st', L, hDl, hDn, hp⟩ := hN
  have S' := L.sim S1
  have b' : Bs (outB H1 m1 st1.length) m' st'.length H' := L.nx.bs (bs_out _ _ _)
  obtain ⟨o0, ho0, hno0, hfr0, htu0⟩ := hDl.some
  by_cases hlt : i < src.vals.length
  · obtain ⟨x, hx⟩ : ∃ x, src.vals[i]? = some x := ⟨_, List.getElem?_eq_getElem hlt⟩
    have hdrop : src.vals.drop i = x :: src.vals.drop (i + 1) := by
      rw [List.drop_eq_getElem_cons hlt]
      congr 1
      rw [List.getElem?_eq_getElem hlt] at hx
      cases hx
      rfl
    rw [hdrop] at hp
    obtain ⟨hgo, hp⟩ := compL_cons hp
    rw [← hgd] at hgo
    obtain ⟨y1, _⟩ := yield_ok S1 hJ L (Gd.ok_S hgo) i
    obtain ⟨go, y2⟩ := y1 x hx
    refine .inr ⟨go, NN (i + 1), fun H2 hN2 => ⟨src.vals.length - (i + 1), by omega, rfl, hlt, hN2⟩, fun v H'' y => ?_⟩
    obtain ⟨L2, kp, rx⟩ := y2 v H'' y
    have S2 := L2.sim S1
    have b2 : Bs (outB H1 m1 st1.length) m' st'.length H'' := L2.nx.bs (bs_out _ _ _)
    have t2 : TupsK H' H'' := fun a xs r => by
      rcases r with r | ⟨u, r⟩
      · exact .inl (kp _ _ r)
      · exact .inr ⟨u, kp _ _ r⟩
    have hD2 : H'' D = some o0 := kp _ _ ho0
    have c2 := hDl.stay (n' := st'.length) (m' := m') t2 (fun _ _ => rfl) (Nat.le_refl _) (fun o e => kp _ _ e)
    have hfx : f x = bodyM t own ρ ec (fun ρ2 => mkKV (ek ρ2) (ee ρ2)) (.pure none) x := by rw [← hf]
    rw [hfx] at hp
    refine body_ok (fun _ _ _ z => z) hid S2 b2 rx hp ?_ ?_
    · intro ρ2 σ2 m3 st3 H3 S3 b3 x3 h3
      have hD3 : H3 D = some o0 := x3.keep D _ (outB_some.mpr ⟨hD2, hno0, hDn⟩)
      have L3 := L2.then x3 S3.heap
      have s3 := x3.step S3.heap
      have hDn3 : ∀ l, l < st3.length → m3 l ≠ D := s3.out hD2 hno0 hDn
      have c3 := c2.stay (s3.tups S2.heap) s3.agree s3.le (fun o e => by rw [hD2] at e; cases e; exact hD3)
      unfold mkKV at h3
      -- the key
      refine rd_seq S3 b3 h3 fun z u m4 st4 H4 s4 S4 b4 rz h4 => ?_
      have hD4 : H4 D = some o0 := s4.keep D _ hD3 hno0 hDn3
      have hDn4 : ∀ l, l < st4.length → m4 l ≠ D := s4.out hD3 hno0 hDn3
      have L4 := L3.then s4.nx S4.heap
      have c4 := c3.stay (s4.tups S3.heap) s4.agree s4.le (fun o e => by rw [hD3] at e; cases e; exact hD4)
      obtain ⟨kv, st5, m5, S5, b5, rk, ag5, le5, kp5, h5⟩ := intern_ok S4 b4 rz b3.le_out (fun i c k a e1 e2 => own_out S3 e1 e2) h4
      have hDn5 : ∀ l, l < st5.length → m5 l ≠ D := (outB_some.mp (kp5 D _ (outB_some.mpr ⟨hD3, hno0, hDn3⟩) (outB_some.mpr ⟨hD4, hno0, hDn4⟩))).2.2
      have L5 : LSt X H1 m1 st1.length m5 st5 H4 := ⟨S5.heap, ⟨Nat.le_trans L4.nx.le le5, fun l hl => (ag5 l (Nat.lt_of_lt_of_le hl L4.nx.le)).trans (L4.nx.agree l hl), L4.nx.keep, fun l _ hl => b5.out l hl⟩⟩
      have c5 := c4.stay (m' := m5) (n' := st5.length) (fun _ _ r => r) ag5 le5 (fun o e => e)
      -- the value
      refine rd_seq S5 b5 h5 fun z2 u2 m6 st6 H6 s6 S6 b6 rz2 h6 => ?_
      have hD6 : H6 D = some o0 := s6.keep D _ hD4 hno0 hDn5
      have hDn6 : ∀ l, l < st6.length → m6 l ≠ D := s6.out hD4 hno0 hDn5
      have L6 := L5.then s6.nx S6.heap
      have c6 := c5.stay (s6.tups S5.heap) s6.agree s6.le (fun o e => by rw [hD4] at e; cases e; exact hD6)
      have rk6 := rk.stay (s6.tups S5.heap) s6.agree s6.le
      obtain ⟨vv, st7, m7, S7, b7, rv, ag7, le7, kp7, h7⟩ := intern_ok S6 b6 rz2 b5.le_out (fun i c k a e1 e2 => own_out S5 e1 e2) h6
      have hDn7 : ∀ l, l < st7.length → m7 l ≠ D := (outB_some.mp (kp7 D _ (outB_some.mpr ⟨hD4, hno0, hDn5⟩) (outB_some.mpr ⟨hD6, hno0, hDn6⟩))).2.2
      have L7 : LSt X H1 m1 st1.length m7 st7 H6 := ⟨S7.heap, ⟨Nat.le_trans L6.nx.le le7, fun l hl => (ag7 l (Nat.lt_of_lt_of_le hl L6.nx.le)).trans (L6.nx.agree l hl), L6.nx.keep, fun l _ hl => b7.out l hl⟩⟩
      have c7 := c6.stay (m' := m7) (n' := st7.length) (fun _ _ r => r) ag7 le7 (fun o e => e)
      have rk7 := rk6.stay (fun _ _ r => r) ag7 le7
      have h8 := h7.done b7 S7.heap
      have e8 : (fun r => finD (acc ++ ((some (kv, vv)).toList ++ r))) = fun r => finD ((acc ++ [(kv, vv)]) ++ r) := by
        funext r
        simp
      rw [e8] at h8
      obtain ⟨r, hh, hl⟩ := finD_ok h8
      refine rds_ok hu c7 (hom_dk hh) ?_ rk7 rv fun o' hc' => ?_
      · have := mergeD_len acc []
        simp only [List.length_append, List.length_singleton, List.length_nil] at hl this
        omega
      · rw [hNN]
        refine ⟨acc ++ [(kv, vv)], m7, st7, L7.put hD6 hno0 hfr0 (fun xs r => ?_) hDn7 hB, ?_, hDn7, h8⟩
        · obtain ⟨o1, ho1, _, _, ht1⟩ := c7.some
          exact ht1 xs r
        · rw [mergeD_snoc]
          exact hc'
    · intro m3 st3 H3 hr3 b3 x3 h3
      have hD3 : H3 D = some o0 := x3.keep D _ (outB_some.mpr ⟨hD2, hno0, hDn⟩)
      have s3 := x3.step hr3
      have hDn3 : ∀ l, l < st3.length → m3 l ≠ D := s3.out hD2 hno0 hDn
      have h6 := h3.done b3 hr3
      have e6 : (fun r => finD (acc ++ ((none : Option (Val × Val)).toList ++ r))) = fun r => finD (acc ++ r) := by
        funext r
        simp
      rw [e6] at h6
      rw [hNN]
      exact ⟨acc, m3, st3, L2.then x3 hr3, c2.stay (s3.tups S2.heap) s3.agree s3.le (fun o e => by rw [hD2] at e; cases e; exact hD3), hDn3, h6⟩
  · have hi' : i = src.vals.length := by omega
    have hdrop : src.vals.drop i = [] := List.drop_eq_nil_of_le (by omega)
    rw [hdrop] at hp
    obtain ⟨hgo, hp⟩ := compL_nil hp
    rw [← hgd] at hgo
    obtain ⟨_, y1⟩ := yield_ok S1 hJ L (Gd.ok_S hgo) i
    refine .inl ⟨y1 hi'.symm, ?_⟩
    rw [List.append_nil] at hp
    unfold finD at hp
    split at hp
    · exact hp.done b' L.rel _ ⟨D, rfl, hDl, hDn, bD⟩
    · exact hp.elim
end
section
variable {X : Cx} {XR : XRel} {W : WX} {ei : Sl → M Src} {ec : Sl → M Bool} {ek ee : Sl → M EV} {t : T} {kx vx tg iter : Expr} {ifs : List Expr} {scope : Scope} {own : List (Str × Nat)} {pos : Pos}
abbrev BlkD (X : Cx) (XR : XRel) (scope : Scope) (tg kx vx : Expr) (ifs : List Expr) (t : T) (ec : Sl → M Bool) (ek ee : Sl → M EV) : Prop := ∀ (s : Shared) (H : Hp) (fp : List Addr) (pins : List (Addr × Obj)) (σ : L2.St), Inv X pins σ H s →
  PG (X.blk s H scope (blkE X s scope) fp) tg (tG X.K t) ∧ PTs (X.blk s H scope (blkE X s scope) fp) ifs (rdB X W0 XR ec) ∧ PE (X.blk s H scope (blkE X s scope) fp) kx (rdE X W0 XR ek) ∧ PE (X.blk s H scope (blkE X s scope) fp) vx (rdE X W0 XR ee)
theorem s_dc (hu : X.A.units + 200 < cLine) (hc : X.calm = true) (hN : X.N.Nodup) (hi : PI X tg iter (rdI X W XR ei)) (ok : BlkOk X.N X.env.scope scope own) (hid : ∀ i ∈ t.ids, i ∈ own.map (·.2)) (hb : BlkD X XR scope tg kx vx ifs t ec ek ee) (hs : ∀ x, foldedSetIterable iter X.env x = pure x) :
    PE X (.DictComp kx vx [⟨tg, iter, ifs, 0⟩] scope pos) (rdE X W XR fun ρ => do
      let s ← ei ρ
      let kvs ← compL (fun st => s.gd.ok ρ st) (bodyM t (own.map (·.2)) ρ ec (fun ρ2 => mkKV (ek ρ2) (ee ρ2)) (.pure none)) s.vals
      finD kvs) :=
  PE.imp (pe_ck dictK hc hN hi ok (fun s H fp pins σ I => let ⟨a, b, c, d⟩ := hb s H fp pins σ I; ⟨a, b, ps_D (X := X) rfl rfl rfl rfl rfl c d⟩) hs (arm_eval_DictComp ..)) fun σ H Q h => rd_dc hu hid σ H Q h
theorem s_setDc {i : Nat} {y : Str} {py spos : Pos} (hu : X.A.units + 200 < cLine) (hc : X.calm = true) (hN : X.N.Nodup) (hy : X.N[i]? = some y) (hyl : X.env.scope.names.lookup y = some .local) (hsw : swapsWith (.DictComp kx vx [⟨tg, iter, ifs, 0⟩] scope pos) (some (.Name y py)) spos.line X.env = pure true)
    (hi : PI X tg iter (rdI X W XR ei)) (ok : BlkOk X.N X.env.scope scope own) (hid : ∀ i ∈ t.ids, i ∈ own.map (·.2)) (hb : BlkD X XR scope tg kx vx ifs t ec ek ee) (hs : ∀ x, foldedSetIterable iter X.env x = pure x) :
    PS X (.Assign [.Name y py] (.DictComp kx vx [⟨tg, iter, ifs, 0⟩] scope pos) spos) (rdS X W XR fun ρ => toS (do
      let s ← ei ρ
      let kvs ← compL (fun st => s.gd.ok ρ st) (bodyM t (own.map (·.2)) ρ ec (fun ρ2 => mkKV (ek ρ2) (ee ρ2)) (.pure none)) s.vals
      finD kvs) ρ (asgK (.nm i) ρ)) :=
  PS.imp (ps_setCk dictK hc hN hy hyl hi ok (fun s H fp pins σ I => let ⟨a, b, c, d⟩ := hb s H fp pins σ I; ⟨a, b, ps_D (X := X) rfl rfl rfl rfl rfl c d⟩) hs (exec_Assign_Name_used _ _ _ _ hsw)) fun D σ H h => rd_dc hu hid σ H _ (rd_asg h)
end
end D


set_option Elab.async false
set_option linter.all false
set_option maxHeartbeats 2000000
set_option maxRecDepth 100000
/-! EM: dict displays. -/
namespace D
open PySem PySem.Spec PyProof.Rows L2
theorem subDictG {prog : Program} {w : World} {A : Around} {E : Value → Shared → Prop} {s : Shared} {pairs : List (Sem Value × Sem Value)} {Q : Addr → Shared → Prop} (hlen : pairs.length ≤ 15)
    (h : wpAny (model prog w) A (evalPairs pairs) (fun vs s₁ => wpAny (model prog w) A (forIn vs PUnit.unit fun (x : Value × Value) (_ : PUnit) => (do dictSet s.heap.objs.size x.1 x.2; pure (ForInStep.yield PUnit.unit) : Sem (ForInStep PUnit))) (fun _ s2 => Q s.heap.objs.size s2) E s₁) E
      { s with heap := s.heap.push { cls := .type "dict", data := .dict #[] } }) :
    wpAny (model prog w) A (subDict pairs) Q E s := by
  unfold subDict
  refine wpAny_bind (wpAny_alloc ?_)
  refine wpAny_bind (wpAny_holding ?_)
  rw [if_pos hlen]
  refine wpAny_bind (wpAny_mono h (fun vs s₁ h₁ => ?_) fun _ _ e => e)
  refine wpAny_holding ?_
  exact wpAny_bind (wpAny_mono h₁ (fun _ s2 h2 => wpAny_pure (wpAny_pure h2)) fun _ _ e => e)
theorem dictG {prog : Program} {w : World} {A : Around} {E : Value → Shared → Prop} {s : Shared} {env : Env} {keys : List (Option Expr)} {values : List Expr} {pos : Pos} {Q : Value → Shared → Prop} (hall : keys.all (·.isSome) = true) (hl : keys.length = values.length) (h0 : keys ≠ []) (hlen : keys.length ≤ 15)
    (h : wpAny (model prog w) A (evalPairs (pairTrees keys values env pos)) (fun vs s₁ => wpAny (model prog w) A (forIn vs PUnit.unit fun (x : Value × Value) (_ : PUnit) => (do dictSet s.heap.objs.size x.1 x.2; pure (ForInStep.yield PUnit.unit) : Sem (ForInStep PUnit))) (fun _ s2 => Q (.ref s.heap.objs.size) s2) E s₁) E
      { s with heap := s.heap.push { cls := .type "dict", data := .dict #[] } }) :
    wpAny (model prog w) A (eval (.Dict keys values pos) env) Q E s := by
  have hn := pairTrees_length keys values env pos hall hl
  have hne : pairTrees keys values env pos ≠ [] := fun he => by
    rw [he] at hn
    exact h0 (List.length_eq_zero_iff.mp hn.symm)
  rw [arm_eval_Dict, zip_pairTrees keys values env pos hall hl, dictDisplay_pairs _ hne (by rw [hn]; omega)]
  refine wpAny_bind (wpAny_standAt (wpAny_bind (subDictG (Q := fun d s' => wpAny (model prog w) A (pure (Value.ref d)) Q E s') (by rw [hn]; exact hlen) ?_)))
  exact wpAny_mono h (fun vs s1 h1 => wpAny_mono h1 (fun _ s2 h2 => wpAny_pure h2) fun _ _ e => e) fun _ _ e => e
section
variable (K : PySem.W.Frag) (H : Hp) (m : Nat → Addr) (n : Nat)
def KRels : List (Val × Val) → List (V × V) → Prop
  | [], ws => ws = []
  | p :: ps, ws => ∃ u us, ws = u :: us ∧ VRel K H m n p.1 u.1 ∧ VRel K H m n p.2 u.2 ∧ KRels ps us
end
theorem KRels.stay {K : PySem.W.Frag} {H H' : Hp} {m m' : Nat → Addr} {n n' : Nat} (t : TupsK H H') (hm : ∀ l, l < n → m' l = m l) (hn : n ≤ n') : ∀ {ps : List (Val × Val)} {ws : List (V × V)}, KRels K H m n ps ws → KRels K H' m' n' ps ws
  | [], _, h => h
  | _ :: _, _, h => let ⟨u, us, e, r1, r2, rs⟩ := h; ⟨u, us, e, r1.stay t hm hn, r2.stay t hm hn, KRels.stay t hm hn rs⟩
abbrev TKV := L2.St → Hp → (List (V × V) → Hp → Prop) → Prop
section
variable (X : Cx) (W : WX) (XR : XRel)
def rdKV (ev : Sl → M (List (Val × Val))) : TKV := fun σ H Q => ∃ (B : Hp) (ρ : Sl) (st : Store) (m : Nat → Addr), Sim X.prog X.w X.K H m ρ st σ ∧ Bs B m st.length H ∧
  PostM X.prog X.w X.K XR (WE W σ) B m st.length (fun kvs m' st' H' => ∀ ps, KRels X.K H' m' st'.length kvs ps → Q ps H') (ev ρ st)
end
structure PKV (X : Cx) (pos : Pos) (keys : List (Option Expr)) (values : List Expr) (t : TKV) : Prop where
  run : ∀ (pins : List (Addr × Obj)) (s : Shared) (σ : L2.St) (H : Hp) (Q : List (V × V) → Hp → Prop), Inv X pins σ H s → t σ H Q →
    wpAny (model X.prog X.w) X.A (evalPairs (pairTrees keys values X.env pos)) (fun vs s' => ∃ ps H', Inv X pins σ H' s' ∧ VV ps vs ∧ Q ps H') X.xe s
section
variable {X : Cx} {W : WX} {XR : XRel} {H H' B B' : Hp} {m m' : Nat → Addr} {st st' : Store} {ρ : Sl} {σ : L2.St} {n : Nat} {pos : Pos}
theorem s_kvNil {Γ : Calls} : PKV X pos [] [] (rdKV X W XR (evalKV Γ .nil)) := ⟨fun pins s σ H Q I ⟨B, ρ, st, m, S, b, h⟩ => by
  simp only [evalKV] at h
  exact pairTrees_nil_walk ⟨[], H, I, .nil, h.done b S.heap [] rfl⟩⟩
theorem s_kvCons {ek ee : Sl → M EV} {er : Sl → M (List (Val × Val))} {k v : Expr} {ks : List (Option Expr)} {vs : List Expr} (hk : PE X k (rdE X W XR ek)) (hv : PE X v (rdE X W XR ee)) (hr : PKV X pos ks vs (rdKV X W XR er)) :
    PKV X pos (some k :: ks) (v :: vs) (rdKV X W XR fun ρ => do
      let x ← ek ρ
      let xk ← intern x
      let y ← ee ρ
      let v ← intern y
      let r ← er ρ
      .pure ((xk, v) :: r)) := by
  refine ⟨fun pins s σ H Q I ⟨B, ρ, st, m, S, b, h⟩ => ?_⟩
  refine pairTrees_cons_walk ?_
  refine thn (hk.run pins s σ H (fun x H1 => rdE X W XR ee σ H1 fun y H2 => rdKV X W XR er σ H2 fun ps H3 => Q ((x, y) :: ps) H3) I ?_) fun u s1 ⟨x, H1, I1, rx, q1⟩ => thn (hv.run pins s1 σ H1 _ I1 q1) fun w2 s2 ⟨y, H2, I2, ry, q2⟩ =>
    thn (hr.run pins s2 σ H2 _ I2 q2) fun ws s3 ⟨ps, H3, I3, rel, q3⟩ => ⟨(x, y) :: ps, H3, I3, .cons ⟨rx, ry⟩ rel, q3⟩
  refine rd_seq S b h fun x u m1 st1 H1 s1 S1 b1 rx h1 => ?_
  obtain ⟨kv, st2, m2, S2, b2, rk, ag2, le2, _, h2⟩ := intern_ok S1 b1 rx b.le_out (fun i c k a e1 e2 => own_out S e1 e2) h1
  refine rd_seq S2 b2 h2 fun y w m3 st3 H3 s3 S3 b3 ry h3 => ?_
  have rk3 := rk.stay (s3.tups S2.heap) s3.agree s3.le
  obtain ⟨vv, st4, m4, S4, b4, rv, ag4, le4, _, h4⟩ := intern_ok S3 b3 ry b2.le_out (fun i c k a e1 e2 => own_out S2 e1 e2) h3
  have rk4 := rk3.stay (fun _ _ r => r) ag4 le4
  refine ⟨outB H3 m4 st4.length, ρ, st4, m4, S4, bs_out _ _ _, (PostM.bind h4).more b4.le_out |>.imp fun r m5 st5 H5 x5 hr5 h5 ps hps => ?_⟩
  have s5 := x5.step hr5
  have h6 : PostM X.prog X.w X.K XR (WE W σ) B m5 st5.length _ (.ok ((kv, vv) :: r) st5) := h5
  exact h6.done (bs_more b4 x5) hr5 _ ⟨(u, w), ps, rfl, rk4.stay (s5.tups S4.heap) s5.agree s5.le, rv.stay (s5.tups S4.heap) s5.agree s5.le, hps⟩
theorem tups_cell {P : Program} {w : World} {K : PySem.W.Frag} {c : Cell} {a : Addr} {o : HO} (h : CRel P w K H m n c a) : TupsK H (upd H a o) := by
  obtain ⟨o1, ho1, _, _, ht1⟩ := h.some
  exact tups_upd ho1 ht1
theorem disp_store (hu : X.A.units + 200 < cLine) {H1 : Hp} {m1 : Nat → Addr} {st1 : Store} {D : Addr} (hB : outB H1 m1 st1.length D = none) {pins : List (Addr × Obj)} {E : Value → Shared → Prop} {Q : PUnit → Shared → Prop} (hDn : ∀ l, l < st.length → m l ≠ D) :
    ∀ (kvs : List (Val × Val)) (ps : List (V × V)) (vs : List (Value × Value)) (acc : List (Val × Val)) (s : Shared) (H : Hp), KRels X.K H m st.length kvs ps → VV ps vs → Inv X pins σ H s → LSt X H1 m1 st1.length m st H → CRel X.prog X.w X.K H m st.length (.dict (mergeD [] acc)) D →
      hom (acc ++ kvs) = true → (acc ++ kvs).length ≤ LIM → (∀ H' s', Inv X pins σ H' s' → LSt X H1 m1 st1.length m st H' → CRel X.prog X.w X.K H' m st.length (.dict (mergeD [] (acc ++ kvs))) D → Q PUnit.unit s') →
      wpAny (model X.prog X.w) X.A (forIn vs PUnit.unit fun (x : Value × Value) (_ : PUnit) => (do dictSet D x.1 x.2; pure (ForInStep.yield PUnit.unit) : Sem (ForInStep PUnit))) Q E s
  | [], ps, vs, acc, s, H, r, v, I, L, c, hh, hl, q => by
    cases r
    cases v
    rw [List.forIn_nil]
    rw [List.append_nil] at q
    exact wpAny_pure (q H s I L c)
  | kv :: kvs, ps, vs, acc, s, H, r, v, I, L, c, hh, hl, q => by
    obtain ⟨u, us, rfl, r1, r2, rs⟩ := r
    cases v with
    | @cons _ b _ bs h t =>
    rw [List.forIn_cons]
    have e : acc ++ kv :: kvs = (acc ++ [kv]) ++ kvs := by simp
    rw [e] at hh hl q
    have hlen : (mergeD [] acc).length < LIM := by
      have := mergeD_len acc []
      simp only [List.length_append, List.length_singleton, List.length_nil] at hl this
      omega
    obtain ⟨o1, ho1, hno1, hf1, ht1⟩ := c.some
    have z := set_dictC (E := E) (Post := fun H2 => LSt X H1 m1 st1.length m st H2 ∧ CRel X.prog X.w X.K H2 m st.length (.dict (mergeD [] (acc ++ [kv]))) D ∧ KRels X.K H2 m st.length kvs us) hu I c (hom_dk (k := kv.1) (v := kv.2) hh) hlen r1 h.1 r2 h.2 fun o' hc' =>
      ⟨L.put ho1 hno1 hf1 ht1 hDn hB, by rw [mergeD_snoc]; exact hc', rs.stay (tups_cell c) (fun _ _ => rfl) (Nat.le_refl _)⟩
    exact wpAny_bind (wpAny_bind (wpAny_mono z (fun _ s' ⟨H', I', L', c', rs'⟩ => wpAny_pure (disp_store hu hB hDn kvs us bs (acc ++ [kv]) s' H' rs' t I' L' c' hh hl q)) fun _ _ e => e))
theorem s_dct {er : Sl → M (List (Val × Val))} {keys : List (Option Expr)} {values : List Expr} (hu : X.A.units + 200 < cLine) (h : PKV X pos keys values (rdKV X W XR er)) (hall : keys.all (·.isSome) = true) (hl : keys.length = values.length) (h0 : keys ≠ []) (h15 : keys.length ≤ 15) :
    PE X (.Dict keys values pos) (rdE X W XR fun ρ => do let r ← er ρ; finD r) := by
  refine ⟨fun pins s σ H Q I ⟨B, ρ, st, m, S, b, q⟩ => ?_⟩
  refine dictG hall hl h0 h15 ?_
  generalize hD : s.heap.objs.size = D
  have hDn : H D = none := I.hok.fresh (Nat.le_of_eq hD)
  have hsys : (D == sysModules) = false := beq_eq_false_iff_ne.mpr (by rw [← hD]; exact Nat.ne_of_gt I.big)
  have I1 : Inv X pins σ (upd H D (AtO D dict0)) { s with heap := s.heap.push { cls := .type "dict", data := .dict #[] } } := by
    rw [← hD]
    exact I.laid (t' := s.toks) (fun b o e => Heap.get?_push_of_some _ e) (Nat.le_refl _) ⟨Heap.get?_push_size _ rfl, ⟨_, Heap.get?_push_size _ rfl⟩, fun h1 h2 a1 a2 => a2 _ a1⟩
  have L0 : LSt X H m st.length m st (upd H D (AtO D dict0)) := ⟨S.heap.alloc hDn _, nx_alloc (bs_out H m st.length) hDn _⟩
  have S1 := L0.sim S
  have b1 : Bs (outB H m st.length) m st.length (upd H D (AtO D dict0)) := L0.nx.bs (bs_out _ _ _)
  have hB : outB H m st.length D = none := outB_none.mpr (.inl hDn)
  have bD : B D = none := by
    cases q : B D with
    | none => rfl
    | some o => have := b.sub D o q; rw [hDn] at this; cases this
  have nD : ∀ l, l < st.length → m l ≠ D := fun l hl e => by
    obtain ⟨o, ho, _⟩ := S.heap.domAll l hl
    rw [e, hDn] at ho
    cases ho
  generalize hH1 : upd H D (AtO D dict0) = H1 at I1 L0 S1 b1
  have c1 : CRel X.prog X.w X.K H1 m st.length (.dict []) D := by rw [← hH1]; exact crel_d0 hsys
  have hD1 : H1 D = some (AtO D dict0) := by rw [← hH1]; exact upd_same
  have rd : rdKV X W XR er σ H1 fun ps H2 => ∃ kvs m2 st2, LSt X H m st.length m2 st2 H2 ∧ CRel X.prog X.w X.K H2 m2 st2.length (.dict []) D ∧ (∀ l, l < st2.length → m2 l ≠ D) ∧ KRels X.K H2 m2 st2.length kvs ps ∧
      PostM X.prog X.w X.K XR (WE W σ) B m2 st2.length (RQ X B ρ σ Q) (finD kvs st2) := by
    refine ⟨outB H1 m st.length, ρ, st, m, S1, bs_out _ _ _, ((PostM.bind q).more (B' := outB H1 m st.length) fun a o e => ?_).imp fun kvs m2 st2 H2 x2 hr2 h2 ps hps => ?_⟩
    · exact b1.le_out a o (b.le_out a o e)
    · have s2 := x2.step hr2
      have L2 := L0.then x2 hr2
      have hD2 : H2 D = some (AtO D dict0) := s2.keep D _ hD1 True.intro nD
      exact ⟨kvs, m2, st2, L2, c1.stay (s2.tups S1.heap) s2.agree s2.le (fun o e => by rw [hD1] at e; cases e; exact hD2), s2.out hD1 True.intro nD, hps, h2⟩
  refine thn (h.run pins _ σ H1 _ I1 rd) fun vs s1 ⟨ps, H2, I2, rv, kvs, m2, st2, L2, c2, n2, rk, h2⟩ => ?_
  unfold finD at h2
  split at h2
  · rename_i hc
    simp only [Bool.and_eq_true, decide_eq_true_eq] at hc
    refine disp_store hu hB n2 kvs ps vs [] s1 H2 rk rv I2 L2 c2 (by simpa using hc.1) (by simpa using hc.2) fun H3 s3 I3 L3 c3 => ?_
    have b3 : Bs B m2 st2.length H3 := (Nx.small b.le_out L3.nx).bs b
    exact ⟨.ref D, H3, I3, rfl, h2.done b3 L3.rel _ ⟨D, rfl, by simpa using c3, n2, bD⟩⟩
  · exact h2.elim
theorem s_dct0 {Γ : Calls} : PE X (.Dict [] [] pos) (rdE X W XR fun ρ => do let r ← evalKV Γ .nil ρ; finD r) := by
  refine ⟨fun pins s σ H Q I ⟨B, ρ, st, m, S, b, h⟩ => ?_⟩
  refine wpAny_Dict_empty ?_
  have hf : H s.heap.objs.size = none := I.hok.fresh (Nat.le_refl _)
  have hm : (s.heap.objs.size == sysModules) = false := beq_eq_false_iff_ne.mpr (Nat.ne_of_gt I.big)
  have J : Inv X pins σ (upd H s.heap.objs.size (AtO s.heap.objs.size dict0)) { s with heap := s.heap.push { cls := .type "dict", data := .dict #[] } } :=
    I.laid (t' := s.toks) (fun b o e => Heap.get?_push_of_some _ e) (Nat.le_refl _) ⟨Heap.get?_push_size _ rfl, ⟨_, Heap.get?_push_size _ rfl⟩, fun h1 h2 a1 a2 => a2 _ a1⟩
  refine ⟨.ref s.heap.objs.size, _, J, rfl, ?_⟩
  have h : PostM X.prog X.w X.K XR (WE W σ) B m st.length (RQ X B ρ σ Q) (.ok (.t (.dict [])) st) := h
  refine h.alloc b S.heap hf _ _ ⟨_, rfl, crel_d0 hm, fun l hl e => ?_, ?_⟩
  · obtain ⟨o', ho', _⟩ := S.heap.domAll l hl
    rw [e, hf] at ho'
    cases ho'
  · cases q : B s.heap.objs.size with
    | none => rfl
    | some o' => have := b.sub _ _ q; rw [hf] at this; cases this
end
end D


set_option Elab.async false
set_option linter.all false
set_option maxHeartbeats 2000000
set_option maxRecDepth 100000
/-! EN: where code stands. -/
namespace D
open PySem PySem.Spec PyProof.Rows L2
/-- an own def's promise, as a caller has it -/
structure FnG (P : Program) (w : World) (K : PySem.W.Frag) (mg : Str → Option Value) (base : Heap) (XR : XRel) (tabs : Tz) (k : Nat) (x : Str) (np : Nat) (dxs : List Val) (run : List SV → M EV) : Prop where
  ex : ∃ f fd ps, mg x = some (.ref f) ∧ PySem.W.keepIn K (.ref f) = true ∧ ps.length = np ∧ FnOk P w K mg base (L2.CX P w) k f fd ps (spD P w K XR tabs ps.length run) ∧
    (∃ ds dvs, Binds K fd ps ds ∧ Vals dvs ds ∧ dvs.length = dxs.length ∧ ∀ (H : Hp) (m : Nat → Addr) (n : Nat), VRels K H m n dxs dvs)
/-- what is known of the module -/
structure Gx where
  bs : List String
  cs : List (String × List Char)
  fs : List (String × Nat × List Val)
  xs : List String
  em : List (String × String × Bool)
  ie : List (String × String × Bool)
/-- a class by its name: the module's, or one that is built in -/
def clsV (G : Gx) (K : PySem.W.Frag) (t : String) : V := if G.bs.contains t then .ty t else .ref (He.ga K (Str.ofString t))
def clsU (G : Gx) (K : PySem.W.Frag) (t : String) : Value := if G.bs.contains t then .type t else .ref (He.ga K (Str.ofString t))
structure GoodG (G : Gx) (P : Program) (w : World) (K : PySem.W.Frag) (mg : Str → Option Value) (base : Heap) (XR : XRel) (tabs : Tz) (k : Nat) (Γ : Calls) : Prop where
  bs : ∀ x ∈ G.bs, mg (Str.ofString x) = none
  cs : ∀ p ∈ G.cs, ∃ t, mg (Str.ofString p.1) = some (.str (sOf p.2) t)
  fs : ∀ f ∈ G.fs, FnG P w K mg base XR tabs k (Str.ofString f.1) f.2.1 f.2.2 (fun vs => Γ.fn f.1 vs)
  bm : ∃ P0, base.BuiltinsAt mg P0
  xs : ∀ c ∈ G.xs, mg (Str.ofString c) = some (.ref (He.ga K (Str.ofString c))) ∧ PySem.W.keepIn K (.ref (He.ga K (Str.ofString c))) = true ∧ PySem.W.excIn K (He.ga K (Str.ofString c)) [.type "ValueError", .type "Exception", .type "BaseException", .type "object"] "ValueError.__new__" = true ∧
    PySem.W.subIn K (.ref (He.ga K (Str.ofString c))) (.type "BaseException") = some true ∧ PySem.W.typeIn K (.ref (He.ga K (Str.ofString c))) = some (.type "type") ∧ ∀ (m : Nat → Addr) (n : Nat) (H : Hp), XR c [] m n (.ref (He.ga K (Str.ofString c))) none H
  xr : ∀ c ∈ G.xs, ∀ (pl : List Val) (m : Nat → Addr) (n : Nat) (u : Value) (dx : Option Addr) (H : Hp), XR c pl m n u dx H → u = .ref (He.ga K (Str.ofString c)) ∧ dx = none
  em : ∀ p ∈ G.em, PySem.W.exmOne K (.ref (He.ga K (Str.ofString p.1))) (.ref (He.ga K (Str.ofString p.2.1))) = some p.2.2
  ie : ∀ p ∈ G.ie, ExcC K (He.ga K (Str.ofString p.1)) ∧ PySem.W.kitOne K (.ref (He.ga K (Str.ofString p.1))) (clsU G K p.2.1) = some p.2.2
structure GoodX (G : Gx) (XR : XRel) (tabs : Tz) (k : Nat) (Γ : Calls) (N : List Str) (raw sc : Scope) (gen : Bool) (j : Nat) (X : Cx) : Prop where
  fn : ∀ x, raw.names.lookup x = some .cell → X.fn x = true
  hN : X.N = N
  nd : N.Nodup
  sc : X.env.scope = sc
  calm : X.calm = true
  room : Room (k + j) X.A
  code : gen = true → ∃ c P, CodeT X c P
  tbs : ZOk X.K tabs X.H_0
  scr : Γ.scr = tabs.scr
  glob : GoodG G X.prog X.w X.K X.mg X.base XR tabs k Γ
section
variable {G : Gx} {XR : XRel} {tabs : Tz} {k : Nat} {Γ : Calls} {N : List Str} {raw sc : Scope} {gen : Bool} {j : Nat} {X : Cx} {W : WX}
theorem takes0 {Y : Cx} : Takes Y W0 := fun u s' ⟨a, B, sI, pins, σ, H, cls, d, e, I, nb, up, sky, na, os, ag, w⟩ => w.elim
theorem GoodX.blk (g : GoodX G XR tabs k Γ N raw sc gen j X) {s : Shared} {H : Hp} {fp : List Addr} {pins : List (Addr × Obj)} {σ : L2.St} {scope : Scope} (I : Inv X pins σ H s) : GoodX G XR tabs k Γ N scope (relS scope sc) gen j (X.blk s H scope (blkE X s scope) fp) where
  fn := fun x e => by show (scope.names.lookup x == some .cell) = true; rw [e]; rfl
  hN := g.hN
  nd := g.nd
  sc := by rw [← g.sc]; rfl
  calm := g.calm
  room := g.room
  code := fun h => by
    obtain ⟨c, P, C⟩ := g.code h
    refine ⟨c, P, C.code, ?_, (C.at I).2⟩
    rcases C.hd with z | ⟨oc, h1, h2⟩
    · exact .inl z
    · exact .inr ⟨oc, I.base.frzs c _ _ h1, h2⟩
  tbs := g.tbs.un I.base
  scr := g.scr
  glob := g.glob
theorem GoodX.gex (g : GoodX G XR tabs k Γ N raw sc gen (j + 1) X) {s : Shared} {H : Hp} {fp : List Addr} {pins : List (Addr × Obj)} {σ : L2.St} {scope : Scope} {code : Value} (I : Inv X pins σ H s) (hc : CodeAt H code) :
    GoodX G XR tabs k Γ N scope scope gen j (gCx X s H scope (gEnv scope (cellsFrom (s.heap.objs.size + 1) scope.names (cloFrom X.env.cells scope.names [])) s.heap.objs.size code X.env) fp) where
  fn := fun x e => by show (scope.names.lookup x == some .cell) = true; rw [e]; rfl
  hN := g.hN
  nd := g.nd
  sc := rfl
  calm := g.calm
  room := by
    have r := g.room
    refine ⟨r.hd, ?_, ?_⟩
    · have := r.dp
      show X.A.depth + 1 + 3 * (k + j) + 5 < _
      omega
    · have := r.un
      show X.A.units + 1 + 1 + 3 + 16 * (k + j) + 200 < _
      omega
  code := fun h => by
    obtain ⟨c, oc, P, q, e1, e2, e3, e4⟩ := hc
    exact ⟨c, P, e1, .inr ⟨oc, e2, e3⟩, q, e4⟩
  tbs := g.tbs.un I.base
  scr := g.scr
  glob := g.glob
theorem GoodX.hu (g : GoodX G XR tabs k Γ N raw sc gen j X) : X.A.units + 200 < cLine := by
  have := g.room.un
  omega
/-! what is seen of a scope -/
def visB (sc : Scope) (x : Str) : Bool := match sc.names.lookup x with
  | some .local | some .cell | some .free => true
  | _ => false
theorem vis_ok {x : Str} (h : visB sc x = true) : Vis sc x := by
  unfold visB at h
  split at h
  · rename_i e; exact .inl e
  · rename_i e; exact .inr (.inl e)
  · rename_i e; exact .inr (.inr e)
  · cases h
def glB (sc : Scope) (x : Str) : Bool := sc.names.lookup x == some .globalImplicit
theorem gl_ok (g : GoodX G XR tabs k Γ N raw sc gen j X) {x : Str} (h : glB sc x = true) : Gl X x := by
  unfold glB at h
  show X.env.scope.names.lookup x = _
  rw [g.sc]
  exact eq_of_beq h
def noDbg (x : Str) : Bool := !(x == ("__debug__" : Str)) && !(x == ("__classdict__" : Str))
theorem dbg1 {x : Str} (h : noDbg x = true) : (x == ("__debug__" : Str)) = false := by simp [noDbg] at h; simp [h]
theorem dbg2 {x : Str} (h : noDbg x = true) : (x == ("__classdict__" : Str)) = false := by simp [noDbg] at h; simp [h]
/-- a block's own names -/
def ownB (N : List Str) (sc scope : Scope) (own : List Nat) : Bool :=
  decide (scope.kind = .function) && scope.names.all (fun y => scope.names.lookup y.1 == some y.2) && own.all (fun i => (N[i]?).isSome) &&
  scope.names.all (fun y => !(y.2 == .free) || sc.names.lookup y.1 == some .cell || sc.names.lookup y.1 == some .free) &&
  scope.names.all (fun y => !(y.2 == .local || y.2 == .cell) || own.any (fun i => N[i]? == some y.1) || !(N.contains y.1))
def ownL (N : List Str) (own : List Nat) : List (Str × Nat) := own.map fun i => ((N[i]?).getD default, i)
theorem ownL_snd : ∀ (own : List Nat), (ownL N own).map (·.2) = own
  | [] => rfl
  | i :: r => by
    show i :: (ownL N r).map (·.2) = i :: r
    rw [ownL_snd r]
theorem own_ok {scope : Scope} {own : List Nat} (h : ownB N sc scope own = true) : BlkOk N sc scope (ownL N own) := by
  simp only [ownB, Bool.and_eq_true, List.all_eq_true, decide_eq_true_eq] at h
  obtain ⟨⟨⟨⟨h1, h2⟩, h3⟩, h4⟩, h5⟩ := h
  refine ⟨h1, fun y hy => eq_of_beq (h2 y hy), fun p hp => ?_, fun y hy e => ?_, fun y hy e => ?_⟩
  · obtain ⟨i, hi, rfl⟩ := List.mem_map.mp hp
    have := h3 i hi
    obtain ⟨x, hx⟩ := Option.isSome_iff_exists.mp this
    show N[i]? = some ((N[i]?).getD default)
    rw [hx]; rfl
  · have := h4 y hy
    rw [e] at this
    simp only [Bool.or_eq_true, beq_iff_eq, Bool.not_eq_true'] at this
    rcases this with (z | z) | z
    · cases z
    · exact .inl z
    · exact .inr z
  · have := h5 y hy
    have hlc : (y.2 == .local || y.2 == .cell) = true := by rcases e with e | e <;> rw [e] <;> rfl
    rw [hlc] at this
    simp only [Bool.not_true, Bool.false_or, Bool.or_eq_true, List.any_eq_true, beq_iff_eq, Bool.not_eq_true'] at this
    rcases this with ⟨i, hi, e⟩ | z
    · refine .inl (List.mem_map.mpr ⟨((N[i]?).getD default, i), List.mem_map.mpr ⟨i, hi, rfl⟩, ?_⟩)
      show (N[i]?).getD default = y.1
      rw [e]; rfl
    · exact .inr fun z2 => by
        have := List.contains_iff_mem.mpr z2
        rw [z] at this; cases this
end
end D


set_option Elab.async false
set_option linter.all false
set_option maxHeartbeats 2000000
set_option maxRecDepth 100000
/-! EO: targets. -/
namespace D
open PySem PySem.Spec PyProof.Rows L2
def locB (raw sc : Scope) (x : Str) : Bool := sc.names.lookup x == some .local || (sc.names.lookup x == some .cell && raw.names.lookup x == some .cell)
mutual
def chkT (N : List Str) (raw sc : Scope) : T → Expr → Bool
  | .nm i, .Name x _ => N[i]? == some x && locB raw sc x
  | .tup ts, .Tuple es _ _ => chkTs N raw sc ts es
  | _, _ => false
def chkTs (N : List Str) (raw sc : Scope) : List T → List Expr → Bool
  | [], [] => true
  | t :: ts, e :: es => chkT N raw sc t e && chkTs N raw sc ts es
  | _, _ => false
end
section
variable {G : Gx} {XR : XRel} {tabs : Tz} {k : Nat} {Γ : Calls} {N : List Str} {raw sc : Scope} {gen : Bool} {j : Nat} {X : Cx} {W : WX}
theorem loc_ok (g : GoodX G XR tabs k Γ N raw sc gen j X) {x : Str} (h : locB raw sc x = true) : Loc X.env.scope x ∧ (X.fn x = true ∨ X.env.scope.names.lookup x = some .local) := by
  rw [g.sc]
  simp only [locB, Bool.or_eq_true, Bool.and_eq_true, beq_iff_eq] at h
  rcases h with h | ⟨h1, h2⟩
  · exact ⟨.inl h, .inr h⟩
  · exact ⟨.inr h1, .inl (g.fn x h2)⟩
def noStar : Expr → Bool
  | .Starred .. => false
  | _ => true
theorem chkT_star {t : T} {e : Expr} (h : chkT N raw sc t e = true) : noStar e = true := by
  cases t <;> cases e <;> first | rfl | (simp [chkT] at h)
theorem assign_star {e : Expr} (h : noStar e = true) (es : List Expr) (env : Env) : assignEach (e :: es) env = (false, assign e env) :: assignEach es env := by
  cases e <;> first | rfl | cases h
theorem chkTs_each : ∀ (ts : List T) (es : List Expr) (env : Env), chkTs N raw sc ts es = true → (assignEach es env).length = ts.length ∧ (assignEach es env).findIdx? (·.1) = none
  | [], [], _, _ => ⟨rfl, rfl⟩
  | [], _ :: _, _, h => by simp [chkTs] at h
  | _ :: _, [], _, h => by simp [chkTs] at h
  | t :: ts, e :: es, env, h => by
    simp only [chkTs, Bool.and_eq_true] at h
    obtain ⟨h1, h2⟩ := chkTs_each ts es env h.2
    rw [assign_star (chkT_star h.1)]
    refine ⟨by simp [h1], ?_⟩
    simp [List.findIdx?_cons, h2]
mutual
theorem tgt_ok (g : GoodX G XR tabs k Γ N raw sc gen j X) : ∀ (t : T) (e : Expr), chkT N raw sc t e = true → PG X e (tG X.K t)
  | .nm i, e, h => by
    cases e with
    | Name x pos =>
      simp only [chkT, Bool.and_eq_true, beq_iff_eq] at h
      obtain ⟨h1, h2⟩ := loc_ok g h.2
      exact pg_name (by rw [g.hN]; exact g.nd) (by rw [g.hN]; exact h.1) h1 h2
    | _ => simp [chkT] at h
  | .tup ts, e, h => by
    cases e with
    | Tuple es n pos =>
      simp only [chkT] at h
      obtain ⟨h1, h2⟩ := chkTs_each ts es X.env h
      exact pg_tup g.calm (tgts_ok g ts es h) h1 h2
    | _ => simp [chkT] at h
theorem tgts_ok (g : GoodX G XR tabs k Γ N raw sc gen j X) : ∀ (ts : List T) (es : List Expr), chkTs N raw sc ts es = true → PGs X es (tGs X.K ts)
  | [], [], _ => pgs_nil
  | [], _ :: _, h => by simp [chkTs] at h
  | _ :: _, [], h => by simp [chkTs] at h
  | t :: ts, e :: es, h => by
    simp only [chkTs, Bool.and_eq_true] at h
    exact pgs_cons (tgt_ok g t e h.1) (tgts_ok g ts es h.2) (by rw [assign_star (chkT_star h.1)]; rfl)
end
end
end D


set_option Elab.async false
set_option linter.all false
set_option maxHeartbeats 4000000
set_option maxRecDepth 100000
/-! EP: the checker of expressions. -/
namespace D
open PySem PySem.Spec PyProof.Rows L2
def Bi.nm : Bi → String
  | .len => "len" | .tuple => "tuple" | .list => "list" | .dict => "dict" | .int => "int" | .abs => "abs" | .sorted => "sorted" | .str => "str" | .min | .min2 => "min" | .max | .max2 => "max" | .sum => "sum" | .isStr | .isTuple => "isinstance"
def Bi.isF : Bi → Bool
  | .len | .abs => true
  | _ => false
def Bi.isT : Bi → Bool
  | .tuple | .list | .dict | .int => true
  | _ => false
def Es.len : Es → Nat
  | .nil => 0
  | .cons _ es => es.len + 1
  | .lend _ es => es.len + 1
def isIte : E → Bool
  | .ite .. => true
  | _ => false
def tagB (sc : Scope) (G : Gx) (y : Str) (nm : String) : Bool := y == Str.ofString nm && glB sc y && G.bs.contains nm
section
variable (G : Gx) (N : List Str) (gen : Bool)
mutual
def chkE : Nat → Nat → Scope → Scope → E → Expr → Bool
  | 0, _, _, _, _, _ => false
  | n + 1, j, raw, sc, .var i, .Name y _ => N[i]? == some y && visB sc y && noDbg y
  | n + 1, j, raw, sc, .con (.int a), .Constant (.int b) _ _ => a == b
  | n + 1, j, raw, sc, .con (.str a), .Constant (.str b) _ _ => b == sOf a
  | n + 1, j, raw, sc, .con .non, .Constant .none _ _ => true
  | n + 1, j, raw, sc, .con (.bool a), .Constant (.bool b) _ _ => a == b
  | n + 1, j, raw, sc, .glob g (.str v), .Name y _ => y == Str.ofString g && glB sc y && noDbg y && G.cs.contains (g, v)
  | n + 1, j, raw, sc, .tup es, .Tuple xs _ _ => chkEs n j raw sc es xs && xs.all okE && decide (xs.length ≤ 1000)
  | n + 1, j, raw, sc, .lst es, .List xs _ => chkEs n j raw sc es xs && xs.all okE && decide (xs.length ≤ 1000)
  | n + 1, j, raw, sc, .dct kvs, .Dict ks vs _ => chkKV n j raw sc kvs ks vs && decide (ks.length ≤ 15)
  | n + 1, j, raw, sc, .bin o a b, .BinOp y op z _ => decide (op = o.op) && chkE n j raw sc a y && chkE n j raw sc b z
  | n + 1, j, raw, sc, .cmp o a b, .Compare y [op] [z] _ => decide (op = o.op) && chkE n j raw sc a y && chkE n j raw sc b z && okE z
  | n + 1, j, raw, sc, .chn o p a b c, .Compare y [op, oq] [z, u] _ => decide (op = o.op) && decide (oq = p.op) && chkE n j raw sc a y && chkE n j raw sc b z && chkE n j raw sc c u && okE u
  | n + 1, j, raw, sc, .and a b, .BoolOp .And (y :: z :: r) _ => chkE n j raw sc a y && !isIte a && chkA n j raw sc true b (z :: r)
  | n + 1, j, raw, sc, .or a b, .BoolOp .Or (y :: z :: r) _ => chkE n j raw sc a y && !isIte a && chkA n j raw sc false b (z :: r)
  | n + 1, j, raw, sc, .not a, .UnaryOp .Not y _ => chkE n j raw sc a y && !isIte a
  | n + 1, j, raw, sc, .ite c a b, .IfExp t y z _ => chkE n j raw sc c t && !isIte c && chkE n j raw sc a y && chkE n j raw sc b z
  | n + 1, j, raw, sc, .ix a b, .Subscript y z _ => chkE n j raw sc a y && chkE n j raw sc b z && okE z
  | n + 1, j, raw, sc, .sl a lo hi, .Subscript y (.Slice l h none _) _ => chkE n j raw sc a y && chkO n j raw sc lo l && chkO n j raw sc hi h
  | n + 1, j, raw, sc, .call f es ds, .Call (.Name y _) xs [] _ => y == Str.ofString f && glB sc y && noDbg y && chkAs n j raw sc es xs && xs.all okE && (G.fs.any fun q => q.1 == f && q.2.1 == xs.length + ds.length && decide (q.2.2 = ds))
  | n + 1, j, raw, sc, .bi .isStr (.cons e .nil), .Call (.Name y _) [x, .Name t _] [] _ => tagB sc G y "isinstance" && tagB sc G t "str" && chkE n j raw sc e x && okE x
  | n + 1, j, raw, sc, .bi .isTuple (.cons e .nil), .Call (.Name y _) [x, .Name t _] [] _ => tagB sc G y "isinstance" && tagB sc G t "tuple" && chkE n j raw sc e x && okE x
  | n + 1, j, raw, sc, .bi b es, .Call (.Name y _) (x :: xs) [] _ => tagB sc G y b.nm && (b.isF || b.isT) && chkXs n j raw sc es (x :: xs) && (x :: xs).all okE
  | n + 1, j, raw, sc, .mth m o es, .Call (.Attribute ob nm apos) (x :: xs) [] cpos => nm == Str.ofString m.nm && decide (m = .get ∨ m = .join) && chkE n j raw sc o ob && chkXs n j raw sc es (x :: xs) && okB ob && (x :: xs).all okE && decide ((x :: xs).length < 20) && apos.endLine == cpos.line
  | n + 1, j, raw, sc, .lc own t i c e, .ListComp el [⟨tg, it, ifs, ia⟩] scope _ => ia == 0 && ownB N sc scope own && t.ids.all own.contains && chkI n j raw sc i tg it && okE it && chkT N scope (relS scope sc) t tg && chkC n j scope (relS scope sc) c ifs && chkE n j scope (relS scope sc) e el
  | n + 1, j, raw, sc, .dc own t i c k e, .DictComp kx vx [⟨tg, it, ifs, ia⟩] scope _ => ia == 0 && ownB N sc scope own && t.ids.all own.contains && chkI n j raw sc i tg it && okE it && chkT N scope (relS scope sc) t tg && chkC n j scope (relS scope sc) c ifs && chkE n j scope (relS scope sc) k kx && chkE n j scope (relS scope sc) e vx
  | n + 1, j + 1, raw, sc, .all own t i c e, .Call (.Name y _) [.GeneratorExp el [⟨tg, it, ifs, ia⟩] scope _] [] _ => gen && tagB sc G y "all" && ia == 0 && ownB N sc scope own && !scope.isCoroutine && scope.names.lookup (".0" : Str) == some .local && t.ids.all own.contains && chkI n (j + 1) raw sc i tg it && okG it && chkT N scope scope t tg && chkC n j scope scope c ifs && chkE n j scope scope e el
  | n + 1, j + 1, raw, sc, .any own t i c e, .Call (.Name y _) [.GeneratorExp el [⟨tg, it, ifs, ia⟩] scope _] [] _ => gen && tagB sc G y "any" && ia == 0 && ownB N sc scope own && !scope.isCoroutine && scope.names.lookup (".0" : Str) == some .local && t.ids.all own.contains && chkI n (j + 1) raw sc i tg it && okG it && chkT N scope scope t tg && chkC n j scope scope c ifs && chkE n j scope scope e el
  | _, _, _, _, _, _ => false
def chkA : Nat → Nat → Scope → Scope → Bool → E → List Expr → Bool
  | 0, _, _, _, _, _, _ => false
  | n + 1, j, raw, sc, op, e, [x] => chkE n j raw sc e x && !isIte e
  | n + 1, j, raw, sc, true, .and a b, y :: z :: r => chkE n j raw sc a y && !isIte a && chkA n j raw sc true b (z :: r)
  | n + 1, j, raw, sc, false, .or a b, y :: z :: r => chkE n j raw sc a y && !isIte a && chkA n j raw sc false b (z :: r)
  | _, _, _, _, _, _, _ => false
def chkEs : Nat → Nat → Scope → Scope → Es → List Expr → Bool
  | 0, _, _, _, _, _ => false
  | n + 1, j, raw, sc, .nil, [] => true
  | n + 1, j, raw, sc, .cons e es, x :: xs => chkE n j raw sc e x && okE x && chkEs n j raw sc es xs
  | _, _, _, _, _, _ => false
def chkAs : Nat → Nat → Scope → Scope → Es → List Expr → Bool
  | 0, _, _, _, _, _ => false
  | n + 1, j, raw, sc, .nil, [] => true
  | n + 1, j, raw, sc, .cons e es, x :: xs => chkE n j raw sc e x && okE x && chkAs n j raw sc es xs
  | n + 1, j, raw, sc, .lend e es, x :: xs => chkE n j raw sc e x && okE x && chkAs n j raw sc es xs
  | _, _, _, _, _, _ => false
def chkXs : Nat → Nat → Scope → Scope → Es → List Expr → Bool
  | 0, _, _, _, _, _ => false
  | n + 1, j, raw, sc, .nil, [] => true
  | n + 1, j, raw, sc, .cons e es, x :: xs => chkE n j raw sc e x && okE x && chkXs n j raw sc es xs
  | _, _, _, _, _, _ => false
def chkKV : Nat → Nat → Scope → Scope → Es → List (Option Expr) → List Expr → Bool
  | 0, _, _, _, _, _, _ => false
  | n + 1, j, raw, sc, .nil, [], [] => true
  | n + 1, j, raw, sc, .cons k (.cons e es), some x :: xs, y :: ys => chkE n j raw sc k x && chkE n j raw sc e y && chkKV n j raw sc es xs ys
  | _, _, _, _, _, _, _ => false
def chkO : Nat → Nat → Scope → Scope → Oe → Option Expr → Bool
  | 0, _, _, _, _, _ => false
  | n + 1, j, raw, sc, .none, none => true
  | n + 1, j, raw, sc, .some e, some x => chkE n j raw sc e x
  | _, _, _, _, _, _ => false
def chkC : Nat → Nat → Scope → Scope → Oe → List Expr → Bool
  | 0, _, _, _, _, _ => false
  | n + 1, j, raw, sc, .none, [] => true
  | n + 1, j, raw, sc, .some e, [x] => chkE n j raw sc e x && !isIte e
  | _, _, _, _, _, _ => false
def chkI : Nat → Nat → Scope → Scope → I → Expr → Expr → Bool
  | 0, _, _, _, _, _, _ => false
  | n + 1, j, raw, sc, .seq e, _, x => chkE n j raw sc e x
  | n + 1, j, raw, sc, .items e, .Tuple _ _ _, .Call (.Attribute x nm apos) [] [] cpos => nm == Str.ofString "items" && chkE n j raw sc e x && okB x && apos.endLine == cpos.line
  | n + 1, j, raw, sc, .enum e, .Tuple _ _ _, .Call (.Name y _) [x] [] _ => tagB sc G y "enumerate" && chkE n j raw sc e x && okE x
  | n + 1, j, raw, sc, .zip a b, .Tuple _ _ _, .Call (.Name y _) [x, z] [] _ => tagB sc G y "zip" && chkE n j raw sc a x && okE x && chkE n j raw sc b z && okE z
  | n + 1, j, raw, sc, .rng e, _, .Call (.Name y _) [x] [] _ => tagB sc G y "range" && chkE n j raw sc e x && okE x
  | _, _, _, _, _, _, _ => false
end
end
end D


set_option Elab.async false
set_option linter.all false
set_option maxHeartbeats 4000000
set_option maxRecDepth 100000
/-! EQ: what is checked is done as the evaluator says. -/
namespace D
open PySem PySem.Spec PyProof.Rows L2
structure SoundN (G : Gx) (XR : XRel) (tabs : Tz) (k : Nat) (Γ : Calls) (N : List Str) (gen : Bool) (n : Nat) : Prop where
  e : ∀ {j : Nat} {raw sc : Scope} {X : Cx} {W : WX} {e : E} {x : Expr}, GoodX G XR tabs k Γ N raw sc gen j X → Takes X W → chkE G N gen n j raw sc e x = true → PE X x (rdE X W XR (evalE Γ e)) ∧ (isIte e = false → PT X x (rdB X W XR fun ρ => evalE Γ e ρ >>= isB))
  a : ∀ {j : Nat} {raw sc : Scope} {X : Cx} {W : WX} {op : Bool} {e : E} {xs : List Expr} {pos : Pos}, GoodX G XR tabs k Γ N raw sc gen j X → Takes X W → chkA G N gen n j raw sc op e xs = true → SndA X W XR (evalE Γ e) (if op then .And else .Or) xs pos
  es : ∀ {j : Nat} {raw sc : Scope} {X : Cx} {W : WX} {e : Es} {xs : List Expr}, GoodX G XR tabs k Γ N raw sc gen j X → Takes X W → chkEs G N gen n j raw sc e xs = true → PA X xs (rdEs X W XR (evalEs Γ e)) ∧ e.len = xs.length
  as : ∀ {j : Nat} {raw sc : Scope} {X : Cx} {W : WX} {e : Es} {xs : List Expr}, GoodX G XR tabs k Γ N raw sc gen j X → Takes X W → chkAs G N gen n j raw sc e xs = true → PA X xs (rdAs X W XR (evalAs Γ e)) ∧ e.len = xs.length
  xs : ∀ {j : Nat} {raw sc : Scope} {X : Cx} {W : WX} {e : Es} {xs : List Expr}, GoodX G XR tabs k Γ N raw sc gen j X → Takes X W → chkXs G N gen n j raw sc e xs = true → PA X xs (rdXs X W XR (evalXs Γ e))
  kv : ∀ {j : Nat} {raw sc : Scope} {X : Cx} {W : WX} {e : Es} {ks : List (Option Expr)} {vs : List Expr} {pos : Pos}, GoodX G XR tabs k Γ N raw sc gen j X → Takes X W → chkKV G N gen n j raw sc e ks vs = true → PKV X pos ks vs (rdKV X W XR (evalKV Γ e)) ∧ ks.all (·.isSome) = true ∧ ks.length = vs.length ∧ (ks = [] → e = .nil)
  o : ∀ {j : Nat} {raw sc : Scope} {X : Cx} {W : WX} {e : Oe} {x : Option Expr}, GoodX G XR tabs k Γ N raw sc gen j X → Takes X W → chkO G N gen n j raw sc e x = true → PO X x (rdOi X W XR (evalOi Γ e))
  c : ∀ {j : Nat} {raw sc : Scope} {X : Cx} {W : WX} {e : Oe} {xs : List Expr}, GoodX G XR tabs k Γ N raw sc gen j X → Takes X W → chkC G N gen n j raw sc e xs = true → PTs X xs (rdB X W XR (evalOc Γ e))
  i : ∀ {j : Nat} {raw sc : Scope} {X : Cx} {W : WX} {e : I} {tg x : Expr}, GoodX G XR tabs k Γ N raw sc gen j X → Takes X W → chkI G N gen n j raw sc e tg x = true → PI X tg x (rdI X W XR (evalI Γ e))
section
variable {G : Gx} {XR : XRel} {tabs : Tz} {k : Nat} {Γ : Calls} {N : List Str} {gen : Bool} {n j : Nat} {raw sc : Scope} {X : Cx} {W : WX}
theorem evalEs_len : ∀ (es : Es) (ρ : Sl) (st : Store) (vs : List Val) (st' : Store), evalEs Γ es ρ st = .ok vs st' → vs.length = es.len
  | .nil, ρ, st, vs, st', h => by simp only [evalEs] at h; cases h; rfl
  | .cons e es, ρ, st, vs, st', h => by
    simp only [evalEs] at h
    rw [M.bind_eq] at h
    split at h
    · rw [M.bind_eq] at h
      split at h
      · rw [M.bind_eq] at h
        split at h
        · rename_i q
          cases h
          simp [Es.len, evalEs_len es _ _ _ _ q]
        · cases h
        · cases h
      · cases h
      · cases h
    · cases h
    · cases h
  | .lend _ _, ρ, st, vs, st', h => by simp only [evalEs] at h; cases h
theorem evalAs_len : ∀ (es : Es) (ρ : Sl) (st : Store) (vs : List SV) (st' : Store), evalAs Γ es ρ st = .ok vs st' → vs.length = es.len
  | .nil, ρ, st, vs, st', h => by simp only [evalAs] at h; cases h; rfl
  | .cons e es, ρ, st, vs, st', h => by
    simp only [evalAs] at h
    rw [M.bind_eq] at h
    split at h
    · rw [M.bind_eq] at h
      split at h
      · rw [M.bind_eq] at h
        split at h
        · rename_i q
          cases h
          simp [Es.len, evalAs_len es _ _ _ _ q]
        · cases h
        · cases h
      · cases h
      · cases h
    · cases h
    · cases h
  | .lend e es, ρ, st, vs, st', h => by
    simp only [evalAs] at h
    rw [M.bind_eq] at h
    split at h
    · rw [M.bind_eq] at h
      split at h
      · rw [M.bind_eq] at h
        split at h
        · rename_i q
          cases h
          simp [Es.len, evalAs_len es _ _ _ _ q]
        · cases h
        · cases h
      · cases h
      · cases h
    · cases h
    · cases h
theorem Snd.both {ev : Sl → M EV} {x : Expr} {p : Prop} (h : Snd X W XR ev x) : PE X x (rdE X W XR ev) ∧ (p → PT X x (rdB X W XR fun ρ => ev ρ >>= isB)) := ⟨h.pe, fun _ => h.pt⟩
theorem SoundN.snd (S : SoundN G XR tabs k Γ N gen n) (g : GoodX G XR tabs k Γ N raw sc gen j X) (tk : Takes X W) {e : E} {x : Expr} (h : chkE G N gen n j raw sc e x = true) (hi : isIte e = false) : Snd X W XR (evalE Γ e) x := ⟨(S.e g tk h).1, (S.e g tk h).2 hi⟩
theorem tag_ok (g : GoodX G XR tabs k Γ N raw sc gen j X) {y : Str} {nm : String} (h : tagB sc G y nm = true) : y = Str.ofString nm ∧ Gl X y ∧ X.mg y = none := by
  simp only [tagB, Bool.and_eq_true, beq_iff_eq] at h
  obtain ⟨⟨rfl, h2⟩, h3⟩ := h
  exact ⟨rfl, gl_ok g h2, g.glob.bs nm (List.contains_iff_mem.mp h3)⟩
end
end D


set_option Elab.async false
set_option linter.all false
set_option maxHeartbeats 8000000
set_option maxRecDepth 100000
/-! ER: expressions' step. -/
namespace D
open PySem PySem.Spec PyProof.Rows L2
section
variable {G : Gx} {XR : XRel} {tabs : Tz} {k : Nat} {Γ : Calls} {N : List Str} {gen : Bool} {n j : Nat} {raw sc : Scope} {X : Cx} {W : WX}
theorem bi_ok (S : SoundN G XR tabs k Γ N gen n) (g : GoodX G XR tabs k Γ N raw sc gen j X) (tk : Takes X W) {b : Bi} {es : Es} {x : Expr} {xs : List Expr} {y : Str} {p pos : Pos} (h1 : tagB sc G y b.nm = true) (h2 : (b.isF || b.isT) = true) (h3 : chkXs G N gen n j raw sc es (x :: xs) = true) (h4 : (x :: xs).all okE = true) :
    Snd X W XR (evalE Γ (.bi b es)) (.Call (.Name y p) (x :: xs) [] pos) := by
  obtain ⟨rfl, t1, t2⟩ := tag_ok g h1
  have hx := S.xs g tk h3
  cases b with
  | len => exact s_biF (k := .len) (id := "len") rfl (by simp) t1 t2 (by decide +kernel) (by decide) (by decide) hx h4
  | abs => exact s_biF (k := .abs) (id := "abs") rfl (by simp) t1 t2 (by decide +kernel) (by decide) (by decide) hx h4
  | tuple => exact s_biT (k := .tuple) (id := "tuple") rfl (by simp) t1 t2 (by decide +kernel) (by decide) (by decide) hx h4
  | list => exact s_biT (k := .list) (id := "list") rfl (by simp) t1 t2 (by decide +kernel) (by decide) (by decide) hx h4
  | dict => exact s_biT (k := .dict) (id := "dict") rfl (by simp) t1 t2 (by decide +kernel) (by decide) (by decide) hx h4
  | int => exact s_biT (k := .int) (id := "int") rfl (by simp) t1 t2 (by decide +kernel) (by decide) (by decide) hx h4
  | _ => simp [Bi.isF, Bi.isT] at h2
theorem dct_ok (S : SoundN G XR tabs k Γ N gen n) (g : GoodX G XR tabs k Γ N raw sc gen j X) (tk : Takes X W) {kvs : Es} {ks : List (Option Expr)} {vs : List Expr} {pos : Pos} (h : chkKV G N gen n j raw sc kvs ks vs = true) (hl : ks.length ≤ 15) : Snd X W XR (evalE Γ (.dct kvs)) (.Dict ks vs pos) := by
  obtain ⟨h1, h2, h3, h4⟩ := S.kv (pos := pos) g tk h
  by_cases h0 : ks = []
  · have h5 := h4 h0
    subst h0
    have h6 := List.length_eq_zero_iff.mp h3.symm
    subst h6
    subst h5
    exact Snd.of s_dct0 fun _ => rfl
  · exact Snd.of (s_dct g.hu h1 h2 h3 h0 hl) fun _ => rfl
theorem call_ok (S : SoundN G XR tabs k Γ N gen n) (g : GoodX G XR tabs k Γ N raw sc gen j X) (tk : Takes X W) {f : String} {es : Es} {ds : List Val} {xs : List Expr} {p pos : Pos} (h2 : glB sc (Str.ofString f) = true) (h3 : noDbg (Str.ofString f) = true) (h4 : chkAs G N gen n j raw sc es xs = true) (h5 : xs.all okE = true)
    (hq : (f, xs.length + ds.length, ds) ∈ G.fs) : Snd X W XR (evalE Γ (.call f es ds)) (.Call (.Name (Str.ofString f) p) xs [] pos) := by
  obtain ⟨fa, fd, ps, hm, hk, hl, F, dv, dvs, hb, hd, hdl, hdr⟩ := (g.glob.fs _ hq).ex
  obtain ⟨h6, h7⟩ := S.as g tk h4
  have hr : Room k X.A := g.room.mono (Nat.le_add_right _ _)
  cases xs with
  | nil =>
    have he : es = .nil := by cases es <;> first | rfl | (simp [Es.len] at h7)
    subst he
    refine Snd.of (PE.imp (s_call0 F hr (gl_ok g h2) hm hk hb hd hdr tk g.tbs (by rw [hl, hdl]; simp) (dbg1 h3)) fun σ H Q q => q) call_test
  | cons e es2 =>
    exact Snd.of (s_call F hr (gl_ok g h2) hm hk hb hd hdr tk g.tbs (by rw [hl, hdl]) h6 (fun ρ st vs st' q => (evalAs_len _ ρ st vs st' q).trans h7) (dbg1 h3) h5) call_test
theorem lc_ok (S : SoundN G XR tabs k Γ N gen n) (g : GoodX G XR tabs k Γ N raw sc gen j X) (tk : Takes X W) {own : List Nat} {t : T} {i : I} {c : Oe} {e : E} {el tg it : Expr} {ifs : List Expr} {scope : Scope} {pos : Pos} (h1 : ownB N sc scope own = true) (h2 : t.ids.all own.contains = true) (h3 : chkI G N gen n j raw sc i tg it = true) (h4 : okE it = true)
    (h5 : chkT N scope (relS scope sc) t tg = true) (h6 : chkC G N gen n j scope (relS scope sc) c ifs = true) (h7 : chkE G N gen n j scope (relS scope sc) e el = true) : PE X (.ListComp el [⟨tg, it, ifs, 0⟩] scope pos) (rdE X W XR (evalE Γ (.lc own t i c e))) := by
  have hN : X.N.Nodup := by rw [g.hN]; exact g.nd
  have ok : BlkOk X.N X.env.scope scope (ownL N own) := by rw [g.hN, g.sc]; exact own_ok h1
  have := s_lc (W := W) (XR := XR) (pos := pos) (ei := evalI Γ i) (ec := evalOc Γ c) (ee := evalE Γ e) (t := t) g.calm hN (S.i g tk h3) ok (by rw [ownL_snd]; intro l hl; exact List.contains_iff_mem.mp (List.all_eq_true.mp h2 l hl)) (fun s H fp pins σ I => ⟨tgt_ok (g.blk I) t tg h5, S.c (g.blk I) takes0 h6, (S.e (g.blk I) takes0 h7).1⟩) (fun x => fold_ok h4 _ x)
  rw [ownL_snd] at this
  exact this
theorem dc_ok (S : SoundN G XR tabs k Γ N gen n) (g : GoodX G XR tabs k Γ N raw sc gen j X) (tk : Takes X W) {own : List Nat} {t : T} {i : I} {c : Oe} {e1 e : E} {kx vx tg it : Expr} {ifs : List Expr} {scope : Scope} {pos : Pos} (h1 : ownB N sc scope own = true) (h2 : t.ids.all own.contains = true) (h3 : chkI G N gen n j raw sc i tg it = true) (h4 : okE it = true)
    (h5 : chkT N scope (relS scope sc) t tg = true) (h6 : chkC G N gen n j scope (relS scope sc) c ifs = true) (h7 : chkE G N gen n j scope (relS scope sc) e1 kx = true) (h8 : chkE G N gen n j scope (relS scope sc) e vx = true) : PE X (.DictComp kx vx [⟨tg, it, ifs, 0⟩] scope pos) (rdE X W XR (evalE Γ (.dc own t i c e1 e))) := by
  have hN : X.N.Nodup := by rw [g.hN]; exact g.nd
  have ok : BlkOk X.N X.env.scope scope (ownL N own) := by rw [g.hN, g.sc]; exact own_ok h1
  have := s_dc (W := W) (XR := XR) (pos := pos) (ei := evalI Γ i) (ec := evalOc Γ c) (ek := evalE Γ e1) (ee := evalE Γ e) (t := t) g.hu g.calm hN (S.i g tk h3) ok (by rw [ownL_snd]; intro l hl; exact List.contains_iff_mem.mp (List.all_eq_true.mp h2 l hl)) (fun s H fp pins σ I => ⟨tgt_ok (g.blk I) t tg h5, S.c (g.blk I) takes0 h6, (S.e (g.blk I) takes0 h7).1, (S.e (g.blk I) takes0 h8).1⟩) (fun x => fold_ok h4 _ x)
  rw [ownL_snd] at this
  exact this
theorem gen_ok {scope : Scope} {own : List Nat} (g : GoodX G XR tabs k Γ N raw sc gen j X) (h1 : ownB N sc scope own = true) (h2 : scope.isCoroutine = false) (h3 : scope.names.lookup (".0" : Str) = some .local) : GenOk X scope (ownL N own) := ⟨by rw [g.hN, g.sc]; exact own_ok h1, h2, h3⟩
theorem all_ok (S : SoundN G XR tabs k Γ N gen n) (g : GoodX G XR tabs k Γ N raw sc gen (j + 1) X) (tk : Takes X W) {own : List Nat} {t : T} {i : I} {c : Oe} {e : E} {el tg it : Expr} {ifs : List Expr} {scope : Scope} {p p2 pos : Pos} (hg : gen = true) (ht : tagB sc G "all" "all" = true) (h1 : ownB N sc scope own = true) (hco : scope.isCoroutine = false) (hdot : scope.names.lookup (".0" : Str) = some .local)
    (h2 : t.ids.all own.contains = true) (h3 : chkI G N gen n (j + 1) raw sc i tg it = true) (h4 : okG it = true)
    (h5 : chkT N scope scope t tg = true) (h6 : chkC G N gen n j scope scope c ifs = true) (h7 : chkE G N gen n j scope scope e el = true) : Snd X W XR (evalE Γ (.all own t i c e)) (.Call (.Name "all" p) [.GeneratorExp el [⟨tg, it, ifs, 0⟩] scope p2] [] pos) := by
  have hN : X.N.Nodup := by rw [g.hN]; exact g.nd
  obtain ⟨cc, PP, C⟩ := g.code hg
  obtain ⟨_, t1, t2⟩ := tag_ok g ht
  have := s_all (W := W) (XR := XR) (p := p) (gpos := p2) (pos := pos) (ei := evalI Γ i) (ec := evalOc Γ c) (ee := evalE Γ e) (t := t) (g.room) g.calm hN C g.glob.bm (gen_ok g h1 hco hdot) (S.i g tk h3) (by rw [ownL_snd]; intro l hl; exact List.contains_iff_mem.mp (List.all_eq_true.mp h2 l hl))
    (fun s H code fp pins σ I hc => ⟨tgt_ok (g.gex I hc) t tg h5, S.c (g.gex I hc) takes0 h6, (S.e (g.gex I hc) takes0 h7).1⟩) (fun x => genf_ok h4 _ x) t1 t2
  rw [ownL_snd] at this
  exact this
theorem any_ok (S : SoundN G XR tabs k Γ N gen n) (g : GoodX G XR tabs k Γ N raw sc gen (j + 1) X) (tk : Takes X W) {own : List Nat} {t : T} {i : I} {c : Oe} {e : E} {el tg it : Expr} {ifs : List Expr} {scope : Scope} {p p2 pos : Pos} (hg : gen = true) (ht : tagB sc G "any" "any" = true) (h1 : ownB N sc scope own = true) (hco : scope.isCoroutine = false) (hdot : scope.names.lookup (".0" : Str) = some .local)
    (h2 : t.ids.all own.contains = true) (h3 : chkI G N gen n (j + 1) raw sc i tg it = true) (h4 : okG it = true)
    (h5 : chkT N scope scope t tg = true) (h6 : chkC G N gen n j scope scope c ifs = true) (h7 : chkE G N gen n j scope scope e el = true) : Snd X W XR (evalE Γ (.any own t i c e)) (.Call (.Name "any" p) [.GeneratorExp el [⟨tg, it, ifs, 0⟩] scope p2] [] pos) := by
  have hN : X.N.Nodup := by rw [g.hN]; exact g.nd
  obtain ⟨cc, PP, C⟩ := g.code hg
  obtain ⟨_, t1, t2⟩ := tag_ok g ht
  have := s_any (W := W) (XR := XR) (p := p) (gpos := p2) (pos := pos) (ei := evalI Γ i) (ec := evalOc Γ c) (ee := evalE Γ e) (t := t) (g.room) g.calm hN C g.glob.bm (gen_ok g h1 hco hdot) (S.i g tk h3) (by rw [ownL_snd]; intro l hl; exact List.contains_iff_mem.mp (List.all_eq_true.mp h2 l hl))
    (fun s H code fp pins σ I hc => ⟨tgt_ok (g.gex I hc) t tg h5, S.c (g.gex I hc) takes0 h6, (S.e (g.gex I hc) takes0 h7).1⟩) (fun x => genf_ok h4 _ x) t1 t2
  rw [ownL_snd] at this
  exact this
theorem step_e (S : SoundN G XR tabs k Γ N gen n) {e : E} {x : Expr} (g : GoodX G XR tabs k Γ N raw sc gen j X) (tk : Takes X W) (h : chkE G N gen (n + 1) j raw sc e x = true) : PE X x (rdE X W XR (evalE Γ e)) ∧ (isIte e = false → PT X x (rdB X W XR fun ρ => evalE Γ e ρ >>= isB)) := by
  have hu := g.hu
  have hN : X.N.Nodup := by rw [g.hN]; exact g.nd
  unfold chkE at h
  split at h
  all_goals try (have hq := Nat.succ.inj (by assumption : n + 1 = Nat.succ _); subst hq)
  · cases h
  · -- var
    simp only [Bool.and_eq_true, beq_iff_eq] at h
    exact (s_var (by rw [g.hN]; exact h.1.1) (by rw [g.sc]; exact vis_ok h.1.2) (dbg1 h.2) (dbg2 h.2)).both
  · -- int
    simp only [beq_iff_eq] at h
    subst h
    exact s_int.both
  · -- str
    simp only [beq_iff_eq] at h
    exact (s_str h).both
  · exact s_non.both
  · -- bool
    simp only [beq_iff_eq] at h
    subst h
    exact (Snd.of s_boolE fun _ => rfl).both
  · -- glob
    simp only [Bool.and_eq_true, beq_iff_eq] at h
    obtain ⟨⟨⟨rfl, h2⟩, h3⟩, h4⟩ := h
    obtain ⟨t, ht⟩ := g.glob.cs _ (List.contains_iff_mem.mp h4)
    exact (s_glob (pe_glob (v := V.str (sOf _)) (gl_ok g h2) ht ⟨t, rfl⟩ (dbg1 h3)) (fun _ _ _ => by rfl) fun _ => rfl).both
  · -- tup
    simp only [Bool.and_eq_true, decide_eq_true_eq] at h
    obtain ⟨h1, h2⟩ := S.es g tk h.1.1
    exact (s_tup (Nat.le_trans h.2 (by decide)) h1 fun ρ st vs st' e => (evalEs_len _ ρ st vs st' e).trans h2).both
  · -- lst
    simp only [Bool.and_eq_true, decide_eq_true_eq] at h
    obtain ⟨h1, h2⟩ := S.es g tk h.1.1
    exact (s_lst (Nat.le_trans h.2 (by decide)) h1 fun ρ st vs st' e => (evalEs_len _ ρ st vs st' e).trans h2).both
  · -- dct
    simp only [Bool.and_eq_true, decide_eq_true_eq] at h
    exact (dct_ok S g tk h.1 h.2).both
  · -- bin
    simp only [Bool.and_eq_true, decide_eq_true_eq] at h
    obtain ⟨⟨rfl, h1⟩, h2⟩ := h
    exact (Snd.of (s_bin (S.e g tk h1).1 (S.e g tk h2).1) fun _ => rfl).both
  · -- cmp
    simp only [Bool.and_eq_true, decide_eq_true_eq] at h
    obtain ⟨⟨⟨rfl, h1⟩, h2⟩, h3⟩ := h
    exact (s_cmp hu (S.e g tk h1).1 (S.e g tk h2).1 (marks_ok h3 _)).both
  · -- chn
    simp only [Bool.and_eq_true, decide_eq_true_eq] at h
    obtain ⟨⟨⟨⟨⟨rfl, rfl⟩, h1⟩, h2⟩, h3⟩, h4⟩ := h
    exact (s_chn hu (S.e g tk h1).1 (S.e g tk h2).1 (S.e g tk h3).1 (marks2_ok h4 _ _)).both
  · -- and
    simp only [Bool.and_eq_true, Bool.not_eq_true'] at h
    exact ((s_and (S.snd g tk h.1.1 h.1.2) (S.a g tk h.2)).snd).both
  · -- or
    simp only [Bool.and_eq_true, Bool.not_eq_true'] at h
    exact ((s_or (S.snd g tk h.1.1 h.1.2) (S.a g tk h.2)).snd).both
  · -- not
    simp only [Bool.and_eq_true, Bool.not_eq_true'] at h
    exact (s_not (S.snd g tk h.1 h.2)).both
  · -- ite
    simp only [Bool.and_eq_true, Bool.not_eq_true'] at h
    exact ⟨s_ite (S.snd g tk h.1.1.1 h.1.1.2).pt (S.e g tk h.1.2).1 (S.e g tk h.2).1, fun z => by cases z⟩
  · -- ix
    simp only [Bool.and_eq_true] at h
    exact (s_ix hu (S.e g tk h.1.1).1 (S.e g tk h.1.2).1 (plain_ok h.2)).both
  · -- sl
    simp only [Bool.and_eq_true] at h
    exact (s_sl (by rw [g.scr]; exact g.tbs.2) (S.e g tk h.1.1).1 (S.o g tk h.1.2) (S.o g tk h.2)).both
  · -- call
    simp only [Bool.and_eq_true, beq_iff_eq, List.any_eq_true, decide_eq_true_eq] at h
    obtain ⟨⟨⟨⟨⟨rfl, h2⟩, h3⟩, h4⟩, h5⟩, ⟨q1, q2, q3⟩, hq, ⟨h6, h7⟩, h8⟩ := h
    dsimp only at h6 h7 h8
    subst h6; subst h7; subst h8
    exact (call_ok S g tk h2 h3 h4 h5 hq).both
  · -- isStr
    simp only [Bool.and_eq_true] at h
    obtain ⟨⟨⟨h1, h2⟩, h3⟩, h4⟩ := h
    obtain ⟨rfl, t1, t2⟩ := tag_ok g h1
    obtain ⟨rfl, t3, t4⟩ := tag_ok g h2
    exact (s_isi (k := .isStr) (.inl rfl) t1 t2 t3 t4 (S.e g tk h3).1 h4).both
  · -- isTuple
    simp only [Bool.and_eq_true] at h
    obtain ⟨⟨⟨h1, h2⟩, h3⟩, h4⟩ := h
    obtain ⟨rfl, t1, t2⟩ := tag_ok g h1
    obtain ⟨rfl, t3, t4⟩ := tag_ok g h2
    exact (s_isi (k := .isTuple) (.inr rfl) t1 t2 t3 t4 (S.e g tk h3).1 h4).both
  · -- bi
    simp only [Bool.and_eq_true] at h
    exact (bi_ok S g tk h.1.1.1 h.1.1.2 h.1.2 h.2).both
  · -- mth
    simp only [Bool.and_eq_true, decide_eq_true_eq, beq_iff_eq] at h
    obtain ⟨⟨⟨⟨⟨⟨⟨rfl, h2⟩, h3⟩, h4⟩, h5⟩, h6⟩, h7⟩, h8⟩ := h
    exact (s_mth hu h2 (S.e g tk h3).1 (S.xs g tk h4) h5 (by simpa using h6) h7 (by simpa using h8)).both
  · -- lc
    simp only [Bool.and_eq_true, beq_iff_eq] at h
    obtain ⟨⟨⟨⟨⟨⟨⟨rfl, h1⟩, h2⟩, h3⟩, h4⟩, h5⟩, h6⟩, h7⟩ := h
    exact (Snd.of (lc_ok S g tk h1 h2 h3 h4 h5 h6 h7) fun _ => rfl).both
  · -- dc
    simp only [Bool.and_eq_true, beq_iff_eq] at h
    obtain ⟨⟨⟨⟨⟨⟨⟨⟨rfl, h1⟩, h2⟩, h3⟩, h4⟩, h5⟩, h6⟩, h7⟩, h8⟩ := h
    exact (Snd.of (dc_ok S g tk h1 h2 h3 h4 h5 h6 h7 h8) fun _ => rfl).both
  · -- all
    simp only [Bool.and_eq_true, beq_iff_eq, Bool.not_eq_true'] at h
    obtain ⟨⟨⟨⟨⟨⟨⟨⟨⟨⟨⟨hg, ht⟩, rfl⟩, h1⟩, hco⟩, hdot⟩, h2⟩, h3⟩, h4⟩, h5⟩, h6⟩, h7⟩ := h
    obtain ⟨rfl, _⟩ := tag_ok g ht
    exact (all_ok S g tk hg ht h1 hco hdot h2 h3 h4 h5 h6 h7).both
  · -- any
    simp only [Bool.and_eq_true, beq_iff_eq, Bool.not_eq_true'] at h
    obtain ⟨⟨⟨⟨⟨⟨⟨⟨⟨⟨⟨hg, ht⟩, rfl⟩, h1⟩, hco⟩, hdot⟩, h2⟩, h3⟩, h4⟩, h5⟩, h6⟩, h7⟩ := h
    obtain ⟨rfl, _⟩ := tag_ok g ht
    exact (any_ok S g tk hg ht h1 hco hdot h2 h3 h4 h5 h6 h7).both
  · cases h
end
end D


set_option Elab.async false
set_option linter.all false
set_option maxHeartbeats 8000000
set_option maxRecDepth 100000
/-! ES: expressions' soundness. -/
namespace D
open PySem PySem.Spec PyProof.Rows L2
section
variable {G : Gx} {XR : XRel} {tabs : Tz} {k : Nat} {Γ : Calls} {N : List Str} {gen : Bool} {n j : Nat} {raw sc : Scope} {X : Cx} {W : WX}
theorem step_a (S : SoundN G XR tabs k Γ N gen n) {op : Bool} {e : E} {xs : List Expr} {pos : Pos} (g : GoodX G XR tabs k Γ N raw sc gen j X) (tk : Takes X W) (h : chkA G N gen (n + 1) j raw sc op e xs = true) : SndA X W XR (evalE Γ e) (if op then .And else .Or) xs pos := by
  unfold chkA at h
  split at h
  all_goals try (have hq := Nat.succ.inj (by assumption : n + 1 = Nat.succ _); subst hq)
  · cases h
  · simp only [Bool.and_eq_true, Bool.not_eq_true'] at h
    split
    · exact s_and1 (S.snd g tk h.1 h.2)
    · exact s_or1 (S.snd g tk h.1 h.2)
  · simp only [Bool.and_eq_true, Bool.not_eq_true'] at h
    exact s_and (S.snd g tk h.1.1 h.1.2) (S.a (op := true) g tk h.2)
  · simp only [Bool.and_eq_true, Bool.not_eq_true'] at h
    exact s_or (S.snd g tk h.1.1 h.1.2) (S.a (op := false) g tk h.2)
  · cases h
theorem step_es (S : SoundN G XR tabs k Γ N gen n) {e : Es} {xs : List Expr} (g : GoodX G XR tabs k Γ N raw sc gen j X) (tk : Takes X W) (h : chkEs G N gen (n + 1) j raw sc e xs = true) : PA X xs (rdEs X W XR (evalEs Γ e)) ∧ e.len = xs.length := by
  unfold chkEs at h
  split at h
  all_goals try (have hq := Nat.succ.inj (by assumption : n + 1 = Nat.succ _); subst hq)
  · cases h
  · exact ⟨s_esNil, rfl⟩
  · simp only [Bool.and_eq_true] at h
    obtain ⟨h1, h2⟩ := S.es g tk h.2
    exact ⟨s_esCons (S.e g tk h.1.1).1 h1 (star_ok h.1.2 _ _), by simp [Es.len, h2]⟩
  · cases h
theorem step_as (S : SoundN G XR tabs k Γ N gen n) {e : Es} {xs : List Expr} (g : GoodX G XR tabs k Γ N raw sc gen j X) (tk : Takes X W) (h : chkAs G N gen (n + 1) j raw sc e xs = true) : PA X xs (rdAs X W XR (evalAs Γ e)) ∧ e.len = xs.length := by
  unfold chkAs at h
  split at h
  all_goals try (have hq := Nat.succ.inj (by assumption : n + 1 = Nat.succ _); subst hq)
  · cases h
  · exact ⟨s_asNil, rfl⟩
  · simp only [Bool.and_eq_true] at h
    obtain ⟨h1, h2⟩ := S.as g tk h.2
    exact ⟨s_asCons (ln := false) (S.e g tk h.1.1).1 h1 (star_ok h.1.2 _ _), by simp [Es.len, h2]⟩
  · simp only [Bool.and_eq_true] at h
    obtain ⟨h1, h2⟩ := S.as g tk h.2
    exact ⟨s_asCons (ln := true) (S.e g tk h.1.1).1 h1 (star_ok h.1.2 _ _), by simp [Es.len, h2]⟩
  · cases h
theorem step_xs (S : SoundN G XR tabs k Γ N gen n) {e : Es} {xs : List Expr} (g : GoodX G XR tabs k Γ N raw sc gen j X) (tk : Takes X W) (h : chkXs G N gen (n + 1) j raw sc e xs = true) : PA X xs (rdXs X W XR (evalXs Γ e)) := by
  unfold chkXs at h
  split at h
  all_goals try (have hq := Nat.succ.inj (by assumption : n + 1 = Nat.succ _); subst hq)
  · cases h
  · exact s_xsNil
  · simp only [Bool.and_eq_true] at h
    exact s_xsCons (S.e g tk h.1.1).1 (S.xs g tk h.2) (star_ok h.1.2 _ _)
  · cases h
theorem step_kv (S : SoundN G XR tabs k Γ N gen n) {e : Es} {ks : List (Option Expr)} {vs : List Expr} {pos : Pos} (g : GoodX G XR tabs k Γ N raw sc gen j X) (tk : Takes X W) (h : chkKV G N gen (n + 1) j raw sc e ks vs = true) :
    PKV X pos ks vs (rdKV X W XR (evalKV Γ e)) ∧ ks.all (·.isSome) = true ∧ ks.length = vs.length ∧ (ks = [] → e = .nil) := by
  unfold chkKV at h
  split at h
  all_goals try (have hq := Nat.succ.inj (by assumption : n + 1 = Nat.succ _); subst hq)
  · cases h
  · exact ⟨s_kvNil, rfl, rfl, fun _ => rfl⟩
  · simp only [Bool.and_eq_true] at h
    obtain ⟨h1, h2, h3, h4⟩ := S.kv (pos := pos) g tk h.2
    exact ⟨s_kvCons (S.e g tk h.1.1).1 (S.e g tk h.1.2).1 h1, by simpa using h2, by simp [h3], fun z => by cases z⟩
  · cases h
theorem step_o (S : SoundN G XR tabs k Γ N gen n) {e : Oe} {x : Option Expr} (g : GoodX G XR tabs k Γ N raw sc gen j X) (tk : Takes X W) (h : chkO G N gen (n + 1) j raw sc e x = true) : PO X x (rdOi X W XR (evalOi Γ e)) := by
  unfold chkO at h
  split at h
  all_goals try (have hq := Nat.succ.inj (by assumption : n + 1 = Nat.succ _); subst hq)
  · cases h
  · exact s_oiNone
  · exact s_oiSome (S.e g tk h).1
  · cases h
theorem step_c (S : SoundN G XR tabs k Γ N gen n) {e : Oe} {xs : List Expr} (g : GoodX G XR tabs k Γ N raw sc gen j X) (tk : Takes X W) (h : chkC G N gen (n + 1) j raw sc e xs = true) : PTs X xs (rdB X W XR (evalOc Γ e)) := by
  unfold chkC at h
  split at h
  all_goals try (have hq := Nat.succ.inj (by assumption : n + 1 = Nat.succ _); subst hq)
  · cases h
  · exact pts_none
  · simp only [Bool.and_eq_true, Bool.not_eq_true'] at h
    exact pts_some (S.snd g tk h.1 h.2).pt
  · cases h
theorem step_i (S : SoundN G XR tabs k Γ N gen n) {e : I} {tg x : Expr} (g : GoodX G XR tabs k Γ N raw sc gen j X) (tk : Takes X W) (h : chkI G N gen (n + 1) j raw sc e tg x = true) : PI X tg x (rdI X W XR (evalI Γ e)) := by
  unfold chkI at h
  split at h
  all_goals try (have hq := Nat.succ.inj (by assumption : n + 1 = Nat.succ _); subst hq)
  · cases h
  · exact i_seq (S.e g tk h).1
  · simp only [Bool.and_eq_true, beq_iff_eq] at h
    obtain ⟨⟨⟨rfl, h2⟩, h3⟩, h4⟩ := h
    exact i_items (S.e g tk h2).1 h3 (by simpa using h4)
  · simp only [Bool.and_eq_true] at h
    obtain ⟨rfl, t1, t2⟩ := tag_ok g h.1.1
    exact i_enum t1 t2 (S.e g tk h.1.2).1 h.2
  · simp only [Bool.and_eq_true] at h
    obtain ⟨rfl, t1, t2⟩ := tag_ok g h.1.1.1.1
    exact i_zip t1 t2 (S.e g tk h.1.1.1.2).1 (S.e g tk h.1.2).1 h.1.1.2 h.2
  · simp only [Bool.and_eq_true] at h
    obtain ⟨rfl, t1, t2⟩ := tag_ok g h.1.1
    exact i_rng t1 t2 (S.e g tk h.1.2).1 h.2
  · cases h
theorem sound : ∀ n, SoundN G XR tabs k Γ N gen n
  | 0 => ⟨fun _ _ h => by simp [chkE] at h, fun _ _ h => by simp [chkA] at h, fun _ _ h => by simp [chkEs] at h, fun _ _ h => by simp [chkAs] at h, fun _ _ h => by simp [chkXs] at h, fun _ _ h => by simp [chkKV] at h, fun _ _ h => by simp [chkO] at h, fun _ _ h => by simp [chkC] at h, fun _ _ h => by simp [chkI] at h⟩
  | n + 1 => ⟨step_e (sound n), step_a (sound n), step_es (sound n), step_as (sound n), step_xs (sound n), step_kv (sound n), step_o (sound n), step_c (sound n), step_i (sound n)⟩
end
end D


set_option Elab.async false
set_option linter.all false
set_option maxHeartbeats 8000000
set_option maxRecDepth 100000
/-! ET: statements' bits: which stores are plain; x = y moved. -/
namespace D
open PySem PySem.Spec PyProof.Rows L2
def swC (sc : Scope) (e tg : Expr) : Bool := match e with
  | .ListComp _ _ s p | .SetComp _ _ s p | .DictComp _ _ _ s p => (match tg with
    | .Name t pos => sc.names.lookup t == some .local && pos.line == p.line && !(s.names.any fun (n, k) => n == t && (k == .local || k == .cell))
    | _ => false)
  | _ => false
theorem swC_ok {env : Env} (hk : env.scope.kind = .function) (e tg : Expr) (l : Nat) : swapsWith e (some tg) l env = pure (swC env.scope e tg) := by
  have hb : (env.blockKind == .function) = true := by unfold Env.blockKind; rw [hk]; rfl
  unfold swapsWith swC
  cases e <;> first | rfl | (cases tg <;> first | rfl | (dsimp only [Env.kindOf, Expr.pos]; rw [hb]; simp only [Bool.true_and]))
def parN (sc : Scope) (ts : List Expr) : List Str :=
  let line := (ts.head?.map (·.pos.line)).getD 0
  ts.filterMap fun
    | .Name id pos => if sc.names.lookup id == some .local && pos.line == line then some id else none
    | _ => none
def parB (sc : Scope) (tg e : Expr) : Bool := match tg, e with
  | .Tuple ts _ _, .Tuple vs _ _ => !(ts.length == 2 || ts.length == 3) || (parN sc ts).length != ts.length || (!(vs.any fun | .Starred .. => true | _ => false) && vs.all (foldedForSure 8))
  | .List _ _, _ => false
  | _, _ => true
theorem parB_ok {env : Env} {tg e : Expr} (h : parB env.scope tg e = true) : swappedStores [tg] e env = pure none := by
  unfold swappedStores
  cases tg with
  | Tuple ts k p =>
    cases e with
    | Tuple vs k2 p2 =>
      simp only [parB, Bool.or_eq_true, Bool.and_eq_true] at h
      dsimp only
      by_cases c1 : (!(ts.length == 2 || ts.length == 3) || vs.length != ts.length || env.blockKind != .function) = true
      · rw [if_pos c1]
      · rw [if_neg c1]
        by_cases c2 : (vs.any fun | .Starred .. => true | _ => false) = true
        · exact if_pos c2
        · refine (if_neg c2).trans ?_
          have c3 : (!(ts.length == 2 || ts.length == 3)) = false := by
            cases q : (!(ts.length == 2 || ts.length == 3)) with
            | false => rfl
            | true => exact absurd (by rw [q]; rfl) c1
          by_cases c4 : ((parN env.scope ts).length != ts.length || (parN env.scope ts).eraseDups.length != (parN env.scope ts).length) = true
          · exact if_pos c4
          · refine (if_neg c4).trans ?_
            have c5 : vs.all (foldedForSure 8) = true := by
              rcases h with (h | h) | h
              · rw [c3] at h; cases h
              · exact absurd (by rw [h]; rfl) c4
              · exact h.2
            exact if_pos c5
    | _ => rfl
  | List ts p => cases e <;> simp [parB] at h
  | _ => cases e <;> rfl
def par2B (sc : Scope) (x y : Str) (px py : Pos) (a b : Expr) : Bool :=
  okE a && okE b && sc.names.lookup x == some .local && sc.names.lookup y == some .local && py.line == px.line && !(x == y) && !([a, b].all (foldedForSure 8)) && !([a, b].all (constantsAlone 8))
theorem nostar_of : ∀ e : Expr, okE e = true → (match e with | .Starred .. => true | _ => false) = false := by
  intro e h
  cases e <;> first | rfl | cases h
theorem par2_ok {env : Env} {x y : Str} {px py pt pt2 : Pos} {a b : Expr} {kt k2 : Nat} (hk : env.scope.kind = .function) (h : par2B env.scope x y px py a b = true) :
    swappedStores [.Tuple [.Name x px, .Name y py] kt pt] (.Tuple [a, b] k2 pt2) env = pure (some [x, y]) := by
  simp only [par2B, Bool.and_eq_true, Bool.not_eq_true', beq_iff_eq] at h
  obtain ⟨⟨⟨⟨⟨⟨⟨h1, h2⟩, h3⟩, h4⟩, h5⟩, h6⟩, h7⟩, h8⟩ := h
  have hb : (env.blockKind != .function) = false := by unfold Env.blockKind; rw [hk]; rfl
  have s1 := nostar_of a h1
  have s2 := nostar_of b h2
  have k3 : (env.kindOf x == some .local) = true := by show (env.scope.names.lookup x == _) = true; rw [h3]; rfl
  have k4 : (env.kindOf y == some .local) = true := by show (env.scope.names.lookup y == _) = true; rw [h4]; rfl
  have l5 : (py.line == px.line) = true := by rw [h5]; exact beq_self_eq_true _
  have l6 : (px.line == px.line) = true := beq_self_eq_true _
  have en : (List.filterMap (fun (e : Expr) => match e with
      | .Name id pos => if (env.kindOf id == some .local && pos.line == (([Expr.Name x px, Expr.Name y py].head?.map (·.pos.line)).getD 0)) = true then some id else none
      | _ => none) [Expr.Name x px, Expr.Name y py]) = [x, y] := by
    simp only [List.filterMap_cons, List.filterMap_nil, List.head?_cons, Option.map_some, Option.getD_some, Expr.pos, k3, k4, l5, l6, Bool.and_self, if_true]
  unfold swappedStores
  dsimp only
  refine (if_neg (by simp [hb])).trans ?_
  have c2 : ¬ ([a, b].any fun | .Starred .. => true | _ => false) = true := by
    simp only [List.any_cons, List.any_nil, Bool.or_false, Bool.or_eq_true, not_or]
    exact ⟨by rw [s1]; decide, by rw [s2]; decide⟩
  refine (if_neg c2).trans ?_
  have ed : ([x, y] : List Str).eraseDups = [x, y] := by
    have : (y == x) = false := by
      cases q : (y == x) with
      | false => rfl
      | true => rw [eq_of_beq q] at h6; simp at h6
    simp [List.eraseDups_cons, this]
  have en' : parN env.scope [.Name x px, .Name y py] = [x, y] := en
  show (if ((parN env.scope [.Name x px, .Name y py]).length != [Expr.Name x px, Expr.Name y py].length || (parN env.scope [.Name x px, .Name y py]).eraseDups.length != (parN env.scope [.Name x px, .Name y py]).length) = true then pure none
    else if [a, b].all (foldedForSure 8) = true then pure none else if [a, b].all (constantsAlone 8) = true then _ else pure (some (parN env.scope [.Name x px, .Name y py]))) = _
  rw [en', ed, h7, h8]
  rfl
end D


set_option Elab.async false
set_option linter.all false
set_option maxHeartbeats 8000000
set_option maxRecDepth 100000
/-! EU: x = y moved; the checker of statements. -/
namespace D
open PySem PySem.Spec PyProof.Rows L2
section
variable {X : Cx} {XR : XRel} {W : WX} {B : Hp} {m m' : Nat → Addr} {n n' : Nat} {ρ ρ' : Sl} {σ σ' : L2.St} {D : Ends} {H H' : Hp} {st st' : Store} {pos : Pos}
theorem rd_move {i l : Nat} (h : rdS X W XR (moveS i l) D σ H) (hi : i ≠ l) (hN : i < σ.length) : tAsg (tVar l) (gName i) D σ H := by
  obtain ⟨B, ρ, st, m, S, b, o, h⟩ := h
  obtain ⟨c, hl⟩ : ∃ c, ρ[l]? = some (some (.t c false)) := by
    unfold moveS at h
    cases e : ρ[l]? with
    | none => simp only [e] at h; exact h.elim
    | some y =>
      cases y with
      | none => simp only [e] at h; exact h.elim
      | some z =>
        cases z with
        | v _ => simp only [e] at h; exact h.elim
        | t c k => cases k with
          | true => simp only [e] at h; exact h.elim
          | false => exact ⟨c, rfl⟩
  unfold moveS at h
  simp only [hl] at h
  · obtain ⟨v, e1, a, rfl, hc, hn⟩ := S.slot.get l _ hl
    refine ⟨.ref a, e1, ?_⟩
    have key : ∀ (p : Nat) (x : SV), ((ρ.set l none).set i (some (.t c false)))[p]? = some (some x) → (p = i ∧ x = .t c false) ∨ (p ≠ i ∧ p ≠ l ∧ ρ[p]? = some (some x)) := fun p x e => by
      by_cases hp : p = i
      · subst hp
        rw [List.getElem?_set_self (by rw [List.length_set, S.slot.len]; exact hN)] at e
        cases e
        exact .inl ⟨rfl, rfl⟩
      · rw [List.getElem?_set_ne (Ne.symm hp)] at e
        by_cases hpl : p = l
        · subst hpl
          rw [List.getElem?_set_self (List.getElem?_eq_some_iff.mp hl).1] at e
          cases e
        · rw [List.getElem?_set_ne (Ne.symm hpl)] at e
          exact .inr ⟨hp, hpl, e⟩
    have gi : (σ.set i (some (V.ref a)))[i]? = some (some (.ref a)) := List.getElem?_set_self hN
    have gn : ∀ p, p ≠ i → (σ.set i (some (V.ref a)))[p]? = σ[p]? := fun p hp => List.getElem?_set_ne (Ne.symm hp)
    refine h m (σ.set i (some (.ref a))) H (Nx.refl b) ⟨S.heap, ⟨fun p x e => ?_, fun p q d d' k v e2 e3 e4 e5 => ?_, by simp [S.slot.len]⟩⟩ (fun p d q e2 e3 => ?_) (fun p d e2 => ?_)
    · rcases key p x e with ⟨rfl, rfl⟩ | ⟨h1, h2, h3⟩
      · exact ⟨.ref a, gi, a, rfl, hc, hn⟩
      · obtain ⟨v, e4, r⟩ := S.slot.get p x h3
        exact ⟨v, by rw [gn p h1]; exact e4, r⟩
    · rcases key p _ e2 with ⟨rfl, z⟩ | ⟨h1, h2, h3⟩
      · rcases key q _ e3 with ⟨rfl, _⟩ | ⟨g1, g2, g3⟩
        · rfl
        · rw [gi] at e4
          cases e4
          rw [gn q g1] at e5
          exact absurd (S.slot.own l q c d' k _ hl g3 e1 e5).symm g2
      · rw [gn p h1] at e4
        rcases key q _ e3 with ⟨rfl, z⟩ | ⟨g1, g2, g3⟩
        · rw [gi] at e5
          cases e5
          exact absurd (S.slot.own p l d c false _ h3 hl e4 e1) h2
        · rw [gn q g1] at e5
          exact S.slot.own p q d d' k v h3 g3 e4 e5
    · rcases key p _ e2 with ⟨rfl, z⟩ | ⟨h1, h2, h3⟩
      · rw [gi] at e3
        cases e3
        exact o l c a hl e1
      · rw [gn p h1] at e3
        exact o p d q h3 e3
    · rcases key p _ e2 with ⟨rfl, z⟩ | ⟨h1, h2, h3⟩
      · cases z
      · exact ⟨h3, gn p h1⟩
end
def isPar : Stmt → Bool
  | .Assign [.Tuple [.Name _ _, .Name _ _] _ _] (.Tuple [_, _] _ _) _ => true
  | _ => false
section
variable (G : Gx) (N : List Str) (gen : Bool) (sc : Scope) (j : Nat)
def okCx : E → Bool
  | .lc .. | .dc .. => true
  | _ => false
/-- return of a constant -/
def retB (v : Val) : Stmt → Bool
  | .Return none _ => decide (v = .non)
  | .Return (some (.Constant .none _ _)) _ => decide (v = .non)
  | .Return (some (.Constant (.bool b) _ _)) _ => decide (v = .bool b)
  | .Return (some (.Constant (.int i) _ _)) _ => decide (v = .int i)
  | _ => false
/-- isinstance(x, t) of whatever is caught -/
def isiB (x : Str) (cs : List String) : Expr → Bool
  | .Call (.Name f _) [.Name y _, .Name t _] [] _ => tagB sc G f "isinstance" && y == x && glB sc t && noDbg t && cs.all fun c => G.ie.any fun p => p.1 == c && p.2.2 && t == Str.ofString p.2.1 && (G.bs.contains p.2.1 && bootBuiltins t == some (.type p.2.1) && !(t == "__name__") || !(G.bs.contains p.2.1) && G.xs.contains p.2.1)
  | _ => false
def hndB (cs : List String) (v : Val) : Option Str → Stmt → Bool
  | none, h => retB v h
  | some x, .Return (some (.BoolOp .And [a, b] _)) _ => decide (v = .bool true) && N.any (· == x) && sc.names.lookup x == some .local && noDbg x && isiB G sc x cs a && isiB G sc x cs b
  | some x, h => N.any (· == x) && sc.names.lookup x == some .local && retB v h
mutual
def chkS : Nat → S → Stmt → Bool
  | 0, _, _ => false
  | n + 1, .asg t e, .Assign [tg] x _ => chkT N sc sc t tg && chkE G N gen n j sc sc e x && parB sc tg x && (!(swC sc x tg) || okCx e)
  | n + 1, .asg2 (.nm i) (.nm l) a b, .Assign [.Tuple [.Name x px, .Name y py] _ _] (.Tuple [u, v] _ _) _ => N[i]? == some x && N[l]? == some y && !(i == l) && par2B sc x y px py u v && chkE G N gen n j sc sc a u && chkE G N gen n j sc sc b v
  | n + 1, .put o i e, .Assign [.Subscript u v _] x _ => chkE G N gen n j sc sc o u && chkE G N gen n j sc sc i v && okE v && chkE G N gen n j sc sc e x
  | n + 1, .sput l i e, .Assign [.Subscript (.Name y _) v _] x _ => N[l]? == some y && visB sc y && noDbg y && chkE G N gen n j sc sc i v && okE v && chkE G N gen n j sc sc e x
  | n + 1, .app l m e, .Expr (.Call (.Attribute (.Name y _) nm apos) [x] [] cpos) _ => nm == Str.ofString m.nm && decide (m = .append ∨ m = .extend) && N[l]? == some y && visB sc y && noDbg y && chkE G N gen n j sc sc e x && okE x && apos.endLine == cpos.line
  | n + 1, .aug i o e, .AugAssign (.Name y _) op x _ => decide (op = o.op) && decide (o = .add ∨ o = .sub) && N[i]? == some y && locB sc sc y && chkE G N gen n j sc sc e x
  | n + 1, .ite c a b, .If x xs ys _ => chkE G N gen n j sc sc c x && !isIte c && chkSs n a xs && chkSs n b ys
  | n + 1, .for_ t i b, .For tg it xs [] _ => chkI G N gen n j sc sc i tg it && okE it && chkT N sc sc t tg && chkSs n b xs
  | n + 1, .whl c b, .While x xs [] _ => chkE G N gen n j sc sc c x && !isIte c && chkSs n b xs
  | n + 1, .ret e, .Return (some x) _ => chkE G N gen n j sc sc e x
  | n + 1, .retN, .Return none _ => true
  | n + 1, .raise c .nil, .Raise (some (.Call (.Name y _) [.Constant (.str _) _ _] [] _)) none _ => y == Str.ofString c && glB sc y && noDbg y && G.xs.contains c
  | n + 1, .exp e, .Expr x _ => chkE G N gen n j sc sc e x && okV x
  | n + 1, .brk, .Break _ => true
  | n + 1, .cnt, .Continue _ => true
  | n + 1, .pass, .Pass _ => true
  | n + 1, .move i l, .Assign [.Name x _] (.Name y _) _ => N[i]? == some x && N[l]? == some y && !(i == l) && locB sc sc x && visB sc y && noDbg y
  | n + 1, .asgT2 i l a b, .Assign [.Tuple [.Name x px, .Name y py] _ _] (.Tuple [u, v] _ _) _ => N[i]? == some x && N[l]? == some y && locB sc sc x && locB sc sc y && parB sc (.Tuple [.Name x px, .Name y py] 0 px) (.Tuple [u, v] 0 px) && okE u && okE v && chkE G N gen n j sc sc a u && chkE G N gen n j sc sc b v
  | n + 1, .upd l e, .Expr (.Call (.Attribute (.Name y _) nm apos) [x] [] cpos) _ => nm == Str.ofString "update" && N[l]? == some y && visB sc y && noDbg y && chkE G N gen n j sc sc e x && okE x && apos.endLine == cpos.line
  | n + 1, .tryR b c cs no v, .Try xs [.ExceptHandler (some (.Name y _)) nm [h] _] [] [] _ => y == Str.ofString c && glB sc y && noDbg y && G.xs.contains c && chkSs n b xs && cs.all (fun q => G.xs.contains q && G.em.contains (q, c, true)) && no.all (fun q => G.xs.contains q && G.em.contains (q, c, false)) && hndB G N sc cs v nm h
  | _, _, _ => false
def chkSs : Nat → Ss → List Stmt → Bool
  | 0, _, _ => false
  | n + 1, .nil, [] => true
  | n + 1, .cons (.prom _) ss, xs => chkSs n ss xs
  | n + 1, .cons s ss, x :: xs => chkS n s x && chkSs n ss xs
  | _, _, _ => false
end
end
end D


set_option Elab.async false
set_option linter.all false
set_option maxHeartbeats 2000000
set_option maxRecDepth 100000
/-! EC2: x.update(d); x, y = a, b through a tuple. -/
namespace D
open PySem PySem.Spec PyProof.Rows L2
section
variable {K : PySem.W.Frag} {H H' : Hp} {m : Nat → Addr} {n : Nat}
theorem leaf_merge : ∀ {more : List (Val × Val)} {kvm : List (Key × V)} {vm : List (Key × Value)} {kvs : List (Val × Val)} {kv : List (Key × V)} {vs : List (Key × Value)}, Paired (PLeaf K H m n) more kvm → KV kvm vm → Paired (PLeaf K H m n) kvs kv → KV kv vs →
    ∃ kv', KV kv' (merged vs vm) ∧ Paired (PLeaf K H m n) (mergeD kvs more) kv'
  | [], _, _, kvs, kv, vs, p, r, q, t => by cases p; cases r; exact ⟨kv, t, q⟩
  | a :: more, _, _, kvs, kv, vs, p, r, q, t => by
    cases p with
    | @cons _ b _ bs pa ps =>
    cases r with
    | @cons _ c _ cs ra rs =>
    have e : KV (putK kv b.1 b.2) (stored vs c.1 c.2) := by
      have := t.put b.1 ra.2
      rw [← ra.1]; exact this
    exact leaf_merge (kvs := dput kvs a.1 a.2) (vm := cs) (vs := stored vs c.1 c.2) ps rs (leaf_put q pa.1 pa.2) e
end
section
variable {X : Cx} {XR : XRel} {W : WX} {B : Hp} {m m' : Nat → Addr} {n n' : Nat} {ρ ρ' : Sl} {σ σ' : L2.St} {D : Ends} {H H' : Hp} {st st' : Store} {pos : Pos}
theorem i_update : MInfo "dict" "update" "dict.update" := ⟨PySem.F.plainAttrs_dict, PySem.F.slot_dict_update, by first | exact PySem.F.type_dict_update | rfl⟩
theorem upd_sound {a : Addr} {c c' : Cell} {x : EV} {v : V} {B1 : Hp} {Q : VK} (S : Sim X.prog X.w X.K H m ρ st σ) (hc : CRel X.prog X.w X.K H m st.length c a) (rx : EVRel X.prog X.w X.K H m st.length B1 ρ σ x v) (hne : v ≠ .ref a) (hp : appOp .update c x st = some c')
    (h : ∀ o' : HO, NoTbl o' → CRel X.prog X.w X.K (upd H a o') m st.length c' a → Q .non (upd H a o')) : rSemM X "dict.update" (.ref a) [v] H Q := by
  cases c with
  | dict kvs =>
    have hp : (match cellOf st x with
      | some (.dict more) => if hom (kvs ++ more) && (kvs ++ more).all (fun kv => !kv.1.isTup) && decide (kvs.length + more.length ≤ LIM) then some (Cell.dict (mergeD kvs more)) else none
      | _ => none) = some c' := by cases x <;> exact hp
    split at hp
    · rename_i more hx
      split at hp
      · rename_i hl
        cases hp
        simp only [Bool.and_eq_true, decide_eq_true_eq] at hl
        obtain ⟨⟨hh, ht⟩, hl⟩ := hl
        obtain ⟨q, rfl, cm⟩ := cell_rel S rx hx
        have hqa : a ≠ q := fun z => hne (by rw [z])
        have leafD : ∀ {l : List (Val × Val)} {d : Addr}, (∀ p ∈ l, p.1.isTup = false) → (∀ p ∈ l, p.1.key = true) → CRel X.prog X.w X.K H m st.length (.dict l) d → ∃ o, H d = some (AtO d o) ∧ DLeaf X.prog X.w X.K H m st.length l o := fun {l d} h1 h2 c => by
          obtain ⟨g1, g2, o, g3, g4⟩ := c
          refine ⟨o, g3, ?_⟩
          rcases g4 with g4 | ⟨xs, g4, g5⟩
          · exact g4
          · cases l with
            | nil =>
              cases g5
              obtain ⟨es, ep, e1, e2, e3, e4⟩ := g4
              refine ⟨[], [], ⟨es, ep, e1, e2, fun e he => ?_, ?_, List.nodup_nil⟩, .nil, .nil⟩
              · have : es.toList = [] := e3
                rw [Array.mem_def, this] at he
                cases he
              · rw [show es.toList = [] from e3]; exact .nil
            | cons p r =>
              cases g5 with
              | cons z _ =>
                have := h1 p List.mem_cons_self
                rw [z.1] at this; cases this
        have hall := hom_all hh
        have kt : ∀ p ∈ kvs ++ more, p.1.isTup = false := fun p hp => by
          have := List.all_eq_true.mp ht p hp
          simpa using this
        obtain ⟨o1, e1, d1⟩ := leafD (fun p hp => kt p (List.mem_append_left _ hp)) (fun p hp => (hall p (List.mem_append_left _ hp)).1) hc
        obtain ⟨o2, e2, d2⟩ := leafD (fun p hp => kt p (List.mem_append_right _ hp)) (fun p hp => (hall p (List.mem_append_right _ hp)).1) cm
        intro pins s σ' u us I ru rv
        cases ru
        cases rv with
        | cons rv rr =>
        cases rr
        cases rv
        obtain ⟨kv, vs, D1, rel1, p1⟩ := dleaf_at I e1 d1
        obtain ⟨kvm, vm, D2, rel2, p2⟩ := dleaf_at I e2 d2
        have l1 : vs.length = kvs.length := by rw [← rel1.length, ← Paired.len p1]
        have l2 : vm.length = more.length := by rw [← rel2.length, ← Paired.len p2]
        refine call_meetsIn PySem.F.slot_dict_update D1.typeIs PySem.F.entry_dict_update (PySem.F.args_dict_update_2 _ _) (meets_dict_update (mixKind X.prog X.w) a q hqa cm.1)
          ⟨vs, vm, D1, D2, by rw [l1, l2]; exact lim_line hl, fun h' D' _ hs => ?_⟩
        have nt : ∀ xs, ¬ Rd H a (.tup xs) := fun xs r => by rcases r with r | ⟨_, r⟩ <;> rw [e1] at r <;> cases r
        obtain ⟨o', es, ep, ho, g1, g2, g3, g4, g5⟩ := D'
        obtain ⟨kv', k1, k2⟩ := leaf_merge p2 rel2 p1 rel1
        have J : Inv X pins σ' (upd H a (AtO a o')) { s with heap := h' } := d_write (t' := s.toks) I (by rw [e1]; exact True.intro) hs ⟨o', ho⟩ ⟨ho, ⟨o', ho⟩, fun h1 h2 a1 a2 => a2 o' a1⟩
        refine ⟨.non, _, J, rfl, h _ True.intro ⟨hc.1, ?_, o', upd_same, .inl ⟨kv', merged vs vm, ⟨es, ep, g1, g2, g3, g4, g5⟩, k1, ?_⟩⟩⟩
        · have := mergeD_len more kvs
          exact lim_line (by omega)
        · exact Paired.mapP k2 fun _ _ z => pleaf_stay (tups_upd e1 nt) z
      · cases hp
    · cases hp
  | lst vs => simp [appOp] at hp
  | set _ => simp [appOp] at hp
  | inst _ _ => simp [appOp] at hp
end
end D


set_option Elab.async false
set_option linter.all false
set_option maxHeartbeats 2000000
set_option maxRecDepth 100000
/-! EC3: readings: x.update(d); x, y = a, b through a tuple. -/
namespace D
open PySem PySem.Spec PyProof.Rows L2
section
variable {X : Cx} {XR : XRel} {W : WX} {B : Hp} {m m' : Nat → Addr} {n n' : Nat} {ρ ρ' : Sl} {σ σ' : L2.St} {D : Ends} {H H' : Hp} {st st' : Store} {pos : Pos}
theorem rd_upd {j : Nat} {ee : Sl → M EV} (h : rdS X W XR (updS j ee) D σ H) :
    tDrop (tMG X (Str.ofString "update") (tVar j) (tCons (rdE X W XR ee) tNil)) D σ H := by
  obtain ⟨B, ρ, st, m, S, b, o, h⟩ := h
  unfold updS at h
  split at h
  · rename_i kvs hj
    obtain ⟨u, e2, a, rfl, hca, hna⟩ := S.slot.get j _ hj
    refine ⟨.ref a, e2, "dict", _, i_update, ty_dict hca, outB H m st.length, ρ, st, m, S, bs_out _ _ _, PostM.imp (h.toM S b o) fun x m1 st1 H1 x1 hr1 ⟨S1, b2, h2⟩ v rx => ?_⟩
    unfold updK at h2
    obtain ⟨u', e3, a', ea, hc5, hn5⟩ := S1.slot.get j _ hj
    rw [e2] at e3
    cases e3
    cases ea
    obtain ⟨ob, ho, ht, hf, hnt⟩ := hc5.some
    split at h2
    · exact h2.elim
    · rename_i hnb
      cases ep : appOp .update (.dict kvs) x st1 with
      | none => rw [ep] at h2; exact h2.elim
      | some c' =>
        rw [ep] at h2
        refine upd_sound S1 hc5 rx (fun z => ?_) ep fun o' hno hc' => ?_
        · cases x with
          | v y =>
            cases y with
            | loc l =>
              obtain ⟨hl, e⟩ := rx
              rw [z] at e
              cases e
              exact hn5 l hl rfl
            | _ => simp [appOp, cellOf] at ep
          | t c =>
            obtain ⟨a2, e, hc, hn, hB⟩ := rx
            rw [z] at e
            cases e
            obtain ⟨o2, ho2⟩ := own_out S hj e2
            rw [hB] at ho2
            cases ho2
          | b i c => exact hnb i c rfl
        · haveI : NoT o' := ⟨hno⟩
          exact h2 m1 σ _ (nx_slot b2 o' (o j _ a hj e2)) (sim_slot S1 hj e2 ho ht hf hnt hn5 hc') (out_slot o hj) keep_slot
  · exact h.elim
theorem rd_asgT2 {i j : Nat} {ea eb : Sl → M EV} (h : rdS X W XR (fun ρ => toS (do let x ← ea ρ; let y ← eb ρ; .pure (x, y)) ρ (asg2K (.nm i) (.nm j) ρ)) D σ H) :
    tAsg (tTup (tCons (rdE X W XR ea) (tCons (rdE X W XR eb) tNil))) (gTup X.K 2 (gCons (gName i) (gCons (gName j) gNil))) D σ H := by
  obtain ⟨B, ρ, st, m, S, b, o, h⟩ := h
  have h' : rdS X W XR (fun ρ => toS (do let x ← ea ρ; let y ← eb ρ; .pure (x, y)) ρ (asg2K (.nm i) (.nm j) ρ)) { D with nx := fun σ2 H2 => ∀ p ws, H2 p = none → D.nx σ2 (upd H2 p (.tup ws)) } σ H := by
    refine ⟨B, ρ, st, m, S, b, o, ?_⟩
    have key : ∀ r : SRes, PostS X.prog X.w X.K XR W B m st.length ρ σ D r → PostS X.prog X.w X.K XR W B m st.length ρ σ { D with nx := fun σ2 H2 => ∀ p ws, H2 p = none → D.nx σ2 (upd H2 p (.tup ws)) } r := fun r hr => by
      cases r with
      | nx ρ' st' =>
        intro m' σ' H' x' S' o' k' p ws hp
        have L0 : LSt X H' m' st'.length m' st' (upd H' p (.tup ws)) := ⟨S'.heap.alloc hp _, nx_alloc (bs_out H' m' st'.length) hp _⟩
        refine hr m' σ' _ (x'.trans (C := outB H' m' st'.length) (Nx.small (fun a o e => e) L0.nx) fun a u e => ?_) (L0.sim S') o' k'
        exact (x'.bs b).le_out a u e
      | bk _ _ => exact hr
      | ct _ _ => exact hr
      | rt _ _ => exact hr
      | ex _ _ _ _ => exact hr
      | stuck => exact hr
    exact key _ h
  have := rd_asg2 h'
  have key2 : ∀ v w H2, (∀ p ws, H2 p = none → D.nx ((σ.set i (some v)).set j (some w)) (upd H2 p (.tup ws))) →
      ([v, w] : List V).length ≤ sizeLine ∧ ∀ p, H2 p = none → gTup X.K 2 (gCons (gName i) (gCons (gName j) gNil)) (.ref p) σ (upd H2 p (.tup [v, w])) D.nx := fun v w H2 hq =>
    ⟨by show 2 ≤ sizeLine; decide, fun p hp => ⟨p, [v, w], rfl, .inl (.inl upd_same), rfl, v, [w], rfl, w, [], rfl, rfl, hq p [v, w] hp⟩⟩
  obtain ⟨B1, ρ1, st1, m1, S1, b1, h1⟩ := this
  refine ⟨B1, ρ1, st1, m1, S1, b1, h1.imp fun x m2 st2 H2 x2 hr2 h2 v rv => ?_⟩
  obtain ⟨B3, ρ3, st3, m3, S3, b3, h3⟩ := h2 v rv
  refine ⟨B3, ρ3, st3, m3, S3, b3, h3.imp fun y m4 st4 H4 x4 hr4 h4 w rw => ?_⟩
  obtain ⟨v', w', e, hq⟩ := h4 w rw
  cases e
  exact key2 v w H4 hq
end
end D


set_option Elab.async false
set_option linter.all false
set_option maxHeartbeats 2000000
set_option maxRecDepth 100000
/-! EC4: try: .. except c: return v. -/
namespace D
open PySem PySem.Spec PyProof.Rows L2
section
variable {G : Gx} {XR : XRel} {tabs : Tz} {k : Nat} {Γ : Calls} {N : List Str} {gen : Bool} {n j : Nat} {sc raw : Scope} {X : Cx} {W : WX} {D : Ends} {σ : L2.St} {H : Hp} {v : Val} {y : V} {cv : Value} {cs no : List String} {tb : Sl → Store → SRes}
/-- the body's part: what is caught hands back v -/
theorem try_body {W' : WX} (hv : ∀ (K : PySem.W.Frag) (H : Hp) (m : Nat → Addr) (n : Nat), VRel K H m n v y) (h : rdS X W XR (tryS tb cs no v) D σ H)
    (hw : ∀ (c : String) (pl : List Val) (m : Nat → Addr) (n : Nat) (u : Value) (dx : Option Addr) (σ' : L2.St) (H' : Hp), XR c pl m n u dx H' → (cs.contains c = true ∧ D.rt y H') ∨ (no.contains c = true ∧ W u dx σ' H') → W' u dx σ' H') : rdS X W' XR tb D σ H := by
  obtain ⟨B, ρ, st, m, S, b, o, h⟩ := h
  refine ⟨B, ρ, st, m, S, b, o, ?_⟩
  unfold tryS at h
  cases e : tb ρ st with
  | nx _ _ => rw [e] at h; exact h
  | rt _ _ => rw [e] at h; exact h
  | bk _ _ => rw [e] at h; exact h
  | ct _ _ => rw [e] at h; exact h
  | stuck => rw [e] at h; exact h
  | ex c pl ρ' st' =>
    rw [e] at h
    dsimp only at h
    intro m' σ' H' u dx x' S' o' k' hX
    by_cases h1 : cs.contains c = true
    · rw [if_pos h1] at h
      exact hw c pl m' st'.length u dx σ' H' hX (.inl ⟨h1, h m' H' y x' S'.heap (hv _ _ _ _)⟩)
    · rw [if_neg h1] at h
      by_cases h2 : no.contains c = true
      · rw [if_pos h2] at h
        exact hw c pl m' st'.length u dx σ' H' hX (.inr ⟨h2, h m' σ' H' u dx x' S' o' k' hX⟩)
      · rw [if_neg h2] at h; exact h.elim
/-- what is handed back -/
def constV : Val → V
  | .bool b => .bl b
  | .int i => .int i
  | _ => .non
theorem ret_const {Y : Cx} {s : Stmt} (h : retB v s = true) : PS Y s (fun D _ H => D.rt (constV v) H) ∧ ∀ (K : PySem.W.Frag) (H : Hp) (m : Nat → Addr) (n : Nat), VRel K H m n v (constV v) := by
  unfold retB at h
  split at h
  · have := of_decide_eq_true h; subst this; exact ⟨ps_retN, fun _ _ _ _ => rfl⟩
  · have := of_decide_eq_true h; subst this; exact ⟨ps_ret pe_non, fun _ _ _ _ => rfl⟩
  · have := of_decide_eq_true h; subst this; exact ⟨ps_ret pe_bl, fun _ _ _ _ => rfl⟩
  · have := of_decide_eq_true h; subst this; exact ⟨ps_ret pe_int, fun _ _ _ _ => rfl⟩
  · cases h
end
section
variable {G : Gx} {XR : XRel} {tabs : Tz} {k : Nat} {Γ : Calls} {N : List Str} {gen : Bool} {n j : Nat} {sc raw : Scope} {X : Cx} {W : WX} {v : Val} {cs no : List String} {tb : Sl → Store → SRes}
/-- isinstance(x, t) in the suite -/
theorem isi_ok (g : GoodX G XR tabs k Γ N raw sc gen j X) {a : Addr} {oe : Obj} {pn : List (Addr × Obj)} {c : String} {x : Str} {i : Nat} {e : Expr} (hi : N[i]? = some x) (hx : sc.names.lookup x = some .local) (hd : noDbg x = true) (hc : c ∈ cs) (hz : Zc (.ref (He.ga X.K (Str.ofString c))) none oe) (hf : ∃ vs, oe.data = .fields vs) (h : isiB G sc x cs e = true) :
    PE (X.suite a ((a, oe) :: pn)) e (fun σ H Q => σ[i]? = some (some (.ref a)) ∧ Q (.bl true) H) := by
  unfold isiB at h
  split at h
  · simp only [Bool.and_eq_true, beq_iff_eq, List.all_eq_true, List.any_eq_true, Bool.or_eq_true, Bool.not_eq_true'] at h
    obtain ⟨⟨⟨⟨h1, rfl⟩, h3⟩, h4⟩, h5⟩ := h
    obtain ⟨⟨p1, p2, p3⟩, hp, ⟨⟨h6, h7⟩, h8⟩, h9⟩ := h5 c hc
    dsimp only at h6 h7 h8 h9
    subst h6; subst h7; subst h8
    obtain ⟨rfl, t1, t2⟩ := tag_ok g h1
    obtain ⟨f1, f2⟩ := g.glob.ie _ hp
    have hy : ∀ p : Pos, PE (X.suite a ((a, oe) :: pn)) (.Name _ p) (tVar i) := fun p => pe_var (X := X.suite a ((a, oe) :: pn)) (by show X.N[i]? = _; rw [g.hN]; exact hi) (by show Vis X.env.scope _; rw [g.sc]; exact .inl hx) (dbg1 hd) (dbg2 hd)
    have ht : ∃ u, RelV (clsV G X.K p2) u ∧ (∀ u, RelV (clsV G X.K p2) u → u = clsU G X.K p2) ∧ ∀ p : Pos, PE (X.suite a ((a, oe) :: pn)) (.Name (Str.ofString p2) p) (tC (clsV G X.K p2)) := by
      rcases h9 with ⟨⟨b1, b2⟩, b3⟩ | ⟨b1, b2⟩
      · have e1 : clsV G X.K p2 = .ty p2 := by unfold clsV; rw [if_pos b1]
        have e2 : clsU G X.K p2 = .type p2 := by unfold clsU; rw [if_pos b1]
        rw [e1, e2]
        exact ⟨.type p2, rfl, fun u r => r, fun p => pe_bltn (X := X.suite a ((a, oe) :: pn)) (gl_ok g h3) (g.glob.bs _ (List.contains_iff_mem.mp b1)) b2 rfl (beq_eq_false_iff_ne.mp b3) (dbg1 h4)⟩
      · have e1 : clsV G X.K p2 = .ref (He.ga X.K (Str.ofString p2)) := by unfold clsV; rw [if_neg (by rw [b1]; decide)]
        have e2 : clsU G X.K p2 = .ref (He.ga X.K (Str.ofString p2)) := by unfold clsU; rw [if_neg (by rw [b1]; decide)]
        rw [e1, e2]
        exact ⟨_, rfl, fun u r => r, fun p => pe_glob (X := X.suite a ((a, oe) :: pn)) (gl_ok g h3) (g.glob.xs _ (List.contains_iff_mem.mp b2)).1 rfl (dbg1 h4)⟩
    obtain ⟨u, r1, r2, r3⟩ := ht
    refine PE.imp (pe_callB (X := X.suite a ((a, oe) :: pn)) (call_isE f1 hz hf) t1 t2 (by decide +kernel) (pa_cons (hy _) (pa_cons (r3 _) pa_nil))) fun σ H Q ⟨q1, q2⟩ => ?_
    exact ⟨.ref a, q1, clsV G X.K p2, clsU G X.K p2, true, rfl, r2, f2, q2⟩
  · cases h
theorem try_ok (g : GoodX G XR tabs k Γ N raw sc gen j X) (tk : Takes X W) (stk : X.stack = X.env :: X.outer) (frm : X.env.frame = some X.env.locals) {x : Str} {cv : Value} (hnm : Names X x cv) {xs : List Stmt}
    (body : ∀ (W' : WX) (pn : List (Addr × Obj)) (xe : Value → Shared → Prop), Takes (X.tr pn xe) W' → PassesOwn (model X.prog X.w) X.A X.env xe → PSs (X.tr pn xe) xs (rdS X W' XR tb))
    (hcs : ∀ c' ∈ cs, ∀ pl m n u dx H, XR c' pl m n u dx H → PySem.W.exmOne X.K u cv = some true) (hno : ∀ c' ∈ no, ∀ pl m n u dx H, XR c' pl m n u dx H → PySem.W.exmOne X.K u cv = some false) (hxs : ∀ c' ∈ cs, c' ∈ G.xs)
    {nm : Option Str} {hb : Stmt} {np p' pos : Pos} (hh : hndB G N sc cs v nm hb = true) : PS X (.Try xs [.ExceptHandler (some (.Name x np)) nm [hb] p'] [] [] pos) (rdS X W XR (tryS tb cs no v)) := by
  have hN : X.N.Nodup := by rw [g.hN]; exact g.nd
  unfold hndB at hh
  split at hh
  · obtain ⟨r1, r2⟩ := ret_const (Y := X) (v := v) hh
    refine PS.imp (ps_try_only (ts := fun _ _ _ D _ H => D.rt (constV v) H) (tb := fun W' => rdS X W' XR tb) stk frm hnm tk body (fun a oe cls d pn hz hf => pss_one (ret_const hh).1)) fun D σ H q => ?_
    refine try_body (W' := wOnly X.K cv (fun _ _ _ D _ H => D.rt (constV v) H) W D) r2 q fun c pl m n u dx σ' H' hX hq => ?_
    rcases hq with ⟨h1, h2⟩ | ⟨h1, h2⟩
    · exact ⟨true, hcs c (List.contains_iff_mem.mp h1) pl m n u dx H' hX, fun _ _ _ => h2, fun z => by cases z⟩
    · exact ⟨false, hno c (List.contains_iff_mem.mp h1) pl m n u dx H' hX, fun z => (by cases z), fun _ => h2⟩
  · rename_i y a b _ _
    simp only [Bool.and_eq_true, decide_eq_true_eq, beq_iff_eq, List.any_eq_true] at hh
    obtain ⟨⟨⟨⟨⟨rfl, h2⟩, h3⟩, h4⟩, h5⟩, h6⟩ := hh
    obtain ⟨z, hz1, rfl⟩ := h2
    obtain ⟨i, hi⟩ := List.mem_iff_getElem?.mp hz1
    refine PS.imp (ps_try_as (i := i) (ts := fun a' cls d D σ H => (∃ c ∈ cs, cls = .ref (He.ga X.K (Str.ofString c)) ∧ d = none) ∧ (i < σ.length → σ[i]? = some (some (.ref a'))) ∧ D.rt (.bl true) H) (tb := fun W' => rdS X W' XR tb) stk frm hN (by rw [g.hN]; exact hi) (by show X.env.scope.names.lookup _ = _; rw [g.sc]; exact h3) hnm tk body (fun a' oe cls d pn hz hf => ⟨fun pins s σ H D I q => ?_⟩)) fun D σ H q => ?_
    · obtain ⟨⟨c, hc, rfl, rfl⟩, q1, q2⟩ := q
      have this : ∀ p1 p2 : Pos, PSs (X.suite a' ((a', oe) :: pn)) [.Return (some (.BoolOp .And [a, b] p1)) p2] (fun D σ H => σ[i]? = some (some (.ref a')) ∧ D.rt (.bl true) H) := fun p1 p2 =>
        PSs.imp (pss_one (ps_ret (pe_and (isi_ok (pn := pn) g hi h3 h4 hc hz hf h5) (pe_one (isi_ok g hi h3 h4 hc hz hf h6))))) fun D σ H ⟨z1, z2⟩ => ⟨z1, true, rfl, by simp only [if_true]; exact ⟨z1, z2⟩⟩
      exact (this _ _).run pins s σ H D I ⟨q1 (by rw [I.len]; show i < X.N.length; rw [g.hN]; exact (List.getElem?_eq_some_iff.mp hi).1), q2⟩
    · refine try_body (v := .bool true) (y := .bl true) (W' := wAs X.K cv i _ W D) (fun _ _ _ _ => rfl) q fun c pl m n u dx σ' H' hX hq => ?_
      rcases hq with ⟨h1, h2⟩ | ⟨h1, h2⟩
      · have hc := List.contains_iff_mem.mp h1
        obtain ⟨rfl, rfl⟩ := g.glob.xr c (hxs c hc) pl m n u dx H' hX
        exact ⟨true, hcs c hc pl m n _ _ H' hX, fun _ a' ha => ⟨⟨c, hc, rfl, rfl⟩, fun hlt => List.getElem?_set_self (by simpa using hlt), h2⟩, fun z => by cases z⟩
      · exact ⟨false, hno c (List.contains_iff_mem.mp h1) pl m n u dx H' hX, fun z => (by cases z), fun _ => h2⟩
  · simp only [Bool.and_eq_true, beq_iff_eq, List.any_eq_true] at hh
    obtain ⟨⟨h2, h3⟩, h4⟩ := hh
    obtain ⟨z, hz1, rfl⟩ := h2
    obtain ⟨i, hi⟩ := List.mem_iff_getElem?.mp hz1
    obtain ⟨r1, r2⟩ := ret_const (Y := X) (v := v) h4
    refine PS.imp (ps_try_as (i := i) (ts := fun _ _ _ D _ H => D.rt (constV v) H) (tb := fun W' => rdS X W' XR tb) stk frm hN (by rw [g.hN]; exact hi) (by show X.env.scope.names.lookup _ = _; rw [g.sc]; exact h3) hnm tk body (fun a oe cls d pn hz hf => pss_one (ret_const h4).1)) fun D σ H q => ?_
    refine try_body (W' := wAs X.K cv i (fun _ _ _ D _ H => D.rt (constV v) H) W D) r2 q fun c pl m n u dx σ' H' hX hq => ?_
    rcases hq with ⟨h1, h2⟩ | ⟨h1, h2⟩
    · exact ⟨true, hcs c (List.contains_iff_mem.mp h1) pl m n u dx H' hX, fun _ _ _ => h2, fun z => by cases z⟩
    · exact ⟨false, hno c (List.contains_iff_mem.mp h1) pl m n u dx H' hX, fun z => (by cases z), fun _ => h2⟩
end
end D


set_option Elab.async false
set_option linter.all false
set_option maxHeartbeats 8000000
set_option maxRecDepth 100000
/-! EV: statements' soundness. -/
namespace D
open PySem PySem.Spec PyProof.Rows L2
structure GoodS (G : Gx) (XR : XRel) (tabs : Tz) (k : Nat) (Γ : Calls) (N : List Str) (sc : Scope) (gen : Bool) (j : Nat) (X : Cx) (W : WX) : Prop where
  g : GoodX G XR tabs k Γ N sc sc gen j X
  tk : Takes X W
  hp : PassesOwn (model X.prog X.w) X.A X.env X.xe
  kd : sc.kind = .function
  stk : X.stack = X.env :: X.outer
  frm : X.env.frame = some X.env.locals
structure SoundS (G : Gx) (XR : XRel) (tabs : Tz) (k : Nat) (Γ : Calls) (N : List Str) (sc : Scope) (gen : Bool) (j : Nat) (n : Nat) : Prop where
  s : ∀ {X : Cx} {W : WX} {s : S} {x : Stmt}, GoodS G XR tabs k Γ N sc gen j X W → chkS G N gen sc j n s x = true → PS X x (rdS X W XR (evalS Γ s))
  ss : ∀ {X : Cx} {W : WX} {s : Ss} {x : List Stmt}, GoodS G XR tabs k Γ N sc gen j X W → chkSs G N gen sc j n s x = true → PSs X x (rdS X W XR (evalSs Γ s))
section
variable {G : Gx} {XR : XRel} {tabs : Tz} {k : Nat} {Γ : Calls} {N : List Str} {gen : Bool} {n j : Nat} {sc : Scope} {X : Cx} {W : WX}
theorem assign_sub {o i : Expr} {pos : Pos} {env : Env} (h : okE i = true) (v : Value) : assign (.Subscript o i pos) env v = (do
      let ov ← holding [v] (eval o env)
      let iv ← holding [v, ov] (eval i env)
      standAt pos
      holding [v, ov, iv] (setItem ov iv v)
      release [v, ov, iv] []) := by
  cases i <;> first | rfl | cases h
theorem chk_lc {raw : Scope} {own : List Nat} {t : T} {i : I} {c : Oe} {e : E} {x : Expr} (h : chkE G N gen (n + 1) j raw sc (.lc own t i c e) x = true) : ∃ el tg it ifs scope pos, x = .ListComp el [⟨tg, it, ifs, 0⟩] scope pos ∧ ownB N sc scope own = true ∧ t.ids.all own.contains = true ∧ chkI G N gen n j raw sc i tg it = true ∧ okE it = true ∧
    chkT N scope (relS scope sc) t tg = true ∧ chkC G N gen n j scope (relS scope sc) c ifs = true ∧ chkE G N gen n j scope (relS scope sc) e el = true := by
  cases x with
  | ListComp el gens scope pos =>
    rcases gens with _ | ⟨⟨tg, it, ifs, ia⟩, _ | ⟨_, _⟩⟩
    · simp [chkE] at h
    · simp only [chkE, Bool.and_eq_true, beq_iff_eq] at h
      obtain ⟨⟨⟨⟨⟨⟨⟨rfl, h1⟩, h2⟩, h3⟩, h4⟩, h5⟩, h6⟩, h7⟩ := h
      exact ⟨el, tg, it, ifs, scope, pos, rfl, h1, h2, h3, h4, h5, h6, h7⟩
    · simp [chkE] at h
  | _ => simp [chkE] at h
theorem chk_dc {raw : Scope} {own : List Nat} {t : T} {i : I} {c : Oe} {k2 e : E} {x : Expr} (h : chkE G N gen (n + 1) j raw sc (.dc own t i c k2 e) x = true) : ∃ kx vx tg it ifs scope pos, x = .DictComp kx vx [⟨tg, it, ifs, 0⟩] scope pos ∧ ownB N sc scope own = true ∧ t.ids.all own.contains = true ∧ chkI G N gen n j raw sc i tg it = true ∧ okE it = true ∧
    chkT N scope (relS scope sc) t tg = true ∧ chkC G N gen n j scope (relS scope sc) c ifs = true ∧ chkE G N gen n j scope (relS scope sc) k2 kx = true ∧ chkE G N gen n j scope (relS scope sc) e vx = true := by
  cases x with
  | DictComp kx vx gens scope pos =>
    rcases gens with _ | ⟨⟨tg, it, ifs, ia⟩, _ | ⟨_, _⟩⟩
    · simp [chkE] at h
    · simp only [chkE, Bool.and_eq_true, beq_iff_eq] at h
      obtain ⟨⟨⟨⟨⟨⟨⟨⟨rfl, h1⟩, h2⟩, h3⟩, h4⟩, h5⟩, h6⟩, h7⟩, h8⟩ := h
      exact ⟨kx, vx, tg, it, ifs, scope, pos, rfl, h1, h2, h3, h4, h5, h6, h7, h8⟩
    · simp [chkE] at h
  | _ => simp [chkE] at h
theorem setC_ok (g : GoodS G XR tabs k Γ N sc gen j X W) {t : T} {e : E} {tg x : Expr} {pos : Pos} (h1 : chkT N sc sc t tg = true) (h2 : chkE G N gen n j sc sc e x = true) (h3 : swC sc x tg = true) (h4 : okCx e = true) : PS X (.Assign [tg] x pos) (rdS X W XR fun ρ => toS (evalE Γ e ρ) ρ (asgK t ρ)) := by
  have hN : X.N.Nodup := by rw [g.g.hN]; exact g.g.nd
  have hk : X.env.scope.kind = .function := by rw [g.g.sc]; exact g.kd
  cases n with
  | zero => simp [chkE] at h2
  | succ n =>
  have S : SoundN G XR tabs k Γ N gen n := sound n
  cases tg with
  | Name y py =>
    have hyl : X.env.scope.names.lookup y = some .local := by
      rw [g.g.sc]
      cases x <;> simp only [swC, Bool.and_eq_true, beq_iff_eq] at h3 <;> first | exact h3.1.1 | cases h3
    cases t with
    | tup ts => simp [chkT] at h1
    | nm l =>
      simp only [chkT, Bool.and_eq_true, beq_iff_eq] at h1
      have hy : X.N[l]? = some y := by rw [g.g.hN]; exact h1.1
      have hsw : swapsWith x (some (.Name y py)) pos.line X.env = pure true := by rw [swC_ok hk, g.g.sc, h3]
      cases e with
      | lc own t i c e =>
        obtain ⟨el, tg, it, ifs, scope, p, rfl, q1, q2, q3, q4, q5, q6, q7⟩ := chk_lc h2
        have ok : BlkOk X.N X.env.scope scope (ownL N own) := by rw [g.g.hN, g.g.sc]; exact own_ok q1
        have := s_setLc (W := W) (XR := XR) (spos := pos) (ei := evalI Γ i) (ec := evalOc Γ c) (ee := evalE Γ e) (t := t) g.g.calm hN hy hyl hsw (S.i g.g g.tk q3) ok (by rw [ownL_snd]; intro l hl; exact List.contains_iff_mem.mp (List.all_eq_true.mp q2 l hl)) (fun s H fp pins σ I => ⟨tgt_ok (g.g.blk I) t tg q5, S.c (g.g.blk I) takes0 q6, (S.e (g.g.blk I) takes0 q7).1⟩) (fun x => fold_ok q4 _ x)
        rw [ownL_snd] at this
        exact this
      | dc own t i c k2 e =>
        obtain ⟨kx, vx, tg, it, ifs, scope, p, rfl, q1, q2, q3, q4, q5, q6, q7, q8⟩ := chk_dc h2
        have ok : BlkOk X.N X.env.scope scope (ownL N own) := by rw [g.g.hN, g.g.sc]; exact own_ok q1
        have := s_setDc (W := W) (XR := XR) (spos := pos) (ei := evalI Γ i) (ec := evalOc Γ c) (ek := evalE Γ k2) (ee := evalE Γ e) (t := t) g.g.hu g.g.calm hN hy hyl hsw (S.i g.g g.tk q3) ok (by rw [ownL_snd]; intro l hl; exact List.contains_iff_mem.mp (List.all_eq_true.mp q2 l hl)) (fun s H fp pins σ I => ⟨tgt_ok (g.g.blk I) t tg q5, S.c (g.g.blk I) takes0 q6, (S.e (g.g.blk I) takes0 q7).1, (S.e (g.g.blk I) takes0 q8).1⟩) (fun x => fold_ok q4 _ x)
        rw [ownL_snd] at this
        exact this
      | _ => cases h4
  | _ => cases x <;> simp [swC] at h3
theorem var_ok (g : GoodX G XR tabs k Γ N sc sc gen j X) {i : Nat} {y : Str} {p : Pos} (h1 : N[i]? = some y) (h2 : visB sc y = true) (h3 : noDbg y = true) : PE X (.Name y p) (tVar i) := pe_var (by rw [g.hN]; exact h1) (by rw [g.sc]; exact vis_ok h2) (dbg1 h3) (dbg2 h3)
theorem sole_sub {env : Env} (hk : env.scope.kind = .function) (u v e : Expr) (p : Pos) (l : Nat) : swapsWithSole [.Subscript u v p] e l env = pure false := by
  show swapsWith e (some (.Subscript u v p)) l env = _
  rw [swC_ok hk]
  unfold swC
  split <;> rfl
theorem par2_loc {x y : Str} {px py : Pos} {a b : Expr} (h : par2B sc x y px py a b = true) : okE a = true ∧ okE b = true ∧ sc.names.lookup x = some .local ∧ sc.names.lookup y = some .local := by
  simp only [par2B, Bool.and_eq_true, Bool.not_eq_true', beq_iff_eq] at h
  obtain ⟨⟨⟨⟨⟨⟨⟨h1, h2⟩, h3⟩, h4⟩, h5⟩, h6⟩, h7⟩, h8⟩ := h
  exact ⟨h1, h2, h3, h4⟩
theorem step_s (Z : SoundS G XR tabs k Γ N sc gen j n) {s : S} {x : Stmt} (g : GoodS G XR tabs k Γ N sc gen j X W) (h : chkS G N gen sc j (n + 1) s x = true) : PS X x (rdS X W XR (evalS Γ s)) := by
  have SE : SoundN G XR tabs k Γ N gen n := sound n
  have hu := g.g.hu
  have hN : X.N.Nodup := by rw [g.g.hN]; exact g.g.nd
  have hk : X.env.scope.kind = .function := by rw [g.g.sc]; exact g.kd
  unfold chkS at h
  split at h
  all_goals try (have hq := Nat.succ.inj (by assumption : n + 1 = Nat.succ _); subst hq)
  · cases h
  · -- asg
    rename_i t e tg x pos _
    simp only [Bool.and_eq_true, Bool.or_eq_true, Bool.not_eq_true'] at h
    obtain ⟨⟨⟨h1, h2⟩, h3⟩, h4⟩ := h
    by_cases hs : swC sc x tg = true
    · exact setC_ok g h1 h2 hs (h4.resolve_left (by rw [hs]; decide))
    · refine PS.imp (ps_asg (SE.e g.g g.tk h2).1 (tgt_ok g.g t tg h1) ?_ (parB_ok (by rw [g.g.sc]; exact h3)) (by rw [assign_star (chkT_star h1)]; rfl)) fun D σ H q => rd_asg q
      show swapsWith x (some tg) _ X.env = _
      rw [swC_ok hk, g.g.sc]
      cases q : swC sc x tg with
      | true => exact absurd q hs
      | false => rfl
  · -- asg2
    simp only [Bool.and_eq_true, Bool.not_eq_true', beq_eq_false_iff_ne, beq_iff_eq] at h
    obtain ⟨⟨⟨⟨⟨h1, h2⟩, h3⟩, h4⟩, h5⟩, h6⟩ := h
    obtain ⟨o1, o2, l1, l2⟩ := par2_loc h4
    exact PS.imp (ps_par g.g.calm hN (by rw [g.g.hN]; exact h1) (by rw [g.g.hN]; exact h2) h3 (by rw [g.g.sc]; exact l1) (by rw [g.g.sc]; exact l2) (pa_cons (SE.e g.g g.tk h5).1 (pa_cons (SE.e g.g g.tk h6).1 pa_nil (star_ok o2 _ _)) (star_ok o1 _ _)) (par2_ok hk (by rw [g.g.sc]; exact h4))) fun D σ H q => rd_asg2 q
  · -- put
    simp only [Bool.and_eq_true] at h
    obtain ⟨⟨⟨h1, h2⟩, h3⟩, h4⟩ := h
    refine PS.imp (ps_asg (SE.e g.g g.tk h4).1 (pg_sub (SE.e g.g g.tk h1).1 (SE.e g.g g.tk h2).1 (pset_sem X) (assign_sub h3)) ?_ (parB_ok (by rfl)) rfl) fun D σ H q => rd_put hu q
    exact sole_sub hk _ _ _ _ _
  · -- sput
    simp only [Bool.and_eq_true, beq_iff_eq] at h
    obtain ⟨⟨⟨⟨⟨h0, h1⟩, h2⟩, h3⟩, h4⟩, h5⟩ := h
    refine PS.imp (ps_asg (SE.e g.g g.tk h5).1 (pg_sub (var_ok g.g h0 h1 h2) (SE.e g.g g.tk h3).1 (pset_sem X) (assign_sub h4)) ?_ (parB_ok (by rfl)) rfl) fun D σ H q => rd_sput hu q
    exact sole_sub hk _ _ _ _ _
  · -- app
    simp only [Bool.and_eq_true, decide_eq_true_eq, beq_iff_eq] at h
    obtain ⟨⟨⟨⟨⟨⟨⟨rfl, h1⟩, h2⟩, h3⟩, h4⟩, h5⟩, h6⟩, h7⟩ := h
    exact PS.imp (ps_expr (pe_mG (var_ok g.g h2 h3 h4) (pa_cons (SE.e g.g g.tk h5).1 pa_nil (star_ok h6 _ _)) rfl (by simp [h6]) (by simp) (by simpa using h7)) rfl) fun D σ H q => rd_app h1 q
  · -- aug
    simp only [Bool.and_eq_true, decide_eq_true_eq, beq_iff_eq] at h
    obtain ⟨⟨⟨⟨rfl, h1⟩, h2⟩, h3⟩, h4⟩ := h
    obtain ⟨l1, l2⟩ := loc_ok g.g h3
    exact PS.imp (ps_aug hN (by rw [g.g.hN]; exact h2) l1 (SE.e g.g g.tk h4).1 (pip_sem X _) l2) fun D σ H q => rd_aug h1 q
  · -- ite
    simp only [Bool.and_eq_true, Bool.not_eq_true'] at h
    exact PS.imp (ps_if (SE.snd g.g g.tk h.1.1.1 h.1.1.2).pt (Z.ss g h.1.2) (Z.ss g h.2)) fun D σ H q => rd_if q
  · -- for
    simp only [Bool.and_eq_true] at h
    exact PS.imp (ps_for g.hp g.g.calm (SE.i g.g g.tk h.1.1.1) (tgt_ok g.g _ _ h.1.2) (Z.ss g h.2) (fun x => fold_ok h.1.1.2 _ x)) fun D σ H q => rd_for q
  · -- while
    simp only [Bool.and_eq_true, Bool.not_eq_true'] at h
    exact PS.imp (ps_while g.hp (SE.snd g.g g.tk h.1.1 h.1.2).pt (Z.ss g h.2)) fun D σ H q => rd_while q
  · exact PS.imp (ps_ret (SE.e g.g g.tk h).1) fun D σ H q => rd_ret q
  · exact PS.imp ps_retN fun D σ H q => rd_retN q
  · -- raise
    simp only [Bool.and_eq_true, beq_iff_eq] at h
    obtain ⟨⟨⟨rfl, h1⟩, h2⟩, h3⟩ := h
    obtain ⟨c1, c2, c3, c4, c5, c6⟩ := g.g.glob.xs _ (List.contains_iff_mem.mp h3)
    exact PS.imp (ps_raise g.g.calm g.tk (pmk_own PySem.F.excBase_ValueError c3 c1 c2 (raises_own c4 c5) (gl_ok g.g h1) (dbg1 h2))) fun D σ H q => rd_raise c6 q
  · -- exp
    simp only [Bool.and_eq_true] at h
    exact PS.imp (ps_expr (SE.e g.g g.tk h.1).1 (sw_ok h.2 _ _ _)) fun D σ H q => rd_exp q
  · exact PS.imp ps_break fun D σ H q => rd_brk q
  · exact PS.imp ps_continue fun D σ H q => rd_cnt q
  · exact PS.imp ps_pass fun D σ H q => rd_next q
  · -- move
    simp only [Bool.and_eq_true, Bool.not_eq_true', beq_eq_false_iff_ne, beq_iff_eq] at h
    obtain ⟨⟨⟨⟨⟨h1, h2⟩, h3⟩, h4⟩, h5⟩, h6⟩ := h
    obtain ⟨l1, l2⟩ := loc_ok g.g h4
    refine ⟨fun pins s σ H D I q => (ps_asg (var_ok g.g h2 h5 h6) (pg_name hN (by rw [g.g.hN]; exact h1) l1 l2) rfl rfl rfl).run pins s σ H D I (rd_move q h3 ?_)⟩
    rw [I.len, g.g.hN]
    exact (List.getElem?_eq_some_iff.mp h1).1
  · -- asgT2
    simp only [Bool.and_eq_true, Bool.not_eq_true', beq_iff_eq] at h
    obtain ⟨⟨⟨⟨⟨⟨⟨⟨h1, h2⟩, h3⟩, h4⟩, h5⟩, h6⟩, h7⟩, h8⟩, h9⟩ := h
    obtain ⟨l1, l2⟩ := loc_ok g.g h3
    obtain ⟨l3, l4⟩ := loc_ok g.g h4
    exact PS.imp (ps_asg (pe_tup (pa_cons (SE.e g.g g.tk h8).1 (pa_cons (SE.e g.g g.tk h9).1 pa_nil (star_ok h7 _ _)) (star_ok h6 _ _)))
      (pg_tup (n := 2) g.g.calm (pgs_cons (pg_name hN (by rw [g.g.hN]; exact h1) l1 l2) (pgs_cons (pg_name hN (by rw [g.g.hN]; exact h2) l3 l4) pgs_nil)))
      rfl (parB_ok (by rw [g.g.sc]; exact h5)) rfl) fun D σ H q => rd_asgT2 q
  · -- upd
    simp only [Bool.and_eq_true, beq_iff_eq] at h
    obtain ⟨⟨⟨⟨⟨⟨rfl, h2⟩, h3⟩, h4⟩, h5⟩, h6⟩, h7⟩ := h
    exact PS.imp (ps_expr (pe_mG (var_ok g.g h2 h3 h4) (pa_cons (SE.e g.g g.tk h5).1 pa_nil (star_ok h6 _ _)) rfl (by simp [h6]) (by simp) (by simpa using h7)) rfl) fun D σ H q => rd_upd q
  · -- try
    simp only [Bool.and_eq_true, beq_iff_eq, List.all_eq_true] at h
    obtain ⟨⟨⟨⟨⟨⟨⟨rfl, h1⟩, h2⟩, h3⟩, h4⟩, h5⟩, h6⟩, h7⟩ := h
    have hx := g.g.glob.xs _ (List.contains_iff_mem.mp h3)
    have hnm : Names X (Str.ofString _) _ := ⟨gl_ok g.g h1, dbg1 h2, .inl hx.1⟩
    have body : ∀ (W' : WX) (pn : List (Addr × Obj)) (xe : Value → Shared → Prop), Takes (X.tr pn xe) W' → PassesOwn (model X.prog X.w) X.A X.env xe → PSs (X.tr pn xe) _ (rdS X W' XR (evalSs Γ _)) := fun W' pn xe tk' hp' =>
      Z.ss (X := X.tr pn xe) ⟨⟨g.g.fn, g.g.hN, g.g.nd, g.g.sc, g.g.calm, g.g.room, fun h => (let ⟨c, P, C⟩ := g.g.code h; ⟨c, P, ⟨C.code, C.hd, C.tab⟩⟩), g.g.tbs, g.g.scr, g.g.glob⟩, tk', hp', g.kd, g.stk, g.frm⟩ h4
    have cs : ∀ c' ∈ _, ∀ pl m n u dx H, XR c' pl m n u dx H → PySem.W.exmOne X.K u _ = some true := fun c' hc pl m n u dx H hX => by
      have := h5 c' hc
      try simp only [Bool.and_eq_true] at this
      obtain ⟨rfl, rfl⟩ := g.g.glob.xr c' (List.contains_iff_mem.mp this.1) pl m n u dx H hX
      exact g.g.glob.em _ (List.contains_iff_mem.mp this.2)
    have no : ∀ c' ∈ _, ∀ pl m n u dx H, XR c' pl m n u dx H → PySem.W.exmOne X.K u _ = some false := fun c' hc pl m n u dx H hX => by
      have := h6 c' hc
      try simp only [Bool.and_eq_true] at this
      obtain ⟨rfl, rfl⟩ := g.g.glob.xr c' (List.contains_iff_mem.mp this.1) pl m n u dx H hX
      exact g.g.glob.em _ (List.contains_iff_mem.mp this.2)
    exact try_ok g.g g.tk g.stk g.frm hnm body cs no (fun c' hc => by
      have := h5 c' hc
      try simp only [Bool.and_eq_true] at this
      exact List.contains_iff_mem.mp this.1) h7
  · cases h
theorem step_ss (Z : SoundS G XR tabs k Γ N sc gen j n) {s : Ss} {x : List Stmt} (g : GoodS G XR tabs k Γ N sc gen j X W) (h : chkSs G N gen sc j (n + 1) s x = true) : PSs X x (rdS X W XR (evalSs Γ s)) := by
  unfold chkSs at h
  split at h
  all_goals try (have hq := Nat.succ.inj (by assumption : n + 1 = Nat.succ _); subst hq)
  · cases h
  · exact PSs.imp pss_nil fun D σ H q => rd_next q
  · exact PSs.imp (Z.ss g h) fun D σ H q => rd_prom q
  · simp only [Bool.and_eq_true] at h
    exact PSs.imp (pss_cons (Z.s g h.1) (Z.ss g h.2)) fun D σ H q => rd_seqS q
  · cases h
theorem soundS : ∀ n, SoundS G XR tabs k Γ N sc gen j n
  | 0 => ⟨fun _ h => by simp [chkS] at h, fun _ h => by simp [chkSs] at h⟩
  | n + 1 => ⟨step_s (soundS n), step_ss (soundS n)⟩
end
end D


set_option Elab.async false
set_option linter.all false
set_option maxHeartbeats 4000000
set_option maxRecDepth 100000
/-! EW: what a def leaves behind: the store cut back. -/
namespace D
open PySem PySem.Spec PyProof.Rows L2
section
variable {P : Program} {w : World} {K : PySem.W.Frag} {H H' B : Hp} {m m' : Nat → Addr} {n n' : Nat} {st st' : Store}
mutual
theorem VRel.bdn : ∀ {v : Val} {x : V}, VRel K H m n v x → v.bd n = true
  | .non, _, _ => rfl
  | .bool _, _, _ => rfl
  | .int _, _, _ => rfl
  | .str _, _, _ => rfl
  | .cst _, _, _ => rfl
  | .loc l, _, h => by simpa [Val.bd] using h.1
  | .tup vs, _, h => by obtain ⟨p, ws, e, s, r⟩ := h; simpa [Val.bd] using VRels.bdn r
theorem VRels.bdn : ∀ {vs : List Val} {ws : List V}, VRels K H m n vs ws → Val.bds n vs = true
  | [], _, _ => rfl
  | _ :: _, _, h => by obtain ⟨u, us, e, r, rs⟩ := h; simp [Val.bds, VRel.bdn r, VRels.bdn rs]
end
theorem leaf_bd {v : Val} {k : Key} (h : v.leaf = some k) : v.bd n = true := by cases v <;> first | rfl | cases h
theorem CRel.bdn {c : Cell} {a : Addr} (h : CRel P w K H m n c a) : c.bd n = true := by
  cases c with
  | lst vs => obtain ⟨ws, e, r⟩ := h; exact r.bdn
  | dict kvs =>
    obtain ⟨h1, h2, o, e, r⟩ := h
    simp only [Cell.bd, List.all_eq_true, Bool.and_eq_true]
    intro p hp
    rcases r with ⟨kv, vs, d, q, r⟩ | ⟨xs, d, r⟩
    · obtain ⟨b, hb, z⟩ := Paired.memR r p hp
      exact ⟨leaf_bd z.1, z.2.bdn⟩
    · obtain ⟨b, hb, z1, z2, z3, v, z4, z5⟩ := Paired.memR r p hp
      exact ⟨z3.bdn, z4.bdn⟩
  | set _ => exact h.elim
  | inst _ _ => exact h.elim
theorem gcOk_get : ∀ {a b : Store} {l : Nat} {c : Cell}, gcOk n a b = true → a.length ≤ b.length → a[l]? = some c → ∃ c', b[l]? = some c' ∧ (c' = c ∨ c'.bd n = true)
  | [], _, _, _, _, _, e => by simp at e
  | _ :: _, [], _, _, _, hl, _ => by simp at hl
  | c :: r, c' :: r', 0, d, h, _, e => by
    simp only [gcOk, Bool.and_eq_true, Bool.or_eq_true, beq_iff_eq] at h
    simp at e
    subst e
    exact ⟨c', rfl, h.1⟩
  | c :: r, c' :: r', l + 1, d, h, hl, e => by
    simp only [gcOk, Bool.and_eq_true] at h
    simp at e hl
    obtain ⟨c2, e2, h2⟩ := gcOk_get (l := l) h.2 hl e
    exact ⟨c2, by simpa using e2, h2⟩
/-- the store cut back -/
theorem HRel.cut (h0 : HRel P w K H m st) (h : HRel P w K H' m' st') (hl : st.length ≤ st'.length) (g : gcOk st.length st st' = true) : HRel P w K H' m' (st'.take st.length) := by
  have len : (st'.take st.length).length = st.length := by rw [List.length_take]; omega
  refine ⟨fun l c e => ?_, fun l l' h1 h2 e => h.inj l l' (by rw [len] at h1; omega) (by rw [len] at h2; omega) e, h.tbl⟩
  have hl2 : l < st.length := by
    have := (List.getElem?_eq_some_iff.mp e).1
    rwa [len] at this
  rw [List.getElem?_take_of_lt hl2] at e
  obtain ⟨d, e0⟩ : ∃ d, st[l]? = some d := ⟨_, List.getElem?_eq_getElem hl2⟩
  obtain ⟨c', e1, h1⟩ := gcOk_get g hl e0
  rw [e] at e1
  cases e1
  have hb : c.bd st.length = true := by
    rcases h1 with rfl | h1
    · exact (h0.cell l _ e0).bdn
    · exact h1
  rw [len]
  exact (h.cell l c e).down hb
/-- what is said of exceptions knows no place beyond -/
def XDown (XR : XRel) : Prop := ∀ c pl m n n' u dx H, Val.bds n' pl = true → XR c pl m n u dx H → XR c pl m n' u dx H
theorem nx_cut (x : Nx B m n m' n' H') : Nx B m n m' n H' := ⟨Nat.le_refl _, x.agree, x.keep, fun l h1 h2 => absurd (Nat.lt_of_lt_of_le h2 h1) (Nat.lt_irrefl _)⟩
theorem gc_ok {XR : XRel} {E : XK} {Q : VK} {r : Res EV} (hX : XDown XR) (h0 : HRel P w K H m st) (b : Bs B m st.length H)
    (h : PostM P w K XR E B m st.length (fun x m' st' H' => ∀ v, EVRel P w K H' m' st'.length B [] [] x v → Q v H') (gc st r)) :
    PostM P w K XR E B m st.length (fun x m' st' H' => ∀ v, EVRel P w K H' m' st'.length B [] [] x v → Q v H') r := by
  cases r with
  | stuck => exact h
  | ok x st' =>
    simp only [gc] at h
    by_cases hl : st'.length ≤ st.length
    · rw [if_pos hl] at h; exact h
    · rw [if_neg hl] at h
      by_cases hc : ((liftN st.length st' x).bd st.length && gcOk st.length st st') = true
      · rw [if_pos hc] at h
        simp only [Bool.and_eq_true] at hc
        intro m' H' x' hr v rv
        have hle : st.length ≤ st'.length := by omega
        have len : (st'.take st.length).length = st.length := by rw [List.length_take]; omega
        refine h m' H' (by rw [len]; exact nx_cut x') (h0.cut hr hle hc.2) v ?_
        rw [len]
        -- the value
        cases x with
        | b i c => simp [liftN, EV.bd] at hc
        | t c =>
          obtain ⟨a, e, hcr, hn, hB⟩ := rv
          refine ⟨a, e, hcr.down hc.1, fun l hl2 => hn l (by omega), hB⟩
        | v y =>
          have other : (liftN st.length st' (.v y) = .v y) → EVRel P w K H' m' st.length B [] [] (liftN st.length st' (.v y)) v := fun e => by
            have hb := hc.1
            rw [e] at hb ⊢
            exact VRel.down hb rv
          cases y with
          | loc k =>
            by_cases hk : st.length ≤ k
            · cases ek : st'[k]? with
              | none => exact other (by simp [liftN, hk, ek])
              | some c =>
                by_cases hf : (c.flat && c.bd st.length) = true
                · have e : liftN st.length st' (.v (.loc k)) = .t c := by simp only [liftN, hk, ek, if_true]; rw [if_pos hf]
                  rw [e]
                  simp only [Bool.and_eq_true] at hf
                  obtain ⟨hk2, rfl⟩ := rv
                  refine ⟨m' k, rfl, (hr.cell k c ek).down hf.2, fun l hl2 q => ?_, x'.fresh k hk hk2⟩
                  have := hr.inj l k (by omega) hk2 q
                  omega
                · exact other (by simp only [liftN, hk, ek, if_true]; rw [if_neg hf])
            · exact other (by simp [liftN, hk])
          | _ => exact other rfl
      · rw [if_neg hc] at h; exact h
  | exc c pl st' =>
    simp only [gc] at h
    by_cases hl : st'.length ≤ st.length
    · rw [if_pos hl] at h; exact h
    · rw [if_neg hl] at h
      by_cases hc : (Val.bds st.length pl && gcOk st.length st st') = true
      · rw [if_pos hc] at h
        simp only [Bool.and_eq_true] at hc
        intro m' H' u dx x' hr hx
        have len : (st'.take st.length).length = st.length := by rw [List.length_take]; omega
        refine h m' H' u dx (by rw [len]; exact nx_cut x') (h0.cut hr (by omega) hc.2) ?_
        rw [len]
        exact hX _ _ _ _ _ _ _ _ hc.1 hx
      · rw [if_neg hc] at h; exact h
end
end D


set_option Elab.async false
set_option linter.all false
set_option maxHeartbeats 4000000
set_option maxRecDepth 100000
/-! EX: defs. -/
namespace D
open PySem PySem.Spec PyProof.Rows L2
section
variable {P : Program} {w : World} {K : PySem.W.Frag} {H H' B : Hp} {m m' : Nat → Addr} {n n' : Nat} {st st' : Store}
theorem ARels.get : ∀ {as : List SV} {vs : List V} {i : Nat} {x : SV}, ARels P w K H m n as vs → as[i]? = some x → ∃ v, vs[i]? = some v ∧ ARel P w K H m n x v
  | [], _, _, _, _, e => by simp at e
  | a :: as, _, 0, x, h, e => by obtain ⟨u, us, rfl, r, rs⟩ := h; simp at e; subst e; exact ⟨u, rfl, r⟩
  | a :: as, _, i + 1, x, h, e => by
    obtain ⟨u, us, rfl, r, rs⟩ := h
    obtain ⟨v, e2, r2⟩ := ARels.get (i := i) rs (by simpa using e)
    exact ⟨v, by simpa using e2, r2⟩
theorem start_get {as : List SV} {k i : Nat} {x : SV} (e : (startS as k)[i]? = some (some x)) : as[i]? = some x := by
  unfold startS at e
  by_cases hi : i < as.length
  · rw [List.getElem?_append_left (by simpa using hi), List.getElem?_map] at e
    cases q : as[i]? with
    | none => rw [q] at e; cases e
    | some y => rw [q] at e; simp at e; rw [e]
  · rw [List.getElem?_append_right (by simpa using hi), List.length_map, List.getElem?_replicate] at e
    split at e <;> cases e
theorem start_sl {N : List Str} {as : List SV} {vs : List V} (r : ARels P w K H m n as vs) (hl : as.length ≤ N.length) : SlRel P w K H m n (startS as N.length) (L2.start N vs) := by
  have hv := r.len
  refine ⟨fun i x e => ?_, fun i j c d k v e1 e2 e3 e4 => ?_, by simp [startS, L2.start, hv]⟩
  · obtain ⟨v, e2, r2⟩ := r.get (start_get e)
    refine ⟨v, ?_, r2.sv⟩
    have hi := (List.getElem?_eq_some_iff.mp e2).1
    unfold L2.start
    rw [List.getElem?_append_left (by simpa using hi), List.getElem?_map, e2]
    rfl
  · obtain ⟨v, e2, r2⟩ := r.get (start_get e1)
    exact r2.elim
theorem start_out {N : List Str} {as : List SV} {vs : List V} (r : ARels P w K H m n as vs) (σ : L2.St) : OutS B (startS as N.length) σ := fun i c a e1 e2 => by
  obtain ⟨v, e2, r2⟩ := r.get (start_get e1)
  exact r2.elim
end
/-- what a def's code object is -/
def GenFact (tabs : Tz) (base : Heap) (cdv : Value) : Prop := ∃ c T, cdv = .ref c ∧ T ∈ tabs.tabs ∧ PySem.W.CodeHd base c T
/-- one def's run -/
def runB (Γ : Calls) (np ns : Nat) (body : Ss) (vs : List SV) : M EV := fun st => if vs.length = np ∧ np ≤ ns then gc st (resOf (evalSs Γ body (startS vs ns) st)) else .stuck
theorem def_ok {P : Program} {w : World} {K : PySem.W.Frag} {mg : Str → Option Value} {base : Heap} {G : Gx} {XR : XRel} {tabs : Tz} {k j fuel : Nat} {Γ : Calls} {x qual : Str} {st : Stmt} {f : Addr} {fd : FuncData} {N ps : List Str} {gen : Bool} {body : Ss}
    (F : Fun K x qual st f fd) (S : FnScope N ps (defScope st)) (GG : GoodG G P w K mg base XR tabs k Γ) (hX : XDown XR) (hsc : Γ.scr = tabs.scr)
    (hg : gen = true → ∀ cdv, (∃ oc od kV doc pm an ct osl, K.lookup f = some ⟨oc, od, .func (PySem.W.fnOf x qual (defArgs st) (defBody st) (defScope st) .none kV doc pm an cdv ct), osl⟩) → GenFact tabs base cdv)
    (hc : chkSs G N gen (defScope st) j fuel body (defBody st) = true) :
    FnOk P w K mg base (L2.CX P w) (k + j + 1) f fd ps (spD P w K XR tabs ps.length (runB Γ ps.length N.length body)) := by
  obtain ⟨oc, od, kV, doc, pm, an, cdv, ct, osl, rfl, lk, hcd⟩ := F.ex
  refine fn_of lk hcd S (fun vs H Q E h => h.1) fun A outer s H vs Q E hr hsp => ?_
  obtain ⟨hlen, hZ, B, st0, m, as, hrel, hB, hra, hp⟩ := hsp
  have hal : as.length = ps.length := by rw [hra.len, hlen]
  unfold runB at hp
  by_cases hle : as.length = ps.length ∧ ps.length ≤ N.length
  · rw [if_pos hle] at hp
    have hp := gc_ok hX hrel hB hp
    have g : GoodS G XR tabs k Γ N (defScope st) gen j (cxOf (L2.CX P w) P w K mg base N qual (defScope st) f cdv A outer s H E) (fun cls d _ H => E cls d H) := by
      refine ⟨⟨fun _ _ => rfl, rfl, S.nd, rfl, rfl, hr, fun hgen => ?_, hZ, hsc, GG⟩, takes_of rfl rfl rfl rfl, passes_of rfl, S.kind, rfl, rfl⟩
      obtain ⟨c, T, rfl, hT, hd⟩ := hg hgen cdv ⟨oc, od, kV, doc, pm, an, ct, osl, lk⟩
      exact ⟨c, T, rfl, .inl hd, hZ.1 T hT⟩
    refine ⟨_, (soundS fuel).ss g hc, B, startS as N.length, st0, m, ⟨hrel, start_sl hra (by omega)⟩, hB, start_out hra _, ?_⟩
    cases e : evalSs Γ body (startS as N.length) st0 with
    | nx ρ' st' => rw [e] at hp; exact fun m' σ' H' x' S' _ _ => hp m' H' x' S'.heap _ rfl
    | rt y st' => rw [e] at hp; exact fun m' H' v x' hr' rv => hp m' H' x' hr' v rv
    | bk ρ' st' => rw [e] at hp; exact hp.elim
    | ct ρ' st' => rw [e] at hp; exact hp.elim
    | ex c pl ρ' st' => rw [e] at hp; exact fun m' σ' H' u dx x' S' _ _ hx => hp m' H' u dx x' S'.heap hx
    | stuck => rw [e] at hp; exact hp.elim
  · rw [if_neg hle] at hp
    exact hp.elim
end D


set_option Elab.async false
set_option linter.all false
set_option maxHeartbeats 4000000
set_option maxRecDepth 100000
/-! EY: plain parameters are bound. -/
namespace D
open PySem PySem.Spec PyProof.Rows L2
theorem fm_congr {α β : Type} {f g : α → Option β} : ∀ {l : List α}, (∀ a ∈ l, f a = g a) → l.filterMap f = l.filterMap g
  | [], _ => rfl
  | a :: r, h => by
    rw [List.filterMap_cons, List.filterMap_cons, h a List.mem_cons_self, fm_congr fun b hb => h b (List.mem_cons_of_mem _ hb)]
theorem zip_look : ∀ {ns : List Str} {us : List Value}, ns.Nodup → us.length = ns.length → ns.filterMap (fun n => ((ns.zip us).lookup n).map (n, ·)) = ns.zip us ∧ ∀ n ∈ ns, ((ns.zip us).lookup n).isSome = true := by
  intro ns
  induction ns with
  | nil => intro us _ _; exact ⟨rfl, fun _ h => by cases h⟩
  | cons a r ih =>
    intro us nd hl
    cases us with
    | nil => simp at hl
    | cons u us =>
      rw [List.nodup_cons] at nd
      obtain ⟨h1, h2⟩ := ih nd.2 (by simpa using hl)
      have key : ∀ n ∈ r, (((a :: r).zip (u :: us)).lookup n) = (r.zip us).lookup n := fun n hn => by
        have : (n == a) = false := beq_eq_false_iff_ne.mpr fun z => nd.1 (z ▸ hn)
        simp [List.lookup, this]
      have e0 : ((a :: r).zip (u :: us)).lookup a = some u := by simp [List.lookup]
      refine ⟨?_, fun n hn => ?_⟩
      · rw [List.filterMap_cons, e0]
        show (a, u) :: (r.filterMap fun n => (((a :: r).zip (u :: us)).lookup n).map (n, ·)) = (a, u) :: r.zip us
        rw [fm_congr (g := fun n => ((r.zip us).lookup n).map (n, ·)) fun n hn => by rw [key n hn], h1]
      · rcases List.mem_cons.mp hn with rfl | hn
        · rw [e0]; rfl
        · rw [key n hn]; exact h2 n hn
theorem bind_plain {x qual : Str} {as : List Arg} {body : List Stmt} {scope : Scope} {kV doc pm : Value} {an : Option Addr} {cdv ct : Value} {us : List Value} (nd : (as.map (·.arg)).Nodup) (hl : us.length = as.length) :
    bindArgs (PySem.W.fnOf x qual { posonlyargs := [], args := as, vararg := none, kwonlyargs := [], kw_defaults := [], kwarg := none, defaults := [] } body scope .none kV doc pm an cdv ct) ⟨us, []⟩ = pure ((as.map (·.arg)).zip us) := by
  obtain ⟨h1, h2⟩ := zip_look (ns := as.map (·.arg)) (us := us) nd (by simpa using hl)
  unfold bindArgs
  have e0 : seqItems? Value.none = pure none := rfl
  have e1 : (PySem.W.fnOf x qual { posonlyargs := [], args := as, vararg := none, kwonlyargs := [], kw_defaults := [], kwarg := none, defaults := [] } body scope .none kV doc pm an cdv ct).defaults = .none := rfl
  have e2 : (PySem.W.fnOf x qual { posonlyargs := [], args := as, vararg := none, kwonlyargs := [], kw_defaults := [], kwarg := none, defaults := [] } body scope .none kV doc pm an cdv ct).params = { posonlyargs := [], args := as, vararg := none, kwonlyargs := [], kw_defaults := [], kwarg := none, defaults := [] } := rfl
  have e3 : (List.filter (fun n => (((as.map (·.arg)).zip us).lookup n).isNone) (as.map (·.arg))) = [] := by
    rw [List.filter_eq_nil_iff]
    intro n hn
    have := h2 n hn
    cases q : ((as.map (·.arg)).zip us).lookup n with
    | none => rw [q] at this; cases this
    | some v => simp
  have e4 : List.take as.length (as.map (·.arg)) = as.map (·.arg) := by rw [← List.length_map (f := (·.arg)), List.take_length]
  have e5 : List.drop as.length (as.map (·.arg)) = [] := by rw [← List.length_map (f := (·.arg)), List.drop_length]
  have e6 : decide (as.length > as.length) = false := by simp
  simp only [e1, e2, e0, List.forIn_nil, pure_bind, List.map_nil, List.nil_append, List.append_nil, Option.getD_none, List.length_nil, Nat.zero_sub, List.drop_zero, Nat.sub_zero, List.length_map, hl, e4, e5, e6, Bool.false_and, Bool.false_eq_true, if_false, e3, List.isEmpty_nil, Bool.not_true, List.zip_nil_left, h1]
end D


set_option Elab.async false
set_option linter.all false
set_option maxHeartbeats 4000000
set_option maxRecDepth 100000
/-! EZ: the law's own call: the script is locked, unknown tables are left out. -/
namespace D
open PySem PySem.Spec PyProof.Rows L2
theorem objOk_imp {P : Program} {w : World} {H H' : Hp} {h : Heap} {a : Addr} (h1 : ∀ x xs, H x = some (.tup xs) → H' x = some (.tup xs)) (h2 : ∀ x y, H x = some (.own y) → H' x = some (.own y)) : ∀ (u : HO), ObjOk P w H h a u → ObjOk P w H' h a u
  | .lst _, z => z
  | .tup _, z => z
  | .dK _, z => z
  | .dT kvs, z => by
    obtain ⟨z1, z2, xs, z3, z4⟩ := z
    exact ⟨z1, z2, xs, Paired.mapP z3 fun p q r => ⟨r.1, h1 _ _ r.2.1, r.2.2⟩, z4⟩
  | .set _ _, z => z
  | .ins _ _ _, z => ⟨h2 _ _ z.1, z.2⟩
  | .own _, z => z
  | .xd _, z => z
  | .met _ _, z => z
  | .rng _ _, z => z
  | .frz _ u, z => ⟨z.1, objOk_imp h1 h2 u z.2⟩
  | .tbl _, z => z
  | .ext _, z => z
/-- what the law's call is told of -/
def inH (ts : List Addr) (a : Addr) (ob : Obj) (H : Hp) : Hp := fun b => match H b with
  | some (.tbl ps) => if b ∈ ts then some (.tbl ps) else none
  | some (.lst xs) => if b = a then some (.frz ob (.lst xs)) else some (.lst xs)
  | o => o
/-- and what stands behind -/
def outH (ts : List Addr) (a : Addr) (H H' : Hp) : Hp := fun b => match H b with
  | some (.tbl ps) => if b ∈ ts then H' b else some (.tbl ps)
  | some (.lst xs) => if b = a then some (.lst xs) else H' b
  | _ => H' b
section
variable {P : Program} {w : World} {K : PySem.W.Frag} {mg : Str → Option Value} {base : Heap} {A : Around} {outer : List Env} {s s' : Shared} {H H' : Hp} {ts : List Addr} {a : Addr} {ob : Obj}
theorem inH_none {b : Addr} (e : H b = none) : inH ts a ob H b = none := by unfold inH; rw [e]
theorem inH_tup {b : Addr} {xs : List V} (e : H b = some (.tup xs)) : inH ts a ob H b = some (.tup xs) := by unfold inH; rw [e]
theorem inH_own {b y : Addr} (e : H b = some (.own y)) : inH ts a ob H b = some (.own y) := by unfold inH; rw [e]
theorem inH_frz {b : Addr} {o : Obj} {u : HO} (e : H b = some (.frz o u)) : inH ts a ob H b = some (.frz o u) := by unfold inH; rw [e]
theorem inH_tbl {b : Addr} {ps : Array Value} (h : inH ts a ob H b = some (.tbl ps)) : b ∈ ts ∧ H b = some (.tbl ps) := by
  unfold inH at h
  split at h
  · rename_i e
    split at h
    · rename_i hb; cases h; exact ⟨hb, e⟩
    · cases h
  · split at h <;> cases h
  · rename_i h1 h2
    exact absurd h (h1 ps)
theorem in_env (e : Env0 P w K mg base A outer s H) (ho : ∀ xs, H a = some (.lst xs) → s.heap.get? a = some ob) : Env0 P w K mg base A outer s (inH ts a ob H) :=
  ⟨e.frames, e.mod, fun b o q => ⟨(e.bs b o q).1, inH_none (e.bs b o q).2⟩, e.bsz, e.funs, fun b hb => inH_none (e.frf b hb), fun b o q => by
    have key : ∀ u, H b = some u → ObjOk P w (inH ts a ob H) s.heap b u := fun u z => objOk_imp (fun _ _ z => inH_tup z) (fun _ _ z => inH_own z) u (e.hok b u z)
    unfold inH at q
    split at q
    · rename_i z
      split at q
      · cases q; exact key _ z
      · cases q
    · rename_i xs z
      split at q
      · rename_i hb
        cases q
        subst hb
        exact ⟨ho xs z, key _ z⟩
      · cases q; exact key _ z
    · exact key _ q, e.bare⟩
theorem out_cr (e : Env0 P w K mg base A outer s H) {r : Result} {Q : VK} {E : XK} (hQ : ∀ H', Q (.bl true) H') (h : CR (L2.CX P w) outer P w (inH ts a ob H) s (fun v _ => v = .bl true) (fun _ _ _ => False) r s') : CR (L2.CX P w) outer P w H s Q E r s' := by
  cases r with
  | error x => obtain ⟨_, _, _, _, _, _, _, _, _, _, _, _, z⟩ := h; exact z.elim
  | ok fl =>
    cases fl with
    | next => exact h
    | brk => exact h
    | cont => exact h
    | ret u =>
      obtain ⟨v, H', os, bare, un, hok, rv, q⟩ := h
      have q : v = .bl true := q
      subst q
      have nfr : ∀ b o, H b = some o → b ∉ frs outer := fun b o z hb => by rw [e.frf b hb] at z; cases z
      have eq0 : ∀ b, H b = none → outH ts a H H' b = H' b := fun b z => by unfold outH; rw [z]
      refine ⟨.bl true, outH ts a H H', os, bare, ⟨fun b o z n1 n2 n3 => un.keep b o z (inH_none n1) n2 n3, fun b o z n1 n2 n3 => un.slot b o z (inH_none n1) n2 n3, fun b o z n1 n2 => ?_, un.there, fun b xs z => ?_, fun b o u z => ?_, fun b ps z => ?_⟩, fun b o z => ?_, rv, hQ _⟩
      · rw [eq0 b n1]; exact un.free b o z (inH_none n1) n2
      · have := un.tups b xs (inH_tup z)
        unfold outH; rw [z]; exact this
      · have := un.frzs b o u (inH_frz z)
        unfold outH; rw [z]; exact this
      · by_cases hb : b ∈ ts
        · have z0 : inH ts a ob H b = some (.tbl ps) := by unfold inH; rw [z]; exact if_pos hb
          obtain ⟨more, z1⟩ := un.tbls b ps z0
          refine ⟨more, ?_⟩
          unfold outH; rw [z]; simp only [if_pos hb]; exact z1
        · refine ⟨#[], ?_⟩
          unfold outH; rw [z]; simp only [if_neg hb, Array.append_empty]
      · have tbl0 : ∀ x ps, H x = some (.tbl ps) → x ∉ ts → H' x = none ∧ s'.heap.get? x = some { cls := .none, data := .fields ps } := fun x ps z1 hx => by
          have g0 := e.hok x _ z1
          have n0 : inH ts a ob H x = none := by unfold inH; rw [z1]; exact if_neg hx
          exact ⟨un.free x _ g0 n0 (by simp), un.keep x _ g0 n0 (nfr x _ z1) (by simp)⟩
        have lst0 : ∀ xs, H a = some (.lst xs) → H' a = some (.frz ob (.lst xs)) := fun xs z1 => un.frzs a ob _ (by unfold inH; rw [z1]; exact if_pos rfl)
        have o1 : ∀ x u, H' x = some u → (∀ ob2 u2, u ≠ .frz ob2 u2) → outH ts a H H' x = some u := fun x u z1 hu => by
          unfold outH
          split
          · rename_i ps z2
            split
            · exact z1
            · rename_i hx
              rw [(tbl0 x ps z2 hx).1] at z1; cases z1
          · rename_i xs z2
            split
            · rename_i hx
              subst hx
              rw [lst0 xs z2] at z1
              cases z1
              exact absurd rfl (hu _ _)
            · exact z1
          · exact z1
        have key : ∀ u, H' b = some u → ObjOk P w (outH ts a H H') s'.heap b u := fun u z1 => objOk_imp (fun x xs z2 => o1 x _ z2 (fun _ _ z => by cases z)) (fun x y z2 => o1 x _ z2 (fun _ _ z => by cases z)) u (hok b u z1)
        unfold outH at z
        split at z
        · rename_i ps z2
          split at z
          · exact key _ z
          · rename_i hx
            cases z
            exact (tbl0 b ps z2 hx).2
        · rename_i xs z2
          split at z
          · rename_i hx
            subst hx
            cases z
            exact (key _ (lst0 xs z2)).2
          · exact key _ z
        · exact key _ z
end
end D


set_option Elab.async false
set_option linter.all false
set_option maxHeartbeats 4000000
set_option maxRecDepth 100000
/-! FA: the law's promise; all defs of a table. -/
namespace D
open PySem PySem.Spec PyProof.Rows L2
/-- the law hands back True -/
def spL (K : PySem.W.Frag) (ts : List Addr) : Sp := fun vs H Q E => ∃ (a : Addr) (ns : List Int), vs = [.ref a] ∧ ns.length ≤ 63 ∧ (∀ z ∈ ns, Builtin.Int.intBits z ≤ 1048576) ∧ (∀ T ∈ ts, H T = some (.tbl #[])) ∧ SqL K H a (ns.map V.int) ∧ ∀ H', Q (.bl true) H'
open Classical in
noncomputable def scrOf (a : Addr) (ns : List Int) : V → Option (List Int) := fun c => if c = .ref a then some ns else none
theorem law_ok {P : Program} {w : World} {K : PySem.W.Frag} {mg : Str → Option Value} {base : Heap} {k : Nat} {f : Addr} {fd : FuncData} {x : Str} {XR : XRel} {ts : List Addr} {run : (V → Option (List Int)) → List SV → M EV}
    (F : ∀ scr, FnOk P w K mg base (L2.CX P w) k f fd [x] (spD P w K XR ⟨ts, scr⟩ 1 (run scr)))
    (hrun : ∀ (c : V) (ns : List Int) (scr : V → Option (List Int)), scr c = some ns → ns.length ≤ 63 → (∀ z ∈ ns, Builtin.Int.intBits z ≤ 1048576) → ∃ st', run scr [.v (.cst c)] [] = .ok (.v (.bool true)) st') :
    FnOk P w K mg base (L2.CX P w) k f fd [x] (spL K ts) := by
  refine ⟨fun vs H Q E h => by obtain ⟨a, ns, rfl, _⟩ := h; rfl, fun A outer s H args us vs Q E hr e0 hb r h => ?_⟩
  obtain ⟨a, ns, rfl, hl, hbit, hT, hS, hQ⟩ := h
  obtain ⟨ob, hob⟩ : ∃ ob : Obj, ∀ xs, H a = some (.lst xs) → s.heap.get? a = some ob := by
    cases q : s.heap.get? a with
    | some ob => exact ⟨ob, fun _ _ => rfl⟩
    | none =>
      refine ⟨default, fun xs z => ?_⟩
      obtain ⟨_, its, n, _, g⟩ := e0.hok a _ z
      rw [q] at g; cases g
  obtain ⟨st', hst⟩ := hrun (.ref a) ns (scrOf a ns) (by unfold scrOf; rw [if_pos rfl]) hl hbit
  have hS0 : SqR K (inH ts a ob H) a (ns.map V.int) := by
    rcases hS with (z | ⟨o, z⟩) | z
    · exact .inl ⟨ob, by unfold inH; rw [z]; exact if_pos rfl⟩
    · exact .inl ⟨o, inH_frz z⟩
    · exact .inr z
  refine codeAny_mono ((F (scrOf a ns)).run A outer s (inH ts a ob H) args us [.ref a] (fun v _ => v = .bl true) (fun _ _ _ => False) hr (in_env e0 hob) hb r ?_) fun r s' h => out_cr e0 hQ h
  refine ⟨rfl, ⟨fun T hTm => ⟨#[], by unfold inH; rw [hT T hTm]; exact if_pos hTm⟩, fun c ms e => ?_⟩, fun _ => none, [], fun _ => 0, [.v (.cst (.ref a))], ⟨fun l c e => by simp at e, fun l l' h1 => by simp at h1, fun b ps e => ?_⟩, ⟨fun _ _ e => (by cases e), fun _ _ => rfl, fun _ _ e => (by cases e)⟩, ⟨.ref a, [], rfl, rfl, rfl⟩, ?_⟩
  · have e : scrOf a ns c = some ms := e
    unfold scrOf at e
    split at e
    · rename_i hc
      cases e
      exact ⟨a, hc, hS0⟩
    · cases e
  · obtain ⟨h1, h2⟩ := inH_tbl e
    rw [hT b h1] at h2
    cases h2
    exact ⟨True.intro, fun pos cv z => by simp [codeAmong] at z⟩
  · show PostM P w K XR _ _ _ _ _ (run (scrOf a ns) [.v (.cst (.ref a))] [])
    rw [hst]
    exact fun m' H' _ _ v rv => rv
/-! ### a table of defs -/
structure Fe where
  name : String
  np : Nat
  N : List String
  body : Ss
def Fe.fd (e : Fe) : Fd := ⟨e.np, e.N.length, e.body⟩
def tabF (L : List Fe) : Tab := L.map fun e => (e.name, e.fd)
def Fe.Ns (e : Fe) : List Str := e.N.map Str.ofString
def argsB (p : Arguments) (ns : List Str) : Bool := p.posonlyargs.isEmpty && p.vararg.isNone && p.kwonlyargs.isEmpty && p.kw_defaults.isEmpty && p.kwarg.isNone && p.defaults.isEmpty && decide (p.args.map (·.arg) = ns)
def scopeB (N ps : List Str) (sc : Scope) : Bool := decide (sc.kind = .function) && !sc.isCoroutine && !sc.isGenerator && decide N.Nodup && decide (N.take ps.length = ps) && ps.all (fun x => sc.names.lookup x == some .local || sc.names.lookup x == some .cell) && sc.names.all (fun y => !(y.2 == .free))
theorem scope_ok {N ps : List Str} {sc : Scope} (h : scopeB N ps sc = true) : FnScope N ps sc := by
  simp only [scopeB, Bool.and_eq_true, Bool.not_eq_true', decide_eq_true_eq, List.all_eq_true, Bool.or_eq_true, beq_iff_eq, beq_eq_false_iff_ne] at h
  obtain ⟨⟨⟨⟨⟨⟨h1, h2⟩, h3⟩, h4⟩, h5⟩, h6⟩, h7⟩ := h
  exact ⟨h1, h2, h3, h4, h5, h6, h7⟩
def feB (G : Gx) (fn : List He.DefD) (tf : List He.Defn) (j fuel : Nat) (e : Fe) : Bool := fn.any fun d =>
  decide (d.at_ = (Str.ofString e.name, none)) && decide (d.name = Str.ofString e.name) && decide (d.qual = Str.ofString e.name) && d.dfl.isEmpty && d.kwd.isEmpty && scopeB e.Ns (e.Ns.take e.np) d.scope && argsB d.params (e.Ns.take e.np) && decide (e.np ≤ e.N.length) &&
    chkSs G e.Ns (tf.contains (Str.ofString e.name, none)) d.scope j fuel e.body d.body
theorem look_mem : ∀ {L : List Fe} {e : Fe}, (L.map (·.name)).Nodup → e ∈ L → (tabF L).lookup e.name = some e.fd
  | [], e, _, h => by cases h
  | a :: r, e, nd, h => by
    simp only [List.map_cons, List.nodup_cons] at nd
    rcases List.mem_cons.mp h with rfl | h
    · simp [tabF, List.lookup]
    · have hne : (e.name == a.name) = false := by
        refine beq_eq_false_iff_ne.mpr fun z => nd.1 ?_
        rw [← z]
        exact List.mem_map.mpr ⟨e, h, rfl⟩
      have := look_mem nd.2 h
      unfold tabF at this ⊢
      simp only [List.map_cons, List.lookup, hne]
      exact this
/-- an exception of the module's own, with a text -/
def XRk (mg : Str → Option Value) : XRel := fun c pl m n u dx H => pl = [] ∧ dx = none ∧ mg (Str.ofString c) = some u
theorem xrk_down {mg : Str → Option Value} : XDown (XRk mg) := fun c pl m n n' u dx H _ h => h
/-- the module's facts, as the head tells them -/
structure HeadOk (G : Gx) (L : List Fe) (fa : List He.Fa) (fn : List He.DefD) (tf : List He.Defn) (j fuel : Nat) : Prop where
  bs : ∀ x ∈ G.bs, He.Fa.free (Str.ofString x) ∈ fa
  cs : ∀ p ∈ G.cs, He.Fa.str (Str.ofString p.1) (sOf p.2) ∈ fa
  xs : ∀ c ∈ G.xs, He.Fa.exc (Str.ofString c) ∈ fa ∧ He.Fa.glo (Str.ofString c) ∈ fa
  fs : ∀ f ∈ G.fs, ∃ e ∈ L, f = (e.name, e.np, [])
  em : ∀ p ∈ G.em, He.Fa.exm (Str.ofString p.1) (Str.ofString p.2.1) p.2.2 ∈ fa
  gl : ∀ e ∈ L, He.Fa.glo (Str.ofString e.name) ∈ fa
  nd : (L.map (·.name)).Nodup
  ok : ∀ e ∈ L, feB G fn tf j fuel e = true
  tf : tf ≠ []
section
variable {G : Gx} {L : List Fe} {fa : List He.Fa} {fn : List He.DefD} {tf : List He.Defn} {j fuel : Nat} {P : Program} {w : World} {K : PySem.W.Frag} {mg : Str → Option Value} {base h : Heap}
theorem fun_of {x qual : Str} {params : Arguments} {body : List Stmt} {scope : Scope} {kws : List (Str × V)} {f : Addr} {fd : FuncData} (F : FunD K x qual params body scope [] kws f fd) : Fun K x qual (.FunctionDef x params body [] none [] scope none x ⟨0, 0, 0, 0⟩) f fd := by
  obtain ⟨oc, od, dV, kV, doc, pm, an, cdv, ct, osl, h1, h2, h3, h4, h5⟩ := F.ex
  rcases h4 with ⟨_, rfl⟩ | ⟨e, _⟩
  · exact ⟨⟨oc, od, kV, doc, pm, an, cdv, ct, osl, h1, h2 , h3⟩, F.kp⟩
  · exact absurd rfl e
theorem fe_one (O : HeadOk G L fa fn tf j fuel) (KX : K.In h) (hns : h.Ns mainGlobals mg) (c : He.SaysD fa fn K) {e : Fe} (he : e ∈ L) : ∃ f fd d, d ∈ fn ∧ mg (Str.ofString e.name) = some (.ref f) ∧ f = He.fAd K d.at_ ∧ FunD K (Str.ofString e.name) (Str.ofString e.name) d.params d.body d.scope [] [] f fd ∧ FnScope e.Ns (e.Ns.take e.np) d.scope ∧ argsB d.params (e.Ns.take e.np) = true ∧ e.np ≤ e.N.length ∧
      d.at_ = (Str.ofString e.name, none) ∧ chkSs G e.Ns (tf.contains (Str.ofString e.name, none)) d.scope j fuel e.body d.body = true := by
  have hk := O.ok e he
  simp only [feB, List.any_eq_true, Bool.and_eq_true, decide_eq_true_eq] at hk
  obtain ⟨d, hd, ⟨⟨⟨⟨⟨⟨⟨h1, h2⟩, h3⟩, h4⟩, h5⟩, h6⟩, h7⟩, h8⟩, h9⟩ := hk
  obtain ⟨fd, FD⟩ := c.defs hd
  have e1 : d.dvs K = [] := by unfold He.DefD.dvs; rw [List.isEmpty_iff.mp h4]; rfl
  have e2 : d.kws K = [] := by unfold He.DefD.kws; rw [List.isEmpty_iff.mp h5]; rfl
  rw [h2, h3, e1, e2] at FD
  have eg := He.glo_ok KX hns (c.facts (O.gl e he))
  have ef : He.fAd K d.at_ = He.ga K (Str.ofString e.name) := by rw [h1]; rfl
  exact ⟨_, fd, d, hd, eg, ef.symm, by rw [← ef]; exact FD, scope_ok h6, h7, h8, h1, h9⟩
theorem fe_bind {e : Fe} {f : Addr} {fd : FuncData} {d : He.DefD} (FD : FunD K (Str.ofString e.name) (Str.ofString e.name) d.params d.body d.scope [] [] f fd) (ha : argsB d.params (e.Ns.take e.np) = true) (nd : (e.Ns.take e.np).Nodup) :
    ∀ (kV doc pm : Value) (an : Option Addr) (cdv ct : Value) (us : List Value), us.length = (e.Ns.take e.np).length → bindArgs (PySem.W.fnOf (Str.ofString e.name) (Str.ofString e.name) d.params d.body d.scope .none kV doc pm an cdv ct) ⟨us, []⟩ = pure ((e.Ns.take e.np).zip us) := by
  intro kV doc pm an cdv ct us hl
  simp only [argsB, Bool.and_eq_true, decide_eq_true_eq] at ha
  obtain ⟨⟨⟨⟨⟨⟨a1, a2⟩, a3⟩, a4⟩, a5⟩, a6⟩, a7⟩ := ha
  have hp : d.params = { posonlyargs := [], args := d.params.args, vararg := none, kwonlyargs := [], kw_defaults := [], kwarg := none, defaults := [] } := by
    cases q : d.params with
    | mk p1 p2 p3 p4 p5 p6 p7 =>
      rw [q] at a1 a2 a3 a4 a5 a6
      simp only [List.isEmpty_iff, Option.isNone_iff_eq_none] at a1 a2 a3 a4 a5 a6
      subst a1 a2 a3 a4 a5 a6
      rfl
  rw [← a7] at nd hl ⊢
  rw [hp]
  exact bind_plain nd (by simpa using hl)
theorem fe_ok (O : HeadOk G L fa fn tf j fuel) {scr : V → Option (List Int)} {d : Nat} (tb : ∀ p ∈ tf.map (He.cT K), LamX.TabB base mg p.1 p.2) (ih : GoodG G P w K mg base (XRk mg) ⟨(tf.map (He.cT K)).map (·.2), scr⟩ ((j + 1) * d) ⟨runF scr (tabF L) d, scr⟩) {e : Fe} (he : e ∈ L) {fa' : Addr} {fd : FuncData} {dd : He.DefD} (ef : fa' = He.fAd K dd.at_)
    (FD : FunD K (Str.ofString e.name) (Str.ofString e.name) dd.params dd.body dd.scope [] [] fa' fd) (S : FnScope e.Ns (e.Ns.take e.np) dd.scope) (hle : e.np ≤ e.N.length) (hat : dd.at_ = (Str.ofString e.name, none)) (hc : chkSs G e.Ns (tf.contains (Str.ofString e.name, none)) dd.scope j fuel e.body dd.body = true) :
    FnOk P w K mg base (L2.CX P w) ((j + 1) * (d + 1)) fa' fd (e.Ns.take e.np) (spD P w K (XRk mg) ⟨(tf.map (He.cT K)).map (·.2), scr⟩ (e.Ns.take e.np).length (fun vs => runF scr (tabF L) (d + 1) e.name vs)) := by
  have hl : (e.Ns.take e.np).length = e.np := by rw [List.length_take]; simp [Fe.Ns, hle]
  have key := def_ok (P := P) (w := w) (base := base) (body := e.body) (fun_of FD) S ih xrk_down rfl (gen := tf.contains (Str.ofString e.name, none)) (fun hg cdv ⟨oc, od, kV, doc, pm, an, ct, osl, lk⟩ => by
    have hm : (Str.ofString e.name, none) ∈ tf := List.contains_iff_mem.mp hg
    have tbp := tb (He.cT K (Str.ofString e.name, none)) (List.mem_map.mpr ⟨_, hm, rfl⟩)
    obtain ⟨oc2, od2, dV2, kV2, doc2, pm2, an2, cdv2, ct2, osl2, g1, g2, g3, g4, g5⟩ := FD.ex
    rw [g1] at g2
    rw [lk] at g2
    have ec : cdv = cdv2 := congrArg (fun o : Option Obj => match o with | some ⟨_, _, .func fd, _⟩ => fd.code | _ => .none) g2
    obtain ⟨cc, hcc⟩ := He.codeIn_ref g3
    have e5 : He.codeOf K (Str.ofString e.name, none) = cc := He.codeOf_eq (p := (Str.ofString e.name, none)) (by rw [← hat, ← ef]; exact lk) (by show cdv = _; rw [ec, hcc])
    refine ⟨cc, (He.cT K (Str.ofString e.name, none)).2, by rw [ec, hcc], List.mem_map.mpr ⟨_, List.mem_map.mpr ⟨_, hm, rfl⟩, rfl⟩, ?_⟩
    have := tbp.code
    rw [show (He.cT K (Str.ofString e.name, none)).1 = cc from e5] at this
    exact this) hc
  have hr : (fun vs => runF scr (tabF L) (d + 1) e.name vs) = runB ⟨runF scr (tabF L) d, scr⟩ (e.Ns.take e.np).length e.Ns.length e.body := by
    funext vs st
    show (match (tabF L).lookup e.name with | none => Res.stuck | some fd => _) = _
    rw [look_mem O.nd he, hl]
    show (if vs.length = e.np ∧ e.np ≤ e.N.length then _ else _) = _
    unfold runB
    have : e.Ns.length = e.N.length := by simp [Fe.Ns]
    rw [this]
    rfl
  have hk : (j + 1) * d + j + 1 = (j + 1) * (d + 1) := by rw [Nat.mul_succ]; omega
  rw [hk] at key
  rw [hr]
  exact key
theorem all_fn (O : HeadOk G L fa fn tf j fuel) (KX : K.In base) (hns : base.Ns mainGlobals mg) (c : He.SaysD fa fn K) (tb : ∀ p ∈ tf.map (He.cT K), LamX.TabB base mg p.1 p.2) (scr : V → Option (List Int)) (ie : ∀ p ∈ G.ie, ExcC K (He.ga K (Str.ofString p.1)) ∧ PySem.W.kitOne K (.ref (He.ga K (Str.ofString p.1))) (clsU G K p.2.1) = some p.2.2) :
    ∀ d : Nat, GoodG G P w K mg base (XRk mg) ⟨(tf.map (He.cT K)).map (·.2), scr⟩ ((j + 1) * d) ⟨runF scr (tabF L) d, scr⟩ := by
  have bm : ∃ P0, base.BuiltinsAt mg P0 := by
    cases e : tf with
    | nil => exact absurd e O.tf
    | cons p r => exact ⟨_, (tb (He.cT K p) (by rw [e]; simp)).bm⟩
  have fbs : ∀ x ∈ G.bs, mg (Str.ofString x) = none := fun x hx => He.free_ok KX hns (c.facts (O.bs x hx))
  have fcs : ∀ p ∈ G.cs, ∃ t, mg (Str.ofString p.1) = some (.str (sOf p.2) t) := fun p hp => He.str_ok KX hns (c.facts (O.cs p hp))
  have fxs : ∀ c ∈ G.xs, mg (Str.ofString c) = some (.ref (He.ga K (Str.ofString c))) ∧ PySem.W.keepIn K (.ref (He.ga K (Str.ofString c))) = true ∧ PySem.W.excIn K (He.ga K (Str.ofString c)) [.type "ValueError", .type "Exception", .type "BaseException", .type "object"] "ValueError.__new__" = true ∧
      PySem.W.subIn K (.ref (He.ga K (Str.ofString c))) (.type "BaseException") = some true ∧ PySem.W.typeIn K (.ref (He.ga K (Str.ofString c))) = some (.type "type") ∧ ∀ (m : Nat → Addr) (n : Nat) (H : Hp), XRk mg c [] m n (.ref (He.ga K (Str.ofString c))) none H := fun x hx => by
    obtain ⟨h1, h2⟩ := O.xs x hx
    obtain ⟨e1, e2, e3, e4⟩ := He.exc_ok (c.facts h1)
    have e5 := He.glo_ok KX hns (c.facts h2)
    exact ⟨e5, e2, e1, e3, e4, fun _ _ _ => ⟨rfl, rfl, e5⟩⟩
  have fxr : ∀ c ∈ G.xs, ∀ (pl : List Val) (m : Nat → Addr) (n : Nat) (u : Value) (dx : Option Addr) (H : Hp), XRk mg c pl m n u dx H → u = .ref (He.ga K (Str.ofString c)) ∧ dx = none := fun x hx pl m n u dx H hX => by
    have e5 := He.glo_ok KX hns (c.facts (O.xs x hx).2)
    have := hX.2.2
    rw [e5] at this
    exact ⟨(Option.some.inj this).symm, hX.2.1⟩
  have fem : ∀ p ∈ G.em, PySem.W.exmOne K (.ref (He.ga K (Str.ofString p.1))) (.ref (He.ga K (Str.ofString p.2.1))) = some p.2.2 := fun p hp => He.exm_ok (c.facts (O.em p hp))
  have bnd : ∀ {e : Fe} {f : Addr} {fd : FuncData} {d : He.DefD}, FunD K (Str.ofString e.name) (Str.ofString e.name) d.params d.body d.scope [] [] f fd → argsB d.params (e.Ns.take e.np) = true → (e.Ns.take e.np).Nodup → Binds K fd (e.Ns.take e.np) [] := fun FD ha nd => FunD.bindsN FD (fe_bind FD ha nd)
  intro d
  induction d with
  | zero =>
    refine ⟨fbs, fcs, fun f hf => ?_, bm, fxs, fxr, fem, ie⟩
    obtain ⟨e, he, rfl⟩ := O.fs f hf
    obtain ⟨fa', fd, dd, hd, eg, ef, FD, S, ha, hle, hat, hc⟩ := fe_one O KX hns c he
    have hl : (e.Ns.take e.np).length = e.np := by rw [List.length_take]; simp [Fe.Ns, hle]
    refine ⟨fa', fd, e.Ns.take e.np, eg, FD.kp, hl, ⟨fun vs H Q E h => h.1, fun A outer s H args us vs Q E hr e0 hb r h => ?_⟩, [], [], bnd FD ha (S.nd.sublist (List.take_sublist _ _)), .nil, rfl, fun _ _ _ => rfl⟩
    obtain ⟨_, _, _, _, _, _, _, _, _, z⟩ := h
    exact z.elim
  | succ d ih =>
    refine ⟨fbs, fcs, fun f hf => ?_, bm, fxs, fxr, fem, ie⟩
    obtain ⟨e, he, rfl⟩ := O.fs f hf
    obtain ⟨fa', fd, dd, hd, eg, ef, FD, S, ha, hle, hat, hc⟩ := fe_one O KX hns c he
    have hl : (e.Ns.take e.np).length = e.np := by rw [List.length_take]; simp [Fe.Ns, hle]
    exact ⟨fa', fd, e.Ns.take e.np, eg, FD.kp, hl, fe_ok O tb ih he ef FD S hle hat hc, [], [], bnd FD ha (S.nd.sublist (List.take_sublist _ _)), .nil, rfl, fun _ _ _ => rfl⟩
/-- isinstance of what is caught: facts of the written part -/
def excCB (K : PySem.W.Frag) (D : Addr) : Bool := decide (PySem.W.findIn K (.ref D) "__getattribute__" = some (some (.builtin "BaseException.__getattribute__"))) && decide (PySem.W.findIn K (.ref D) "__getattr__" = some none) && decide (PySem.W.subIn K (.ref D) (.type "BaseException") = some true) &&
  PySem.W.hasDictIn K D && decide (PySem.W.findIn K (.ref D) "__class__" = some (some (.builtin "object.__class__"))) && decide (PySem.W.specialIn K (.builtin "object.__class__") "__get__" = some (some (.builtin "getset_descriptor.__get__"))) &&
  decide (PySem.W.takesIn K (.builtin "object.__class__") = some true) && decide (PySem.W.mroIn K D (.type "object") = some true)
def ieB (G : Gx) (K : PySem.W.Frag) : Bool := G.ie.all fun p => excCB K (He.ga K (Str.ofString p.1)) && decide (PySem.W.kitOne K (.ref (He.ga K (Str.ofString p.1))) (clsU G K p.2.1) = some p.2.2)
theorem ie_ok (h : ieB G K = true) : ∀ p ∈ G.ie, ExcC K (He.ga K (Str.ofString p.1)) ∧ PySem.W.kitOne K (.ref (He.ga K (Str.ofString p.1))) (clsU G K p.2.1) = some p.2.2 := fun p hp => by
  have := List.all_eq_true.mp h p hp
  simp only [excCB, Bool.and_eq_true, decide_eq_true_eq] at this
  obtain ⟨⟨⟨⟨⟨⟨⟨⟨h1, h2⟩, h3⟩, h4⟩, h5⟩, h6⟩, h7⟩, h8⟩, h9⟩ := this
  exact ⟨⟨h1, h2, h3, h4, h5, h6, h7, h8⟩, h9⟩
/-- the law at the head's heap -/
theorem law_at {l : PySem.W.OpenLaw} {ts : List He.Tab} {ex : PySem.W.Frag → Bool} (hex : ex = ieB G) (O : HeadOk G L fa fn tf j fuel) {e : Fe} (he : e ∈ L) (hn : e.name = "law") (hps : e.Ns.take e.np = [("script" : Str)]) {d : Nat}
    (hrun : ∀ (c : V) (ns : List Int) (scr : V → Option (List Int)), scr c = some ns → ns.length ≤ 63 → (∀ z ∈ ns, Builtin.Int.intBits z ≤ 1048576) → ∃ st', runF scr (tabF L) (d + 1) "law" [.v (.cst c)] [] = .ok (.v (.bool true)) st')
    (KX : K.In h) (hns : h.Ns mainGlobals mg) {f : Addr} (hmg : mg ("law" : Str) = some (.ref f)) (c : He.SaysX fa fn ts tf ex w h K) : LamX.LawAtS l w K (L2.CX l.prog w) ((j + 1) * (d + 1)) 63 "script" mg f h := by
  obtain ⟨fa', fd, dd, hd, eg, ef, FD, S, ha, hle, hat, hc⟩ := fe_one O KX hns c.t.d he
  rw [hn] at eg
  cases eg.symm.trans hmg
  have b := fe_bind FD ha (S.nd.sublist (List.take_sublist _ _))
  rw [hps] at b
  refine ⟨fd, tf.map (He.cT K), spL K ((tf.map (He.cT K)).map (·.2)), fun p hp => ?_, fun p hp => ?_, fun p hp => ?_, fun s u => FunD.bindsA FD b s [u] rfl, fun H a ns hl hb hT hS => ⟨a, ns, rfl, hl, hb, fun T hT2 => ?_, hS, fun _ => rfl⟩, fun base KB hnb tb => ?_⟩
  · obtain ⟨q, hq, rfl⟩ := List.mem_map.mp hp
    exact c.empty q hq
  · obtain ⟨q, hq, rfl⟩ := List.mem_map.mp hp
    exact c.out q hq
  · obtain ⟨q, hq, rfl⟩ := List.mem_map.mp hp
    exact PySem.W.codeHd_of_K KX (c.hd q hq)
  · obtain ⟨p, hp, rfl⟩ := List.mem_map.mp hT2
    exact hT p hp
  · refine law_ok (XR := XRk mg) (run := fun scr vs => runF scr (tabF L) (d + 1) "law" vs) (fun scr => ?_) hrun
    have key := fe_ok (P := l.prog) (w := w) O (scr := scr) tb (all_fn O KB hnb c.t.d tb scr (ie_ok (hex ▸ c.more)) d) he ef FD S hle hat hc
    rw [hps, hn] at key
    exact key
end
end D


set_option Elab.async false
set_option linter.all false
set_option maxHeartbeats 4000000
set_option maxRecDepth 100000
/-! FB: a row's facts by its text. -/
namespace D
open PySem PySem.Spec PyProof.Rows L2
def dOf : Stmt → Option He.DefD
  | .FunctionDef n a b _ _ _ sc _ _ _ => some ⟨(n, none), n, n, a, b, sc, [], []⟩
  | _ => none
def fnOfP (P : Program) : List He.DefD := P.main.body.filterMap dOf
def faOf (G : Gx) (L : List Fe) : List He.Fa := L.map (fun e => .glo (Str.ofString e.name)) ++ (G.bs.map (fun x => .free (Str.ofString x)) ++ (G.cs.map (fun p => .str (Str.ofString p.1) (sOf p.2)) ++ (G.xs.map (fun x => .exc (Str.ofString x)) ++ (G.xs.map (fun x => .glo (Str.ofString x)) ++ G.em.map (fun p => .exm (Str.ofString p.1) (Str.ofString p.2.1) p.2.2)))))
def tfOf (l : List String) : List He.Defn := l.map fun x => (Str.ofString x, none)
theorem head_ok {G : Gx} {L : List Fe} {fn : List He.DefD} {tf : List He.Defn} {j fuel : Nat} (h1 : G.fs = L.map fun e => (e.name, e.np, [])) (h2 : (L.map (·.name)).Nodup) (h3 : L.all (feB G fn tf j fuel) = true) (h4 : tf ≠ []) : HeadOk G L (faOf G L) fn tf j fuel := by
  refine ⟨fun x hx => ?_, fun p hp => ?_, fun c hc => ⟨?_, ?_⟩, fun f hf => ?_, fun p hp => ?_, fun e he => ?_, h2, fun e he => List.all_eq_true.mp h3 e he, h4⟩
  · exact List.mem_append_right _ (List.mem_append_left _ (List.mem_map.mpr ⟨x, hx, rfl⟩))
  · exact List.mem_append_right _ (List.mem_append_right _ (List.mem_append_left _ (List.mem_map.mpr ⟨p, hp, rfl⟩)))
  · exact List.mem_append_right _ (List.mem_append_right _ (List.mem_append_right _ (List.mem_append_left _ (List.mem_map.mpr ⟨c, hc, rfl⟩))))
  · exact List.mem_append_right _ (List.mem_append_right _ (List.mem_append_right _ (List.mem_append_right _ (List.mem_append_left _ (List.mem_map.mpr ⟨c, hc, rfl⟩)))))
  · rw [h1] at hf
    obtain ⟨e, he, rfl⟩ := List.mem_map.mp hf
    exact ⟨e, he, rfl⟩
  · exact List.mem_append_right _ (List.mem_append_right _ (List.mem_append_right _ (List.mem_append_right _ (List.mem_append_right _ (List.mem_map.mpr ⟨p, hp, rfl⟩)))))
  · exact List.mem_append_left _ (List.mem_map.mpr ⟨e, he, rfl⟩)
end D


set_option maxRecDepth 100000
/-! The defs of the linked text, as terms of the small language: printed by gen.py. -/
namespace K01
open D
def v_FIGURES : Val := .str ['0', '1', '2', '3', '4', '5', '6', '7', '8', '9']
def v_GREAT : Val := .str ['A', 'B', 'C', 'D', 'E', 'F', 'G', 'H', 'I', 'J', 'K', 'L', 'M', 'N', 'O', 'P', 'Q', 'R', 'S', 'T', 'U', 'V', 'W', 'X', 'Y', 'Z']
def v_SMALL : Val := .str ['a', 'b', 'c', 'd', 'e', 'f', 'g', 'h', 'i', 'j', 'k', 'l', 'm', 'n', 'o', 'p', 'q', 'r', 's', 't', 'u', 'v', 'w', 'x', 'y', 'z']
def b_is_word : Ss := (.cons (.ret (.and (.bi .isStr (.cons (.var 0) .nil)) (.and (.chn .le .le (.con (.int 1)) (.bi .len (.cons (.var 0) .nil)) (.con (.int 20))) (.all [1] (.nm 1) (.seq (.var 0)) .none (.cmp .mem (.var 1) (.bin .add (.bin .add (.glob "SMALL" v_SMALL) (.glob "GREAT" v_GREAT)) (.glob "FIGURES" v_FIGURES))))))) .nil)
def b_is_open : Ss := (.cons (.ret (.and (.cmp .mem (.sl (.var 0) .none (.some (.con (.int 1)))) (.glob "GREAT" v_GREAT)) (.cmp .ne (.var 0) (.con (.str []))))) .nil)
def b_is_name : Ss := (.cons (.ret (.and (.call "is_word" (.lend (.var 0) .nil) []) (.cmp .mem (.ix (.var 0) (.con (.int 0))) (.glob "SMALL" v_SMALL)))) .nil)
def b_is_atom : Ss := (.cons (.ite (.or (.not (.bi .isTuple (.cons (.var 0) .nil))) (.or (.cmp .ne (.bi .len (.cons (.var 0) .nil)) (.con (.int 2))) (.not (.call "is_name" (.lend (.ix (.var 0) (.con (.int 0))) .nil) [])))) (.cons (.ret (.con (.bool false))) .nil) .nil) (.cons (.ret (.and (.bi .isTuple (.cons (.ix (.var 0) (.con (.int 1))) .nil)) (.and (.cmp .le (.bi .len (.cons (.ix (.var 0) (.con (.int 1))) .nil)) (.con (.int 6))) (.all [1] (.nm 1) (.seq (.ix (.var 0) (.con (.int 1)))) .none (.call "is_word" (.lend (.var 1) .nil) []))))) .nil))
def b_is_fact : Ss := (.cons (.ret (.and (.call "is_atom" (.lend (.var 0) .nil) []) (.not (.any [1] (.nm 1) (.seq (.ix (.var 0) (.con (.int 1)))) .none (.call "is_open" (.lend (.var 1) .nil) []))))) .nil)
def b_check_facts : Ss := (.cons (.for_ (.nm 1) (.seq (.var 0)) (.cons (.ite (.not (.call "is_fact" (.lend (.var 1) .nil) [])) (.cons (.raise "BadFact" .nil) .nil) .nil) .nil)) .nil)
def b_open_words : Ss := (.cons (.asg (.nm 1) (.lst .nil)) (.cons (.for_ (.nm 2) (.seq (.ix (.var 0) (.con (.int 1)))) (.cons (.ite (.and (.call "is_open" (.lend (.var 2) .nil) []) (.cmp .nmem (.var 2) (.var 1))) (.cons (.app 1 .append (.var 2)) .nil) .nil) .nil)) (.cons (.ret (.bi .tuple (.cons (.var 1) .nil))) .nil)))
def b_filled : Ss := (.cons (.ret (.tup (.cons (.ix (.var 0) (.con (.int 0))) (.cons (.bi .tuple (.cons (.lc [2] (.nm 2) (.seq (.ix (.var 0) (.con (.int 1)))) .none (.mth .get (.var 1) (.cons (.var 2) (.cons (.var 2) .nil)))) .nil)) .nil)))) .nil)
def b_matched : Ss := (.cons (.ite (.or (.cmp .ne (.ix (.var 0) (.con (.int 0))) (.ix (.var 1) (.con (.int 0)))) (.cmp .ne (.bi .len (.cons (.ix (.var 0) (.con (.int 1))) .nil)) (.bi .len (.cons (.ix (.var 1) (.con (.int 1))) .nil)))) (.cons (.ret (.con .non)) .nil) .nil) (.cons (.asg (.nm 3) (.bi .dict (.cons (.var 2) .nil))) (.cons (.for_ (.tup [(.nm 4), (.nm 5)]) (.zip (.ix (.var 0) (.con (.int 1))) (.ix (.var 1) (.con (.int 1)))) (.cons (.ite (.call "is_open" (.lend (.var 4) .nil) []) (.cons (.ite (.cmp .ne (.mth .get (.var 3) (.cons (.var 4) (.cons (.var 5) .nil))) (.var 5)) (.cons (.ret (.con .non)) .nil) .nil) (.cons (.sput 3 (.var 4) (.var 5)) .nil)) (.cons (.ite (.cmp .ne (.var 4) (.var 5)) (.cons (.ret (.con .non)) .nil) .nil) .nil)) .nil)) (.cons (.ret (.var 3)) .nil))))
def b_last_word : Ss := (.cons (.whl (.cmp .mem (.var 1) (.var 0)) (.cons (.asg (.nm 1) (.ix (.var 0) (.var 1))) .nil)) (.cons (.ret (.var 1)) .nil))
def b_made_one : Ss := (.cons (.ite (.or (.cmp .ne (.ix (.var 0) (.con (.int 0))) (.ix (.var 1) (.con (.int 0)))) (.cmp .ne (.bi .len (.cons (.ix (.var 0) (.con (.int 1))) .nil)) (.bi .len (.cons (.ix (.var 1) (.con (.int 1))) .nil)))) (.cons (.ret (.con .non)) .nil) .nil) (.cons (.asg (.nm 2) (.dct .nil)) (.cons (.for_ (.tup [(.nm 3), (.nm 4)]) (.zip (.ix (.var 0) (.con (.int 1))) (.ix (.var 1) (.con (.int 1)))) (.cons (.asg2 (.nm 5) (.nm 6) (.call "last_word" (.lend (.var 2) (.lend (.var 3) .nil)) []) (.call "last_word" (.lend (.var 2) (.lend (.var 4) .nil)) [])) (.cons (.ite (.cmp .eq (.var 5) (.var 6)) (.cons .cnt .nil) .nil) (.cons (.ite (.call "is_open" (.lend (.var 5) .nil) []) (.cons (.sput 2 (.var 5) (.var 6)) .nil) (.cons (.ite (.call "is_open" (.lend (.var 6) .nil) []) (.cons (.sput 2 (.var 6) (.var 5)) .nil) (.cons (.ret (.con .non)) .nil)) .nil)) .nil)))) (.cons (.ret (.dc [7] (.nm 7) (.seq (.var 2)) .none (.var 7) (.call "last_word" (.lend (.var 2) (.lend (.var 7) .nil)) []))) .nil))))
def b_renamed : Ss := (.cons (.ret (.tup (.cons (.ix (.var 0) (.con (.int 0))) (.cons (.bi .tuple (.cons (.lc [2] (.nm 2) (.seq (.ix (.var 0) (.con (.int 1)))) .none (.ite (.call "is_open" (.lend (.var 2) .nil) []) (.bin .add (.var 2) (.var 1)) (.var 2))) .nil)) .nil)))) .nil)
def b_canonical : Ss := (.cons (.asg (.nm 1) (.dc [2, 3] (.tup [(.nm 2), (.nm 3)]) (.enum (.call "open_words" (.lend (.var 0) .nil) [])) .none (.var 3) (.ix (.glob "GREAT" v_GREAT) (.var 2)))) (.cons (.ret (.call "filled" (.lend (.var 0) (.lend (.var 1) .nil)) [])) .nil))
def b_is_wider : Ss := (.cons (.asg (.nm 2) (.dct .nil)) (.cons (.ite (.or (.cmp .ne (.ix (.var 0) (.con (.int 0))) (.ix (.var 1) (.con (.int 0)))) (.cmp .ne (.bi .len (.cons (.ix (.var 0) (.con (.int 1))) .nil)) (.bi .len (.cons (.ix (.var 1) (.con (.int 1))) .nil)))) (.cons (.ret (.con (.bool false))) .nil) .nil) (.cons (.for_ (.tup [(.nm 3), (.nm 4)]) (.zip (.ix (.var 0) (.con (.int 1))) (.ix (.var 1) (.con (.int 1)))) (.cons (.ite (.call "is_open" (.lend (.var 3) .nil) []) (.cons (.ite (.cmp .ne (.mth .get (.var 2) (.cons (.var 3) (.cons (.var 4) .nil))) (.var 4)) (.cons (.ret (.con (.bool false))) .nil) .nil) (.cons (.sput 2 (.var 3) (.var 4)) .nil)) (.cons (.ite (.cmp .ne (.var 3) (.var 4)) (.cons (.ret (.con (.bool false))) .nil) .nil) .nil)) .nil)) (.cons (.ret (.con (.bool true))) .nil))))
def b_told : Ss := (.cons (.ret (.bin .add (.ix (.var 0) (.con (.int 0))) (.ite (.cmp .ne (.ix (.var 0) (.con (.int 1))) (.tup .nil)) (.bin .add (.bin .add (.con (.str ['('])) (.mth .join (.con (.str [','])) (.cons (.ix (.var 0) (.con (.int 1))) .nil))) (.con (.str [')']))) (.con (.str []))))) .nil)
def b_read_at : Ss := (.cons (.asg (.tup [(.nm 2), (.nm 3)]) (.call "word_at" (.lend (.var 0) (.lend (.var 1) .nil)) [])) (.cons (.ite (.not (.call "is_name" (.lend (.var 2) .nil) [])) (.cons (.ret (.tup (.cons (.con .non) (.cons (.var 1) .nil)))) .nil) .nil) (.cons (.ite (.cmp .ne (.sl (.var 0) (.some (.var 3)) (.some (.bin .add (.var 3) (.con (.int 1))))) (.con (.str ['(']))) (.cons (.ret (.tup (.cons (.tup (.cons (.var 2) (.cons (.tup .nil) .nil))) (.cons (.var 3) .nil)))) .nil) .nil) (.cons (.asg (.nm 4) (.lst .nil)) (.cons (.whl (.con (.bool true)) (.cons (.asg (.tup [(.nm 5), (.nm 3)]) (.call "word_at" (.lend (.var 0) (.lend (.bin .add (.var 3) (.con (.int 1))) .nil)) [])) (.cons (.ite (.cmp .eq (.var 5) (.con (.str []))) (.cons (.ret (.tup (.cons (.con .non) (.cons (.var 1) .nil)))) .nil) .nil) (.cons (.app 4 .append (.var 5)) (.cons (.ite (.cmp .eq (.sl (.var 0) (.some (.var 3)) (.some (.bin .add (.var 3) (.con (.int 1))))) (.con (.str [')']))) (.cons (.asg (.nm 6) (.tup (.cons (.var 2) (.cons (.bi .tuple (.cons (.var 4) .nil)) .nil)))) (.cons (.ret (.ite (.call "is_atom" (.lend (.var 6) .nil) []) (.tup (.cons (.var 6) (.cons (.bin .add (.var 3) (.con (.int 1))) .nil))) (.tup (.cons (.con .non) (.cons (.var 1) .nil))))) .nil)) .nil) (.cons (.ite (.cmp .ne (.sl (.var 0) (.some (.var 3)) (.some (.bin .add (.var 3) (.con (.int 1))))) (.con (.str [',']))) (.cons (.ret (.tup (.cons (.con .non) (.cons (.var 1) .nil)))) .nil) .nil) .nil)))))) .nil)))))
def b_word_at : Ss := (.cons (.asg (.nm 2) (.var 1)) (.cons (.whl (.and (.cmp .lt (.var 2) (.bi .len (.cons (.var 0) .nil))) (.cmp .mem (.ix (.var 0) (.var 2)) (.bin .add (.bin .add (.glob "SMALL" v_SMALL) (.glob "GREAT" v_GREAT)) (.glob "FIGURES" v_FIGURES)))) (.cons (.aug 2 .add (.con (.int 1))) .nil)) (.cons (.ret (.tup (.cons (.sl (.var 0) (.some (.var 1)) (.some (.var 2))) (.cons (.var 2) .nil)))) .nil)))
def b__law_dice : Ss := (.cons (.ite (.chn .lt .lt (.bin .sub (.con (.int 0)) (.con (.int 10))) (.var 0) (.con (.int 10))) (.cons (.ret (.lst (.cons (.bi .abs (.cons (.var 0) .nil)) (.cons (.con (.int 0)) (.cons (.con (.int 2)) .nil))))) .nil) .nil) (.cons (.ret (.lst (.cons (.var 0) (.cons (.bin .add (.con (.int 1)) (.bin .mod (.bi .int (.cons (.var 0) .nil)) (.con (.int 1009)))) (.cons (.bi .int (.cons (.cmp .ge (.var 0) (.bin .pow (.con (.int 10)) (.con (.int 18)))) .nil)) .nil))))) .nil))
def b__law_roll : Ss := (.cons (.ite (.or (.cmp .eq (.ix (.var 0) (.con (.int 2))) (.con (.int 2))) (.and (.cmp .eq (.ix (.var 0) (.con (.int 2))) (.con (.int 1))) (.cmp .gt (.ix (.var 0) (.con (.int 0))) (.con (.int 0))))) (.cons (.asg (.nm 2) (.bin .mod (.bi .int (.cons (.ix (.var 0) (.con (.int 0))) .nil)) (.var 1))) (.cons (.put (.var 0) (.con (.int 0)) (.bin .fdiv (.ix (.var 0) (.con (.int 0))) (.var 1))) (.cons (.ret (.var 2)) .nil))) .nil) (.cons (.put (.var 0) (.con (.int 2)) (.con (.int 0))) (.cons (.put (.var 0) (.con (.int 0)) (.bin .mod (.bi .int (.cons (.bin .add (.bin .add (.bin .mul (.ix (.var 0) (.con (.int 0))) (.con (.int 48271))) (.bin .mul (.ix (.var 0) (.con (.int 1))) (.con (.int 69621)))) (.con (.int 11))) .nil)) (.con (.int 2147483647)))) (.cons (.put (.var 0) (.con (.int 1)) (.bin .add (.ix (.var 0) (.con (.int 1))) (.con (.int 1)))) (.cons (.ret (.bin .mod (.bi .int (.cons (.bin .add (.bin .fdiv (.ix (.var 0) (.con (.int 0))) (.con (.int 7))) (.ix (.var 0) (.con (.int 0)))) .nil)) (.var 1))) .nil)))))
def b__law_rounds : Ss := (.cons (.asg (.nm 2) (.sl (.var 0) .none (.some (.var 1)))) (.cons (.ite (.cmp .eq (.var 2) (.lst .nil)) (.cons (.asg (.nm 2) (.lst (.cons (.con (.int 0)) .nil))) .nil) .nil) (.cons (.ret (.lc [3] (.nm 3) (.seq (.var 2)) .none (.call "_law_dice" (.lend (.var 3) .nil) []))) .nil)))
def b__law_refused : Ss := (.cons (.tryR (.cons (.exp (.call "check_facts" (.lend (.var 0) .nil) [])) .nil) "BadFact" ["BadFact"] [] (.bool true)) (.cons (.ret (.con (.bool false))) .nil))
def b__law_atom : Ss := (.cons (.ret (.tup (.cons (.ix (.lst (.cons (.con (.str ['p'])) (.cons (.con (.str ['q'])) .nil))) (.bi .int (.cons (.cmp .eq (.call "_law_roll" (.lend (.var 0) (.lend (.con (.int 5)) .nil)) []) (.con (.int 0))) .nil))) (.cons (.bi .tuple (.cons (.lc [2] (.nm 2) (.rng (.call "_law_roll" (.lend (.var 0) (.lend (.con (.int 5)) .nil)) [])) .none (.ix (.var 1) (.call "_law_roll" (.lend (.var 0) (.lend (.bi .len (.cons (.var 1) .nil)) .nil)) []))) .nil)) .nil)))) .nil)
def b__law_tables : Ss := (.cons (.asg (.nm 2) (.lst (.cons (.dct .nil) .nil))) (.cons (.for_ (.nm 3) (.seq (.var 0)) (.cons (.asg (.nm 4) (.lst .nil)) (.cons (.for_ (.nm 5) (.seq (.var 2)) (.cons (.for_ (.nm 6) (.seq (.var 1)) (.cons (.asg (.nm 7) (.bi .dict (.cons (.var 5) .nil))) (.cons (.sput 7 (.var 3) (.var 6)) (.cons (.prom 7) (.cons (.app 4 .append (.var 7)) .nil))))) .nil)) (.cons (.move 2 4) .nil)))) (.cons (.ret (.var 2)) .nil)))
def b__law_rest : Ss := (.cons (.asg (.nm 4) (.lc [5] (.nm 5) (.seq (.call "_law_tables" (.lend (.var 3) (.lend (.lst (.cons (.con (.str ['a'])) (.cons (.con (.str ['b'])) (.cons (.con (.str ['X'])) (.cons (.con (.str ['Y'])) .nil))))) .nil)) [])) (.some (.cmp .eq (.call "filled" (.lend (.var 0) (.lend (.var 5) .nil)) []) (.var 1))) (.var 5))) (.cons (.ite (.cmp .ne (.call "is_wider" (.lend (.var 0) (.lend (.var 1) .nil)) []) (.cmp .ne (.var 4) (.lst .nil))) (.cons (.ret (.con (.bool false))) .nil) .nil) (.cons (.ite (.or (.cmp .ne (.call "canonical" (.lend (.call "renamed" (.lend (.var 0) (.lend (.con (.str ['z', '9'])) .nil)) []) .nil) []) (.call "canonical" (.lend (.var 0) .nil) [])) (.not (.call "is_wider" (.lend (.var 0) (.lend (.call "canonical" (.lend (.var 0) .nil) []) .nil)) []))) (.cons (.ret (.con (.bool false))) .nil) .nil) (.cons (.ite (.not (.call "is_wider" (.lend (.call "canonical" (.lend (.var 0) .nil) []) (.lend (.var 0) .nil)) [])) (.cons (.ret (.con (.bool false))) .nil) .nil) (.cons (.asg (.nm 6) (.call "told" (.lend (.var 0) .nil) [])) (.cons (.ite (.or (.cmp .ne (.call "read_at" (.lend (.bin .add (.var 6) (.con (.str ['.']))) (.lend (.con (.int 0)) .nil)) []) (.tup (.cons (.var 0) (.cons (.bi .len (.cons (.var 6) .nil)) .nil)))) (.or (.not (.call "is_atom" (.lend (.var 0) .nil) [])) (.cmp .ne (.call "is_fact" (.lend (.var 0) .nil) []) (.cmp .eq (.var 3) (.lst .nil))))) (.cons (.ret (.con (.bool false))) .nil) .nil) (.cons (.ite (.call "_law_refused" (.lend (.tup (.cons (.var 2) .nil)) .nil) []) (.cons (.ret (.con (.bool false))) .nil) .nil) (.cons (.ret (.con (.bool true))) .nil))))))))
def b_law : Ss := (.cons (.for_ (.nm 1) (.seq (.call "_law_rounds" (.lend (.var 0) (.lend (.con (.int 4)) .nil)) [])) (.cons (.asg (.tup [(.nm 10), (.nm 11), (.nm 12)]) (.tup (.cons (.call "_law_atom" (.lend (.var 1) (.lend (.lst (.cons (.con (.str ['X'])) (.cons (.con (.str ['Y'])) (.cons (.con (.str ['a'])) (.cons (.con (.str ['b'])) .nil))))) .nil)) []) (.cons (.call "_law_atom" (.lend (.var 1) (.lend (.lst (.cons (.con (.str ['a'])) (.cons (.con (.str ['b'])) .nil))) .nil)) []) (.cons (.call "_law_atom" (.lend (.var 1) (.lend (.lst (.cons (.con (.str ['X'])) (.cons (.con (.str ['Y'])) (.cons (.con (.str ['a'])) (.cons (.con (.str ['b'])) .nil))))) .nil)) []) .nil))))) (.cons (.asgT2 13 14 (.bi .list (.cons (.call "open_words" (.lend (.var 10) .nil) []) .nil)) (.dct .nil)) (.cons (.asg (.nm 2) (.lc [16] (.nm 16) (.seq (.ix (.var 10) (.con (.int 1)))) (.some (.cmp .mem (.var 16) (.lst (.cons (.con (.str ['X'])) (.cons (.con (.str ['Y'])) .nil))))) (.var 16))) (.cons (.ite (.cmp .ne (.var 13) (.lc [17] (.nm 17) (.rng (.bi .len (.cons (.var 2) .nil))) (.some (.cmp .nmem (.ix (.var 2) (.var 17)) (.sl (.var 2) .none (.some (.var 17))))) (.ix (.var 2) (.var 17)))) (.cons (.ret (.con (.bool false))) .nil) .nil) (.cons (.ite (.cmp .eq (.call "_law_roll" (.lend (.var 1) (.lend (.con (.int 2)) .nil)) []) (.con (.int 0))) (.cons (.asg (.nm 14) (.dct (.cons (.con (.str ['X'])) (.cons (.ix (.con (.str ['a', 'b'])) (.call "_law_roll" (.lend (.var 1) (.lend (.con (.int 2)) .nil)) [])) .nil)))) .nil) .nil) (.cons (.asg (.nm 3) (.lc [6] (.nm 6) (.seq (.call "_law_tables" (.lend (.var 13) (.lend (.lst (.cons (.con (.str ['a'])) (.cons (.con (.str ['b'])) .nil))) .nil)) [])) (.some (.cmp .eq (.call "filled" (.lend (.var 10) (.lend (.var 6) .nil)) []) (.var 11))) (.var 6))) (.cons (.asg (.nm 3) (.lc [6] (.nm 6) (.seq (.var 3)) (.some (.cmp .eq (.lc [16] (.nm 16) (.seq (.var 14)) (.some (.cmp .ne (.mth .get (.var 6) (.cons (.var 16) (.cons (.ix (.var 14) (.var 16)) .nil))) (.ix (.var 14) (.var 16)))) (.var 16)) (.lst .nil))) (.var 6))) (.cons (.asg (.nm 4) (.call "matched" (.lend (.var 10) (.lend (.var 11) (.lend (.var 14) .nil))) [])) (.cons (.ite (.cmp .ne (.cmp .isN (.var 4) (.con .non)) (.cmp .eq (.var 3) (.lst .nil))) (.cons (.ret (.con (.bool false))) .nil) .nil) (.cons (.ite (.cmp .notN (.var 4) (.con .non)) (.cons (.asg (.nm 15) (.bi .dict (.cons (.var 14) .nil))) (.cons (.upd 15 (.ix (.var 3) (.con (.int 0)))) (.cons (.ite (.or (.cmp .ne (.var 4) (.var 15)) (.cmp .ne (.bi .len (.cons (.var 3) .nil)) (.con (.int 1)))) (.cons (.ret (.con (.bool false))) .nil) .nil) .nil))) .nil) (.cons (.asg (.nm 5) (.call "renamed" (.lend (.var 12) (.lend (.con (.str ['q'])) .nil)) [])) (.cons (.asg (.nm 6) (.call "made_one" (.lend (.var 10) (.lend (.var 5) .nil)) [])) (.cons (.asg (.nm 7) (.bin .add (.bi .list (.cons (.call "open_words" (.lend (.var 10) .nil) []) .nil)) (.bi .list (.cons (.call "open_words" (.lend (.var 5) .nil) []) .nil)))) (.cons (.asg (.nm 8) (.lc [4] (.nm 4) (.seq (.call "_law_tables" (.lend (.var 7) (.lend (.lst (.cons (.con (.str ['a'])) (.cons (.con (.str ['b'])) (.cons (.con (.str ['c'])) .nil)))) .nil)) [])) (.some (.cmp .eq (.call "filled" (.lend (.var 10) (.lend (.var 4) .nil)) []) (.call "filled" (.lend (.var 5) (.lend (.var 4) .nil)) []))) (.var 4))) (.cons (.ite (.cmp .ne (.cmp .isN (.var 6) (.con .non)) (.cmp .eq (.var 8) (.lst .nil))) (.cons (.ret (.con (.bool false))) .nil) .nil) (.cons (.ite (.cmp .notN (.var 6) (.con .non)) (.cons (.asg (.nm 15) (.call "filled" (.lend (.var 10) (.lend (.var 6) .nil)) [])) (.cons (.ite (.cmp .ne (.call "filled" (.lend (.var 5) (.lend (.var 6) .nil)) []) (.var 15)) (.cons (.ret (.con (.bool false))) .nil) .nil) (.cons (.ite (.cmp .ne (.lc [4] (.nm 4) (.seq (.var 8)) (.some (.not (.call "is_wider" (.lend (.var 15) (.lend (.call "filled" (.lend (.var 10) (.lend (.var 4) .nil)) []) .nil)) []))) (.var 4)) (.lst .nil)) (.cons (.ret (.con (.bool false))) .nil) .nil) .nil))) .nil) (.cons (.ite (.not (.call "_law_rest" (.lend (.var 10) (.lend (.var 12) (.lend (.var 11) (.lend (.var 13) .nil)))) [])) (.cons (.ret (.con (.bool false))) .nil) .nil) (.cons (.for_ (.nm 9) (.seq (.lst (.cons (.tup (.cons (.con (.str ['P'])) (.cons (.tup .nil) .nil))) (.cons (.tup (.cons (.con (.str ['p'])) (.cons (.tup (.cons (.con (.str [])) .nil)) .nil))) (.cons (.tup (.cons (.con (.str ['p'])) (.cons (.tup (.cons (.con (.str ['a', ' ', 'b'])) .nil)) .nil))) (.cons (.tup (.cons (.con (.str ['p'])) (.cons (.con (.str ['a', 'b'])) .nil))) (.cons (.con .non) (.cons (.tup (.cons (.con (.str ['1', 'p'])) (.cons (.tup .nil) .nil))) (.cons (.tup (.cons (.con (.str ['p'])) (.cons (.tup (.cons (.con (.str ['X'])) .nil)) .nil))) .nil))))))))) (.cons (.ite (.or (.call "is_fact" (.lend (.var 9) .nil) []) (.not (.call "_law_refused" (.lend (.tup (.cons (.var 9) .nil)) .nil) []))) (.cons (.ret (.con (.bool false))) .nil) .nil) .nil)) .nil))))))))))))))))))) (.cons (.ret (.and (.call "is_name" (.lend (.con (.str ['a', 'b', '1'])) .nil) []) (.and (.not (.call "is_name" (.lend (.con (.str ['1'])) .nil) [])) (.and (.cmp .isN (.ix (.call "read_at" (.lend (.con (.str ['p', '(', 'a'])) (.lend (.con (.int 0)) .nil)) []) (.con (.int 0))) (.con .non)) (.cmp .isN (.ix (.call "read_at" (.lend (.con (.str ['p', '(', ')'])) (.lend (.con (.int 0)) .nil)) []) (.con (.int 0))) (.con .non)))))) .nil))
def L : List Fe := [
  ⟨"is_word", 1, ["thing", "sign"], b_is_word⟩,
  ⟨"is_open", 1, ["word"], b_is_open⟩,
  ⟨"is_name", 1, ["thing"], b_is_name⟩,
  ⟨"is_atom", 1, ["thing", "word"], b_is_atom⟩,
  ⟨"is_fact", 1, ["thing", "word"], b_is_fact⟩,
  ⟨"check_facts", 1, ["row", "fact"], b_check_facts⟩,
  ⟨"open_words", 1, ["atom", "found", "word"], b_open_words⟩,
  ⟨"filled", 2, ["atom", "table", "word"], b_filled⟩,
  ⟨"matched", 3, ["atom", "fact", "table", "found", "word", "other"], b_matched⟩,
  ⟨"last_word", 2, ["table", "word"], b_last_word⟩,
  ⟨"made_one", 2, ["one", "other", "table", "first", "second", "a", "b", "word"], b_made_one⟩,
  ⟨"renamed", 2, ["atom", "mark", "word"], b_renamed⟩,
  ⟨"canonical", 1, ["atom", "names", "k", "word"], b_canonical⟩,
  ⟨"is_wider", 2, ["one", "other", "table", "word", "goal"], b_is_wider⟩,
  ⟨"told", 1, ["atom"], b_told⟩,
  ⟨"read_at", 2, ["text", "at", "name", "here", "words", "word", "found"], b_read_at⟩,
  ⟨"word_at", 2, ["text", "at", "here"], b_word_at⟩,
  ⟨"_law_dice", 1, ["cell"], b__law_dice⟩,
  ⟨"_law_roll", 2, ["dice", "many", "found"], b__law_roll⟩,
  ⟨"_law_rounds", 2, ["script", "most", "cells", "cell"], b__law_rounds⟩,
  ⟨"_law_refused", 1, ["row", "e"], b__law_refused⟩,
  ⟨"_law_atom", 2, ["dice", "words", "k"], b__law_atom⟩,
  ⟨"_law_tables", 2, ["words", "goals", "found", "word", "longer", "table", "goal", "more"], b__law_tables⟩,
  ⟨"_law_rest", 4, ["atom", "other", "fact", "words", "ways", "table", "text"], b__law_rest⟩,
  ⟨"law", 1, ["script", "dice", "given", "good", "table", "apart", "one", "names", "same", "bad", "atom", "fact", "other", "words", "start", "both", "word", "k"], b_law⟩
]
def G : Gx := ⟨["ValueError", "abs", "all", "any", "dict", "enumerate", "int", "isinstance", "len", "list", "range", "str", "tuple", "zip"], [("FIGURES", ['0', '1', '2', '3', '4', '5', '6', '7', '8', '9']), ("GREAT", ['A', 'B', 'C', 'D', 'E', 'F', 'G', 'H', 'I', 'J', 'K', 'L', 'M', 'N', 'O', 'P', 'Q', 'R', 'S', 'T', 'U', 'V', 'W', 'X', 'Y', 'Z']), ("SMALL", ['a', 'b', 'c', 'd', 'e', 'f', 'g', 'h', 'i', 'j', 'k', 'l', 'm', 'n', 'o', 'p', 'q', 'r', 's', 't', 'u', 'v', 'w', 'x', 'y', 'z'])], [("is_word", 1, []), ("is_open", 1, []), ("is_name", 1, []), ("is_atom", 1, []), ("is_fact", 1, []), ("check_facts", 1, []), ("open_words", 1, []), ("filled", 2, []), ("matched", 3, []), ("last_word", 2, []), ("made_one", 2, []), ("renamed", 2, []), ("canonical", 1, []), ("is_wider", 2, []), ("told", 1, []), ("read_at", 2, []), ("word_at", 2, []), ("_law_dice", 1, []), ("_law_roll", 2, []), ("_law_rounds", 2, []), ("_law_refused", 1, []), ("_law_atom", 2, []), ("_law_tables", 2, []), ("_law_rest", 4, []), ("law", 1, [])], ["BadFact", "BaseFault"], [("BadFact", "BadFact", true)], [("BadFact", "BaseFault", true), ("BadFact", "ValueError", true)]⟩
def tfN : List String := ["is_word", "is_atom", "is_fact"]
end K01


set_option Elab.async false
set_option linter.all false
set_option maxRecDepth 100000
set_option maxHeartbeats 1000000
/-! M1: running defs: rules for simp. -/
namespace D
open L2
def Res.bnd {α β : Type} : Res α → (α → Store → Res β) → Res β
  | .ok a st, f => f a st
  | .exc c p st, _ => .exc c p st
  | .stuck, _ => .stuck
@[simp] theorem bnd_ok {α β : Type} (a : α) (st : Store) (f : α → Store → Res β) : (Res.ok a st).bnd f = f a st := rfl
@[simp] theorem bnd_exc {α β : Type} (c : String) (p : List Val) (st : Store) (f : α → Store → Res β) : (Res.exc c p st : Res α).bnd f = .exc c p st := rfl
@[simp] theorem bnd_stuck {α β : Type} (f : α → Store → Res β) : (Res.stuck : Res α).bnd f = .stuck := rfl
@[simp] theorem x_bind {α β : Type} (m : M α) (f : α → M β) (st : Store) : (m >>= f) st = (m st).bnd fun a s => f a s := by
  rw [M.bind_eq]; cases m st <;> rfl
@[simp] theorem x_pure {α : Type} (a : α) (st : Store) : (M.pure a : M α) st = .ok a st := rfl
@[simp] theorem x_stuck {α : Type} (st : Store) : (M.stuck : M α) st = .stuck := rfl
@[simp] theorem x_ite {α : Type} (c : Prop) [Decidable c] (a b : M α) (st : Store) : (if c then a else b) st = if c then a st else b st := by split <;> rfl
@[simp] theorem x_iteS (c : Prop) [Decidable c] (a b : Store → SRes) (st : Store) : (if c then a else b) st = if c then a st else b st := by split <;> rfl
def Res.toR {α : Type} (ρ : Sl) : Res α → (α → Store → SRes) → SRes
  | .ok a st, k => k a st
  | .exc c p st, _ => .ex c p ρ st
  | .stuck, _ => .stuck
@[simp] theorem toR_ok {α : Type} (ρ : Sl) (a : α) (st : Store) (k : α → Store → SRes) : (Res.ok a st).toR ρ k = k a st := rfl
@[simp] theorem toR_exc {α : Type} (ρ : Sl) (c : String) (p : List Val) (st : Store) (k : α → Store → SRes) : (Res.exc c p st : Res α).toR ρ k = .ex c p ρ st := rfl
@[simp] theorem toR_stuck {α : Type} (ρ : Sl) (k : α → Store → SRes) : (Res.stuck : Res α).toR ρ k = .stuck := rfl
@[simp] theorem x_toS {α : Type} (m : M α) (ρ : Sl) (k : α → Store → SRes) (st : Store) : toS m ρ k st = (m st).toR ρ k := by
  unfold toS; cases m st <;> rfl
def SRes.sq (b : Sl → Store → SRes) : SRes → SRes
  | .nx ρ st => b ρ st
  | r => r
@[simp] theorem sq_nx (b : Sl → Store → SRes) (ρ : Sl) (st : Store) : (SRes.nx ρ st).sq b = b ρ st := rfl
@[simp] theorem sq_rt (b : Sl → Store → SRes) (x : EV) (st : Store) : (SRes.rt x st).sq b = .rt x st := rfl
@[simp] theorem sq_bk (b : Sl → Store → SRes) (ρ : Sl) (st : Store) : (SRes.bk ρ st).sq b = .bk ρ st := rfl
@[simp] theorem sq_ct (b : Sl → Store → SRes) (ρ : Sl) (st : Store) : (SRes.ct ρ st).sq b = .ct ρ st := rfl
@[simp] theorem sq_ex (b : Sl → Store → SRes) (c : String) (p : List Val) (ρ : Sl) (st : Store) : (SRes.ex c p ρ st).sq b = .ex c p ρ st := rfl
@[simp] theorem sq_ite (b : Sl → Store → SRes) (c : Prop) [Decidable c] (x y : SRes) : (if c then x else y).sq b = if c then x.sq b else y.sq b := by split <;> rfl
@[simp] theorem resOf_ite (c : Prop) [Decidable c] (x y : SRes) : resOf (if c then x else y) = if c then resOf x else resOf y := by split <;> rfl
@[simp] theorem resOf_rt (x : EV) (st : Store) : resOf (.rt x st) = .ok x st := rfl
@[simp] theorem resOf_nx (ρ : Sl) (st : Store) : resOf (.nx ρ st) = .ok (.v .non) st := rfl
@[simp] theorem resOf_ex (c : String) (p : List Val) (ρ : Sl) (st : Store) : resOf (.ex c p ρ st) = .exc c p st := rfl
@[simp] theorem gc_ok1 (st : Store) (x : EV) : gc st (.ok x st) = .ok x st := by simp [gc]
@[simp] theorem gc_exc1 (st : Store) (c : String) (p : List Val) : gc st (.exc c p st) = .exc c p st := by simp [gc]
@[simp] theorem gc_ite (st : Store) (c : Prop) [Decidable c] (x y : Res EV) : gc st (if c then x else y) = if c then gc st x else gc st y := by split <;> rfl
@[simp] theorem bnd_ite {α β : Type} (c : Prop) [Decidable c] (x y : Res α) (f : α → Store → Res β) : (if c then x else y).bnd f = if c then x.bnd f else y.bnd f := by split <;> rfl
@[simp] theorem toR_ite {α : Type} (ρ : Sl) (c : Prop) [Decidable c] (x y : Res α) (f : α → Store → SRes) : (if c then x else y).toR ρ f = if c then x.toR ρ f else y.toR ρ f := by split <;> rfl
section
variable (Γ : Calls) (ρ : Sl) (st : Store)
/-- what stands in a slot -/
def slE (i : Nat) : Option (Option SV) → Res EV
  | some (some (.v v)) => .ok (.v v) st
  | some (some (.t c _)) => .ok (.b i c) st
  | _ => .stuck
@[simp] theorem slE_v (i : Nat) (v : Val) : slE st i (some (some (.v v))) = .ok (.v v) st := rfl
@[simp] theorem slE_t (i : Nat) (c : Cell) (k : Bool) : slE st i (some (some (.t c k))) = .ok (.b i c) st := rfl
@[simp] theorem x_var (i : Nat) : evalE Γ (.var i) ρ st = slE st i ρ[i]? := by
  simp only [evalE]
  cases e : ρ[i]? with
  | none => rfl
  | some o => cases o with
    | none => rfl
    | some x => cases x <;> rfl
@[simp] theorem x_con (v : Val) : evalE Γ (.con v) ρ st = .ok (.v v) st := by simp only [evalE]; rfl
@[simp] theorem x_glob (g : String) (v : Val) : evalE Γ (.glob g v) ρ st = .ok (.v v) st := by simp only [evalE]; rfl
@[simp] theorem x_tup (es : Es) : evalE Γ (.tup es) ρ st = (evalEs Γ es ρ st).bnd fun vs s => .ok (.v (.tup vs)) s := by simp only [evalE, x_bind, x_pure]
@[simp] theorem x_lst (es : Es) : evalE Γ (.lst es) ρ st = (evalEs Γ es ρ st).bnd fun vs s => .ok (.t (.lst vs)) s := by simp only [evalE, x_bind, x_pure]
@[simp] theorem x_dct (es : Es) : evalE Γ (.dct es) ρ st = (evalKV Γ es ρ st).bnd fun r s => finD r s := by simp only [evalE, x_bind]
@[simp] theorem x_bin (o : Bop) (a b : E) : evalE Γ (.bin o a b) ρ st = (evalE Γ a ρ st).bnd fun x s => (evalE Γ b ρ s).bnd fun y s => bop o x y s := by simp only [evalE, x_bind]
@[simp] theorem x_cmp (o : Cop) (a b : E) : evalE Γ (.cmp o a b) ρ st = (evalE Γ a ρ st).bnd fun x s => (evalE Γ b ρ s).bnd fun y s => (cop o x y s).bnd fun r s => .ok (.v (.bool r)) s := by simp only [evalE, x_bind, x_pure]
@[simp] theorem x_chn (o p : Cop) (a b c : E) : evalE Γ (.chn o p a b c) ρ st = (evalE Γ a ρ st).bnd fun x s => (evalE Γ b ρ s).bnd fun y s => (cop o x y s).bnd fun r s => if r then (evalE Γ c ρ s).bnd fun z s => (cop p y z s).bnd fun r s => .ok (.v (.bool r)) s else .ok (.v (.bool false)) s := by simp only [evalE, x_bind, x_pure, x_ite]
@[simp] theorem isB_b (b : Bool) : isB (.v (.bool b)) st = .ok b st := rfl
@[simp] theorem x_and (a b : E) : evalE Γ (.and a b) ρ st = (evalE Γ a ρ st).bnd fun x s => (isB x s).bnd fun p s => if p then (evalE Γ b ρ s).bnd fun y s => (isB y s).bnd fun q s => .ok (.v (.bool q)) s else .ok (.v (.bool false)) s := by simp only [evalE, x_bind, x_pure, x_ite]
@[simp] theorem x_or (a b : E) : evalE Γ (.or a b) ρ st = (evalE Γ a ρ st).bnd fun x s => (isB x s).bnd fun p s => if p then .ok (.v (.bool true)) s else (evalE Γ b ρ s).bnd fun y s => (isB y s).bnd fun q s => .ok (.v (.bool q)) s := by simp only [evalE, x_bind, x_pure, x_ite]
@[simp] theorem x_not (a : E) : evalE Γ (.not a) ρ st = (evalE Γ a ρ st).bnd fun x s => (isB x s).bnd fun p s => .ok (.v (.bool (!p))) s := by simp only [evalE, x_bind, x_pure]
@[simp] theorem x_iteE (c a b : E) : evalE Γ (.ite c a b) ρ st = (evalE Γ c ρ st).bnd fun x s => (isB x s).bnd fun p s => if p then evalE Γ a ρ s else evalE Γ b ρ s := by simp only [evalE, x_bind, x_ite]
@[simp] theorem x_ix (a b : E) : evalE Γ (.ix a b) ρ st = (evalE Γ a ρ st).bnd fun x s => (evalE Γ b ρ s).bnd fun y s => ixOp x y s := by simp only [evalE, x_bind]
@[simp] theorem x_sl (a : E) (lo hi : Oe) : evalE Γ (.sl a lo hi) ρ st = (evalE Γ a ρ st).bnd fun x s => (evalOi Γ lo ρ s).bnd fun l s => (evalOi Γ hi ρ s).bnd fun h s => slOpS Γ.scr x l h s := by simp only [evalE, x_bind]
@[simp] theorem x_call (f : String) (es : Es) (ds : List Val) : evalE Γ (.call f es ds) ρ st = (evalAs Γ es ρ st).bnd fun vs s => Γ.fn f (vs ++ ds.map .v) s := by simp only [evalE, x_bind]
@[simp] theorem x_bi (b : Bi) (es : Es) : evalE Γ (.bi b es) ρ st = (evalXs Γ es ρ st).bnd fun xs s => biOp b xs s := by simp only [evalE, x_bind]
@[simp] theorem x_mth (m : Mth) (o : E) (es : Es) : evalE Γ (.mth m o es) ρ st = (evalE Γ o ρ st).bnd fun x s => (mthPre m x s).bnd fun _ s => (evalXs Γ es ρ s).bnd fun xs s => mthOp m x xs s := by simp only [evalE, x_bind]
@[simp] theorem x_esNil : evalEs Γ .nil ρ st = .ok [] st := by simp only [evalEs, x_pure]
@[simp] theorem x_esCons (e : E) (es : Es) : evalEs Γ (.cons e es) ρ st = (evalE Γ e ρ st).bnd fun x s => (intern x s).bnd fun v s => (evalEs Γ es ρ s).bnd fun vs s => .ok (v :: vs) s := by simp only [evalEs, x_bind, x_pure]
@[simp] theorem x_asNil : evalAs Γ .nil ρ st = .ok [] st := by simp only [evalAs, x_pure]
@[simp] theorem x_asCons (e : E) (es : Es) : evalAs Γ (.cons e es) ρ st = (evalE Γ e ρ st).bnd fun x s => (argOf false x s).bnd fun v s => (evalAs Γ es ρ s).bnd fun vs s => .ok (v :: vs) s := by simp only [evalAs, x_bind, x_pure]
@[simp] theorem x_asLend (e : E) (es : Es) : evalAs Γ (.lend e es) ρ st = (evalE Γ e ρ st).bnd fun x s => (argOf true x s).bnd fun v s => (evalAs Γ es ρ s).bnd fun vs s => .ok (v :: vs) s := by simp only [evalAs, x_bind, x_pure]
@[simp] theorem x_xsNil : evalXs Γ .nil ρ st = .ok [] st := by simp only [evalXs, x_pure]
@[simp] theorem x_xsCons (e : E) (es : Es) : evalXs Γ (.cons e es) ρ st = (evalE Γ e ρ st).bnd fun x s => (evalXs Γ es ρ s).bnd fun vs s => .ok (x :: vs) s := by simp only [evalXs, x_bind, x_pure]
@[simp] theorem x_kvNil : evalKV Γ .nil ρ st = .ok [] st := by simp only [evalKV, x_pure]
@[simp] theorem x_kvCons (k e : E) (es : Es) : evalKV Γ (.cons k (.cons e es)) ρ st = (evalE Γ k ρ st).bnd fun x s => (intern x s).bnd fun xk s => (evalE Γ e ρ s).bnd fun y s => (intern y s).bnd fun v s => (evalKV Γ es ρ s).bnd fun r s => .ok ((xk, v) :: r) s := by simp only [evalKV, x_bind, x_pure]
@[simp] theorem x_oiNone : evalOi Γ .none ρ st = .ok none st := by simp only [evalOi, x_pure]
def oiK : EV → Store → Res (Option Int)
  | .v (.int i), s => .ok (some i) s
  | _, _ => .stuck
@[simp] theorem oiK_i (i : Int) : oiK (.v (.int i)) st = .ok (some i) st := rfl
@[simp] theorem x_oiSome (e : E) : evalOi Γ (.some e) ρ st = (evalE Γ e ρ st).bnd oiK := by
  simp only [evalOi, x_bind]
  congr 1
  funext x s
  cases x with
  | v y => cases y <;> rfl
  | _ => rfl
@[simp] theorem x_ocNone : evalOc Γ .none ρ st = .ok true st := by simp only [evalOc, x_pure]
@[simp] theorem x_ocSome (e : E) : evalOc Γ (.some e) ρ st = (evalE Γ e ρ st).bnd fun x s => isB x s := by simp only [evalOc, x_bind]
@[simp] theorem x_seq (e : E) : evalI Γ (.seq e) ρ st = (evalE Γ e ρ st).bnd fun x s => srcOf x s := by simp only [evalI, x_bind]
@[simp] theorem x_items (e : E) : evalI Γ (.items e) ρ st = (evalE Γ e ρ st).bnd fun x s => itemsOf x s := by simp only [evalI, x_bind]
@[simp] theorem x_enum (e : E) : evalI Γ (.enum e) ρ st = (evalE Γ e ρ st).bnd fun x s => enumOf x s := by simp only [evalI, x_bind]
@[simp] theorem x_zip (a b : E) : evalI Γ (.zip a b) ρ st = (evalE Γ a ρ st).bnd fun x s => (evalE Γ b ρ s).bnd fun y s => zipOf x y s := by simp only [evalI, x_bind]
@[simp] theorem x_rng (e : E) : evalI Γ (.rng e) ρ st = (evalE Γ e ρ st).bnd fun x s => rngOf x s := by simp only [evalI, x_bind]
theorem x_lc (own : List Nat) (t : T) (i : I) (c : Oe) (e : E) : evalE Γ (.lc own t i c e) ρ st = (evalI Γ i ρ st).bnd fun s s1 => (compL (fun st => s.gd.ok ρ st) (bodyM t own ρ (evalOc Γ c) (fun ρ2 => mkV (evalE Γ e ρ2)) (.pure none)) s.vals s1).bnd fun vs s2 => finL vs s2 := by simp only [evalE, x_bind]
theorem x_dc (own : List Nat) (t : T) (i : I) (c : Oe) (k e : E) : evalE Γ (.dc own t i c k e) ρ st = (evalI Γ i ρ st).bnd fun s s1 => (compL (fun st => s.gd.ok ρ st) (bodyM t own ρ (evalOc Γ c) (fun ρ2 => mkKV (evalE Γ k ρ2) (evalE Γ e ρ2)) (.pure none)) s.vals s1).bnd fun vs s2 => finD vs s2 := by simp only [evalE, x_bind]
theorem x_all (own : List Nat) (t : T) (i : I) (c : Oe) (e : E) : evalE Γ (.all own t i c e) ρ st = (evalI Γ i ρ st).bnd fun s s1 => (seekL (fun st => s.gd.ok ρ st) false (bodyM t own ρ (evalOc Γ c) (fun ρ2 => mkB (evalE Γ e ρ2)) (.pure none)) s.vals s1).bnd fun r s2 => .ok (.v (.bool r)) s2 := by simp only [evalE, x_bind, x_pure]
theorem x_any (own : List Nat) (t : T) (i : I) (c : Oe) (e : E) : evalE Γ (.any own t i c e) ρ st = (evalI Γ i ρ st).bnd fun s s1 => (seekL (fun st => s.gd.ok ρ st) true (bodyM t own ρ (evalOc Γ c) (fun ρ2 => mkB (evalE Γ e ρ2)) (.pure none)) s.vals s1).bnd fun r s2 => .ok (.v (.bool r)) s2 := by simp only [evalE, x_bind, x_pure]
/-! statements -/
@[simp] theorem x_ssNil : evalSs Γ .nil ρ st = .nx ρ st := by simp only [evalSs]
@[simp] theorem x_ssCons (s : S) (ss : Ss) : evalSs Γ (.cons s ss) ρ st = (evalS Γ s ρ st).sq fun ρ1 st1 => evalSs Γ ss ρ1 st1 := by
  simp only [evalSs]
  unfold seqS
  dsimp only
  cases evalS Γ s ρ st <;> rfl
@[simp] theorem x_asg (t : T) (e : E) : evalS Γ (.asg t e) ρ st = (evalE Γ e ρ st).toR ρ (asgK t ρ) := by simp only [evalS, x_toS]
@[simp] theorem x_asg2 (t1 t2 : T) (a b : E) : evalS Γ (.asg2 t1 t2 a b) ρ st = ((evalE Γ a ρ st).bnd fun x s => (evalE Γ b ρ s).bnd fun y s => .ok (x, y) s).toR ρ (asg2K t1 t2 ρ) := by simp only [evalS, x_toS, x_bind, x_pure]
@[simp] theorem x_asgT2 (i j : Nat) (a b : E) : evalS Γ (.asgT2 i j a b) ρ st = ((evalE Γ a ρ st).bnd fun x s => (evalE Γ b ρ s).bnd fun y s => .ok (x, y) s).toR ρ (asg2K (.nm i) (.nm j) ρ) := by simp only [evalS, x_toS, x_bind, x_pure]
@[simp] theorem x_put (o i e : E) : evalS Γ (.put o i e) ρ st = ((evalE Γ e ρ st).bnd fun y s => (intern y s).bnd fun v s => (evalE Γ o ρ s).bnd fun x s => (evalE Γ i ρ s).bnd fun k s => (intern k s).bnd fun kv s => .ok (v, x, kv) s).toR ρ (putKt ρ) := by simp only [evalS, x_toS, x_bind, x_pure]
@[simp] theorem x_sput (j : Nat) (i e : E) : evalS Γ (.sput j i e) ρ = sputS j (fun ρ => do let y ← evalE Γ e ρ; let v ← intern y; let k ← evalE Γ i ρ; let kv ← intern k; (.pure (v, kv) : M (Val × Val))) ρ := by simp only [evalS]
@[simp] theorem x_app (j : Nat) (m : Mth) (e : E) : evalS Γ (.app j m e) ρ st = appS j m (fun ρ => evalE Γ e ρ) ρ st := by simp only [evalS]
@[simp] theorem x_upd (j : Nat) (e : E) : evalS Γ (.upd j e) ρ st = updS j (fun ρ => evalE Γ e ρ) ρ st := by simp only [evalS]
@[simp] theorem x_aug (i : Nat) (o : Bop) (e : E) : evalS Γ (.aug i o e) ρ st = augS i o (fun ρ => evalE Γ e ρ) ρ st := by simp only [evalS]
@[simp] theorem x_iteS2 (c : E) (a b : Ss) : evalS Γ (.ite c a b) ρ st = ((evalE Γ c ρ st).bnd fun x s => isB x s).toR ρ fun p s => if p then evalSs Γ a ρ s else evalSs Γ b ρ s := by simp only [evalS, x_toS, x_bind]
theorem x_for (t : T) (i : I) (b : Ss) : evalS Γ (.for_ t i b) ρ st = (evalI Γ i ρ st).toR ρ fun s st => (forL s.gd (forB t fun ρ2 st2 => evalSs Γ b ρ2 st2) s.vals (lockS s.gd ρ) st).mapS (unlockS s.gd ρ) := by simp only [evalS, x_toS]
theorem x_whl (c : E) (b : Ss) : evalS Γ (.whl c b) ρ st = whL (fun ρ1 => evalE Γ c ρ1 >>= isB) (fun ρ1 st1 => evalSs Γ b ρ1 st1) WFUEL ρ st := by simp only [evalS]
@[simp] theorem x_ret (e : E) : evalS Γ (.ret e) ρ st = (evalE Γ e ρ st).toR ρ (retK ρ) := by simp only [evalS, x_toS]
@[simp] theorem x_retN : evalS Γ .retN ρ st = .rt (.v .non) st := by simp only [evalS]
@[simp] theorem x_raise (c : String) (es : Es) : evalS Γ (.raise c es) ρ st = (evalEs Γ es ρ st).toR ρ fun vs st => .ex c vs ρ st := by simp only [evalS, x_toS]
@[simp] theorem x_exp (e : E) : evalS Γ (.exp e) ρ st = (evalE Γ e ρ st).toR ρ fun _ st => .nx ρ st := by simp only [evalS, x_toS]
@[simp] theorem x_brk : evalS Γ .brk ρ st = .bk ρ st := by simp only [evalS]
@[simp] theorem x_cnt : evalS Γ .cnt ρ st = .ct ρ st := by simp only [evalS]
@[simp] theorem x_pass : evalS Γ .pass ρ st = .nx ρ st := by simp only [evalS]
@[simp] theorem x_prom (i : Nat) : evalS Γ (.prom i) ρ st = promS i ρ st := by simp only [evalS]
@[simp] theorem x_move (i j : Nat) : evalS Γ (.move i j) ρ st = moveS i j ρ st := by simp only [evalS]
@[simp] theorem x_tryR (b : Ss) (c : String) (cs no : List String) (v : Val) : evalS Γ (.tryR b c cs no v) ρ st = tryS (fun ρ1 st1 => evalSs Γ b ρ1 st1) cs no v ρ st := by simp only [evalS]
@[simp] theorem retK_v (x : Val) : retK ρ (.v x) st = .rt (.v x) st := rfl
@[simp] theorem retK_t (c : Cell) : retK ρ (.t c) st = .rt (.t c) st := rfl
@[simp] theorem argOf_v (l : Bool) (x : Val) : argOf l (.v x) st = .ok (.v x) st := rfl
@[simp] theorem argOf_b (l : Bool) (i : Nat) (c : Cell) : argOf l (.b i c) st = .ok (.t c true) st := rfl
@[simp] theorem argOf_t (c : Cell) : argOf true (.t c) st = .ok (.t c true) st := rfl
@[simp] theorem intern_v (x : Val) : intern (.v x) st = .ok x st := rfl
end
theorem runF_lk {scr : V → Option (List Int)} {Tb : Tab} {d : Nat} {f : String} {vs : List SV} {st : Store} {fd : Fd} (h : Tb.lookup f = some fd) (hl : vs.length = fd.np) (hn : fd.np ≤ fd.ns) :
    runF scr Tb (d + 1) f vs st = gc st (resOf (evalSs ⟨runF scr Tb d, scr⟩ fd.body (startS vs fd.ns) st)) := by
  show (match Tb.lookup f with | none => Res.stuck | some fd => _) = _
  rw [h]
  exact if_pos ⟨hl, hn⟩
end D


set_option Elab.async false
set_option linter.all false
set_option maxRecDepth 100000
set_option maxHeartbeats 1000000
/-! M2: loops, comprehensions of what leaves the store as it is. -/
namespace D
open L2
/-- a loop's turns: on with a state, or out with a value -/
inductive Ctl (α : Type) where
  | go (a : α) | out (x : EV)
def ctlL {α : Type} (step : α → Val → Ctl α) : α → List Val → Ctl α
  | a, [] => .go a
  | a, x :: xs => match step a x with
    | .go a' => ctlL step a' xs
    | .out x => .out x
/-- what a block's end says of a turn -/
def Turned {α : Type} (R : α → Sl → Prop) (st : Store) : Ctl α → SRes → Prop
  | .go a, r => ∃ ρ', (r = .nx ρ' st ∨ r = .ct ρ' st) ∧ R a ρ'
  | .out x, r => r = .rt x st
theorem forL_ctl {α : Type} {g : Gd} {body : Val → Sl → Store → SRes} {st : Store} (step : α → Val → Ctl α) (R : α → Sl → Prop) (hg : ∀ ρ, g.ok ρ st = true) :
    ∀ (xs : List Val), (∀ x ∈ xs, ∀ a ρ, R a ρ → Turned R st (step a x) (body x ρ st)) → ∀ a ρ, R a ρ → (match ctlL step a xs with
      | .go a' => ∃ ρ', forL g body xs ρ st = .nx ρ' st ∧ R a' ρ'
      | .out x => forL g body xs ρ st = .rt x st)
  | [], _, a, ρ, r => ⟨ρ, by unfold forL; rw [if_pos (hg ρ)], r⟩
  | x :: xs, h, a, ρ, r => by
    have h1 := h x List.mem_cons_self a ρ r
    unfold ctlL
    cases e : step a x with
    | go a' =>
      rw [e] at h1
      obtain ⟨ρ', e1, r1⟩ := h1
      have ih := forL_ctl step R hg xs (fun y hy => h y (List.mem_cons_of_mem _ hy)) a' ρ' r1
      have e2 : forL g body (x :: xs) ρ st = forL g body xs ρ' st := by
        rw [forL, if_pos (hg ρ)]
        rcases e1 with e1 | e1 <;> rw [e1]
      simp only [e2]
      exact ih
    | out z =>
      rw [e] at h1
      show forL g body (x :: xs) ρ st = .rt z st
      rw [forL, if_pos (hg ρ), h1]
/-- a loop without a way out -/
theorem forL_go {α : Type} {g : Gd} {body : Val → Sl → Store → SRes} {st : Store} (step : α → Val → α) (R : α → Sl → Prop) (hg : ∀ ρ, g.ok ρ st = true) (xs : List Val)
    (h : ∀ x ∈ xs, ∀ a ρ, R a ρ → ∃ ρ', (body x ρ st = .nx ρ' st ∨ body x ρ st = .ct ρ' st) ∧ R (step a x) ρ') (a : α) (ρ : Sl) (r : R a ρ) : ∃ ρ', forL g body xs ρ st = .nx ρ' st ∧ R (xs.foldl step a) ρ' := by
  have := forL_ctl (fun a x => .go (step a x)) R hg xs (fun x hx a ρ r => h x hx a ρ r) a ρ r
  have e : ∀ (xs : List Val) (a : α), ctlL (fun a x => Ctl.go (step a x)) a xs = .go (xs.foldl step a) := by
    intro xs
    induction xs with
    | nil => intro a; rfl
    | cons x xs ih => intro a; exact ih _
  rw [e] at this
  exact this
theorem compL_map {α : Type} {g : Store → Bool} {f : Val → M (Option α)} {φ : Val → Option α} {st : Store} (hg : g st = true) : ∀ {xs : List Val}, (∀ x ∈ xs, f x st = .ok (φ x) st) → compL g f xs st = .ok (xs.filterMap φ) st
  | [], _ => by unfold compL; rw [if_pos hg]; rfl
  | x :: xs, h => by
    unfold compL
    rw [if_pos hg, h x List.mem_cons_self]
    dsimp only
    rw [compL_map hg fun y hy => h y (List.mem_cons_of_mem _ hy)]
    cases e : φ x <;> simp [List.filterMap_cons, e]
theorem seekL_all {g : Store → Bool} {f : Val → M (Option Bool)} {p : Val → Bool} {st : Store} (hg : g st = true) : ∀ {xs : List Val}, (∀ x ∈ xs, f x st = .ok (some (p x)) st) → seekL g false f xs st = .ok (xs.all p) st
  | [], _ => by unfold seekL; rw [if_pos hg]; rfl
  | x :: xs, h => by
    unfold seekL
    rw [if_pos hg, h x List.mem_cons_self]
    dsimp only
    cases e : p x with
    | false => simp [e]
    | true => rw [if_neg (by simp), seekL_all hg fun y hy => h y (List.mem_cons_of_mem _ hy)]; simp [e]
theorem seekL_any {g : Store → Bool} {f : Val → M (Option Bool)} {p : Val → Bool} {st : Store} (hg : g st = true) : ∀ {xs : List Val}, (∀ x ∈ xs, f x st = .ok (some (p x)) st) → seekL g true f xs st = .ok (xs.any p) st
  | [], _ => by unfold seekL; rw [if_pos hg]; rfl
  | x :: xs, h => by
    unfold seekL
    rw [if_pos hg, h x List.mem_cons_self]
    dsimp only
    cases e : p x with
    | true => simp [e]
    | false => rw [if_neg (by simp), seekL_any hg fun y hy => h y (List.mem_cons_of_mem _ hy)]; simp [e]
/-- one turn of a while -/
theorem whL_turn {test : Sl → M Bool} {body : Sl → Store → SRes} {n : Nat} {ρ ρ' : Sl} {st : Store} (h1 : test ρ st = .ok true st) (h2 : body ρ st = .nx ρ' st ∨ body ρ st = .ct ρ' st) : whL test body (n + 1) ρ st = whL test body n ρ' st := by
  conv => lhs; unfold whL
  simp only [x_toS, h1, toR_ok, if_true]
  rcases h2 with h2 | h2 <;> simp only [h2]
theorem whL_out {test : Sl → M Bool} {body : Sl → Store → SRes} {n : Nat} {ρ : Sl} {x : EV} {st : Store} (h1 : test ρ st = .ok true st) (h2 : body ρ st = .rt x st) : whL test body (n + 1) ρ st = .rt x st := by
  conv => lhs; unfold whL
  simp only [x_toS, h1, toR_ok, if_true]
  rw [h2]
theorem whL_end {test : Sl → M Bool} {body : Sl → Store → SRes} {n : Nat} {ρ : Sl} {st : Store} (h1 : test ρ st = .ok false st) : whL test body (n + 1) ρ st = .nx ρ st := by
  conv => lhs; unfold whL
  simp only [x_toS, h1, toR_ok, Bool.false_eq_true, if_false]
end D


set_option Elab.async false
set_option linter.all false
set_option maxRecDepth 100000
set_option maxHeartbeats 1000000
/-! M1b: operations on values: rules for simp. -/
namespace D
open L2
section
variable (st : Store)
@[simp] theorem c_non : D.cellOf st (.v .non) = none := rfl
@[simp] theorem c_bool (b : Bool) : D.cellOf st (.v (.bool b)) = none := rfl
@[simp] theorem c_int (i : Int) : D.cellOf st (.v (.int i)) = none := rfl
@[simp] theorem c_str (x : List Char) : D.cellOf st (.v (.str x)) = none := rfl
@[simp] theorem c_tup (x : List Val) : D.cellOf st (.v (.tup x)) = none := rfl
@[simp] theorem c_loc (l : Nat) : D.cellOf st (.v (.loc l)) = st[l]? := rfl
@[simp] theorem c_t (c : Cell) : D.cellOf st (.t c) = some c := rfl
@[simp] theorem c_b (i : Nat) (c : Cell) : D.cellOf st (.b i c) = some c := rfl
@[simp] theorem p_non (n : Nat) : Val.pureN n .non = true := by cases n <;> rfl
@[simp] theorem p_bool (n : Nat) (b : Bool) : Val.pureN n (.bool b) = true := by cases n <;> rfl
@[simp] theorem p_int (n : Nat) (b : Int) : Val.pureN n (.int b) = true := by cases n <;> rfl
@[simp] theorem p_str (n : Nat) (b : List Char) : Val.pureN n (.str b) = true := by cases n <;> rfl
theorem p_tup (n : Nat) (vs : List Val) : Val.pureN (n + 1) (.tup vs) = vs.all (Val.pureN n) := rfl
@[simp] theorem p_tup60 (vs : List Val) : Val.pureN 60 (.tup vs) = vs.all (Val.pureN 59) := rfl
@[simp] theorem p_tup59 (vs : List Val) : Val.pureN 59 (.tup vs) = vs.all (Val.pureN 58) := rfl
@[simp] theorem p_tup58 (vs : List Val) : Val.pureN 58 (.tup vs) = vs.all (Val.pureN 57) := rfl
@[simp] theorem p_tup57 (vs : List Val) : Val.pureN 57 (.tup vs) = vs.all (Val.pureN 56) := rfl
theorem peq_pure {a b : Val} (ha : a.pure = true) (hb : b.pure = true) : Val.peq a b = some (a.eqv b) := by unfold Val.peq; rw [ha, hb]; rfl
/-- values that are no objects -/
def Val.isV : Val → Bool
  | .loc _ | .cst _ => false
  | _ => true
theorem cell_isV {a : Val} (h : a.isV = true) : D.cellOf st (.v a) = none := by cases a <;> first | rfl | cases h
theorem pure_isV : ∀ {a : Val}, a.pure = true → a.isV = true
  | .non, _ => rfl
  | .bool _, _ => rfl
  | .int _, _ => rfl
  | .str _, _ => rfl
  | .tup _, _ => rfl
  | .loc _, h => by cases h
  | .cst _, h => by cases h
theorem eqEV_v {a b : Val} (ha : a.pure = true) (hb : b.pure = true) : eqEV st (.v a) (.v b) = some (a.eqv b) := by
  unfold eqEV
  rw [cell_isV st (pure_isV ha), cell_isV st (pure_isV hb)]
  exact peq_pure ha hb
theorem cop_eqV {a b : Val} (ha : a.pure = true) (hb : b.pure = true) : cop .eq (.v a) (.v b) st = .ok (a.eqv b) st := by simp only [cop, eqEV_v st ha hb]
theorem cop_neV {a b : Val} (ha : a.pure = true) (hb : b.pure = true) : cop .ne (.v a) (.v b) st = .ok (!a.eqv b) st := by simp only [cop, eqEV_v st ha hb, Option.map_some]
@[simp] theorem cop_eqS (a b : List Char) : cop .eq (.v (.str a)) (.v (.str b)) st = .ok (a == b) st := (cop_eqV st (a := .str a) (b := .str b) rfl rfl).trans (by rw [Val.eqv])
@[simp] theorem cop_neS (a b : List Char) : cop .ne (.v (.str a)) (.v (.str b)) st = .ok (!(a == b)) st := (cop_neV st (a := .str a) (b := .str b) rfl rfl).trans (by rw [Val.eqv])
@[simp] theorem cop_eqI (a b : Int) : cop .eq (.v (.int a)) (.v (.int b)) st = .ok (a == b) st := (cop_eqV st (a := .int a) (b := .int b) rfl rfl).trans (by rw [Val.eqv])
@[simp] theorem cop_neI (a b : Int) : cop .ne (.v (.int a)) (.v (.int b)) st = .ok (!(a == b)) st := (cop_neV st (a := .int a) (b := .int b) rfl rfl).trans (by rw [Val.eqv])
@[simp] theorem cop_eqB (a b : Bool) : cop .eq (.v (.bool a)) (.v (.bool b)) st = .ok (a == b) st := (cop_eqV st (a := .bool a) (b := .bool b) rfl rfl).trans (by rw [Val.eqv])
@[simp] theorem cop_neB (a b : Bool) : cop .ne (.v (.bool a)) (.v (.bool b)) st = .ok (!(a == b)) st := (cop_neV st (a := .bool a) (b := .bool b) rfl rfl).trans (by rw [Val.eqv])
@[simp] theorem cop_memE (b : List Char) : cop .mem (.v (.str [])) (.v (.str b)) st = .ok true st := rfl
@[simp] theorem cop_memC (c : Char) (b : List Char) : cop .mem (.v (.str [c])) (.v (.str b)) st = .ok (b.contains c) st := rfl
@[simp] theorem cop_ltI (a b : Int) : cop .lt (.v (.int a)) (.v (.int b)) st = .ok (decide (a < b)) st := rfl
@[simp] theorem cop_leI (a b : Int) : cop .le (.v (.int a)) (.v (.int b)) st = .ok (decide (a ≤ b)) st := rfl
@[simp] theorem cop_gtI (a b : Int) : cop .gt (.v (.int a)) (.v (.int b)) st = .ok (decide (b < a)) st := rfl
@[simp] theorem cop_geI (a b : Int) : cop .ge (.v (.int a)) (.v (.int b)) st = .ok (decide (b ≤ a)) st := rfl
@[simp] theorem bop_addI (a b : Int) : bop .add (.v (.int a)) (.v (.int b)) st = .ok (.v (.int (a + b))) st := rfl
@[simp] theorem bop_subI (a b : Int) : bop .sub (.v (.int a)) (.v (.int b)) st = .ok (.v (.int (a - b))) st := rfl
theorem bop_addS {a b : List Char} (h : a.length + b.length ≤ LIM) : bop .add (.v (.str a)) (.v (.str b)) st = .ok (.v (.str (a ++ b))) st := by simp only [bop, if_pos h]
theorem bop_addT {a b : List Val} (h : a.length + b.length ≤ LIM) : bop .add (.v (.tup a)) (.v (.tup b)) st = .ok (.v (.tup (a ++ b))) st := by simp only [bop, if_pos h]
theorem bop_mulI {a b : Int} (h : okInt a b = true) : bop .mul (.v (.int a)) (.v (.int b)) st = .ok (.v (.int (a * b))) st := by simp only [bop, if_pos h]
theorem bop_fdivI {a b : Int} (h : 0 < b ∧ b < 2 ^ 30) : bop .fdiv (.v (.int a)) (.v (.int b)) st = .ok (.v (.int (Int.fdiv a b))) st := by simp only [bop, if_pos h]
theorem bop_modI {a b : Int} (h : 0 < b) : bop .mod (.v (.int a)) (.v (.int b)) st = .ok (.v (.int (Int.fmod a b))) st := by simp only [bop, if_pos h]
@[simp] theorem bi_lenT (vs : List Val) : biOp .len [.v (.tup vs)] st = .ok (.v (.int vs.length)) st := rfl
theorem bi_lenS {cs : List Char} (h : cs.length ≤ LIM) : biOp .len [.v (.str cs)] st = .ok (.v (.int cs.length)) st := by simp only [biOp, if_pos h]
@[simp] theorem bi_lenB (i : Nat) (vs : List Val) : biOp .len [.b i (.lst vs)] st = .ok (.v (.int vs.length)) st := rfl
@[simp] theorem bi_isSs (x : List Char) : biOp .isStr [.v (.str x)] st = .ok (.v (.bool true)) st := rfl
@[simp] theorem bi_isSt (x : List Val) : biOp .isStr [.v (.tup x)] st = .ok (.v (.bool false)) st := rfl
@[simp] theorem bi_isSn : biOp .isStr [.v .non] st = .ok (.v (.bool false)) st := rfl
@[simp] theorem bi_isTs (x : List Char) : biOp .isTuple [.v (.str x)] st = .ok (.v (.bool false)) st := rfl
@[simp] theorem bi_isTt (x : List Val) : biOp .isTuple [.v (.tup x)] st = .ok (.v (.bool true)) st := rfl
@[simp] theorem bi_isTn : biOp .isTuple [.v .non] st = .ok (.v (.bool false)) st := rfl
@[simp] theorem bi_tupL (vs : List Val) : biOp .tuple [.t (.lst vs)] st = .ok (.v (.tup vs)) st := rfl
@[simp] theorem bi_tupB (i : Nat) (vs : List Val) : biOp .tuple [.b i (.lst vs)] st = .ok (.v (.tup vs)) st := rfl
@[simp] theorem bi_tupT (vs : List Val) : biOp .tuple [.v (.tup vs)] st = .ok (.v (.tup vs)) st := rfl
@[simp] theorem bi_lstT (vs : List Val) : biOp .list [.v (.tup vs)] st = .ok (.t (.lst vs)) st := rfl
@[simp] theorem bi_intI (i : Int) : biOp .int [.v (.int i)] st = .ok (.v (.int i)) st := rfl
@[simp] theorem bi_intB (b : Bool) : biOp .int [.v (.bool b)] st = .ok (.v (.int (if b then 1 else 0))) st := rfl
@[simp] theorem bi_abs (i : Int) : biOp .abs [.v (.int i)] st = .ok (.v (.int i.natAbs)) st := rfl
theorem atN {α : Type} (xs : List α) (k : Nat) : atI xs (k : Int) = xs[k]? := by
  unfold atI ixN
  by_cases h : k < xs.length
  · simp [h]
  · simp [h, List.getElem?_eq_none (Nat.le_of_not_lt h)]
@[simp] theorem at0 {α : Type} (xs : List α) : atI xs 0 = xs[0]? := atN xs 0
@[simp] theorem at1 {α : Type} (xs : List α) : atI xs 1 = xs[1]? := atN xs 1
@[simp] theorem at2 {α : Type} (xs : List α) : atI xs 2 = xs[2]? := atN xs 2
theorem ix_tupO {vs : List Val} {i : Int} {v : Val} (h : atI vs i = some v) : ixOp (.v (.tup vs)) (.v (.int i)) st = .ok (.v v) st := by simp only [ixOp, h]
@[simp] theorem ix_tup0 (v : Val) (vs : List Val) : ixOp (.v (.tup (v :: vs))) (.v (.int 0)) st = .ok (.v v) st := ix_tupO st (by simp)
@[simp] theorem ix_tup1 (u v : Val) (vs : List Val) : ixOp (.v (.tup (u :: v :: vs))) (.v (.int 1)) st = .ok (.v v) st := ix_tupO st (by simp)
theorem ix_strO {cs : List Char} {i : Int} {c : Char} (hl : cs.length ≤ LIM) (h : atI cs i = some c) : ixOp (.v (.str cs)) (.v (.int i)) st = .ok (.v (.str [c])) st := by simp only [ixOp, if_pos hl, h]
theorem ix_lstO {x : EV} {vs : List Val} {i : Int} {v : Val} (hx : D.cellOf st x = some (.lst vs)) (h : atI vs i = some v) : ixOp x (.v (.int i)) st = .ok (.v v) st := by
  cases x with
  | v y =>
    cases y with
    | loc l => simp only [ixOp, hx, h]
    | _ => cases hx
  | t c => cases hx; simp only [ixOp, c_t, h]
  | b k c => cases hx; simp only [ixOp, c_b, h]
@[simp] theorem cut_t {α : Type} (w : List α) (n : Nat) : cutL w none (some (n : Int)) = w.take n := by
  simp only [cutL, HT.sIx_nat, HT.sIx_none, List.drop_zero, Nat.sub_zero]
  by_cases h : n ≤ w.length
  · rw [Nat.min_eq_left h]
  · rw [Nat.min_eq_right (by omega), List.take_length, List.take_of_length_le (by omega)]
@[simp] theorem cut_1 {α : Type} (w : List α) : cutL w none (some 1) = w.take 1 := cut_t w 1
theorem cut_d {α : Type} (w : List α) (n : Nat) : cutL w (some (n : Int)) none = w.drop n := by
  simp only [cutL, HT.sIx_nat, HT.sIx_none]
  by_cases h : n ≤ w.length
  · rw [Nat.min_eq_left h, List.take_of_length_le (by simp)]
  · rw [Nat.min_eq_right (by omega), List.drop_length, List.drop_eq_nil_of_le (by omega)]; simp
theorem cut_dt {α : Type} (w : List α) (n k : Nat) : cutL w (some (n : Int)) (some (k : Int)) = (w.drop n).take (k - n) := by
  simp only [cutL, HT.sIx_nat]
  by_cases h : n ≤ w.length
  · rw [Nat.min_eq_left h]
    by_cases h2 : k ≤ w.length
    · rw [Nat.min_eq_left h2]
    · rw [Nat.min_eq_right (by omega), List.take_of_length_le (by simp), List.take_of_length_le (by simp; omega)]
  · have e1 : w.drop n = [] := List.drop_eq_nil_of_le (by omega)
    have e2 : min n w.length = w.length := Nat.min_eq_right (by omega)
    rw [e1, e2, List.drop_length]
    simp
@[simp] theorem sl_scr (scr : V → Option (List Int)) (w : List Char) (lo hi : Option Int) : slOpS scr (.v (.str w)) lo hi st = slOp (.v (.str w)) lo hi st := rfl
@[simp] theorem sl_scrT (scr : V → Option (List Int)) (w : List Val) (lo hi : Option Int) : slOpS scr (.v (.tup w)) lo hi st = slOp (.v (.tup w)) lo hi st := rfl
@[simp] theorem sl_scrB (scr : V → Option (List Int)) (i : Nat) (c : Cell) (lo hi : Option Int) : slOpS scr (.b i c) lo hi st = slOp (.b i c) lo hi st := rfl
@[simp] theorem sl_tup (w : List Val) (lo hi : Option Int) : slOp (.v (.tup w)) lo hi st = .ok (.v (.tup (cutL w lo hi))) st := rfl
@[simp] theorem sl_lstB (i : Nat) (w : List Val) (lo hi : Option Int) : slOp (.b i (.lst w)) lo hi st = .ok (.t (.lst (cutL w lo hi))) st := rfl
theorem sl_str {w : List Char} (h : w.length ≤ LIM) (lo hi : Option Int) : slOp (.v (.str w)) lo hi st = .ok (.v (.str (cutL w lo hi))) st := by simp only [slOp, if_pos h]
@[simp] theorem src_tup (vs : List Val) : srcOf (.v (.tup vs)) st = .ok ⟨vs, .no⟩ st := rfl
@[simp] theorem src_str (cs : List Char) : srcOf (.v (.str cs)) st = .ok ⟨cs.map fun c => .str [c], .no⟩ st := rfl
@[simp] theorem src_t (vs : List Val) : srcOf (.t (.lst vs)) st = .ok ⟨vs, .no⟩ st := rfl
@[simp] theorem src_b (i : Nat) (vs : List Val) : srcOf (.b i (.lst vs)) st = .ok ⟨vs, .slot i (.lst vs)⟩ st := rfl
@[simp] theorem src_bd (i : Nat) (kvs : List (Val × Val)) : srcOf (.b i (.dict kvs)) st = .ok ⟨kvs.map (·.1), .slot i (.dict kvs)⟩ st := rfl
@[simp] theorem zip_tt (a b : List Val) : zipOf (.v (.tup a)) (.v (.tup b)) st = .ok ⟨zipL a b, .no⟩ st := rfl
@[simp] theorem enum_t (a : List Val) : enumOf (.v (.tup a)) st = .ok ⟨enumL 0 a, .no⟩ st := rfl
end
@[simp] theorem ofO_some {α : Type} (a : α) (st : Store) : M.ofO (some a) st = .ok a st := rfl
@[simp] theorem x_body {β : Type} (t : T) (own : List Nat) (ρ : Sl) (ec : Sl → M Bool) (kt : Sl → M β) (kf : M β) (x : Val) (st : Store) : bodyM t own ρ ec kt kf x st = (M.ofO (assignT t x (wipeS ρ own)) st).bnd fun ρ2 s => (ec ρ2 s).bnd fun p s => if p then kt ρ2 s else kf s := by
  simp only [bodyM, x_bind, x_ite]
@[simp] theorem x_mkB (e : M EV) (st : Store) : mkB e st = (e st).bnd fun y s => (isB y s).bnd fun v s => .ok (some v) s := by simp only [mkB, x_bind, x_pure]
@[simp] theorem x_mkV (e : M EV) (st : Store) : mkV e st = (e st).bnd fun y s => (intern y s).bnd fun v s => .ok (some v) s := by simp only [mkV, x_bind, x_pure]
@[simp] theorem x_mkKV (k e : M EV) (st : Store) : mkKV k e st = (k st).bnd fun y s => (intern y s).bnd fun kv s => (e s).bnd fun y s => (intern y s).bnd fun v s => .ok (some (kv, v)) s := by simp only [mkKV, x_bind, x_pure]
theorem finL_ok {vs : List Val} (h : vs.length ≤ LIM) (st : Store) : finL vs st = .ok (.t (.lst vs)) st := by unfold finL; rw [if_pos h]; rfl
theorem asgK_nm (i : Nat) (ρ : Sl) (v : Val) (st : Store) (h : i < ρ.length) : asgK (.nm i) ρ (.v v) st = .nx (ρ.set i (some (.v v))) st := by
  simp only [asgK, assign1, assignT, if_pos h]
theorem asgK_t (i : Nat) (ρ : Sl) (c : Cell) (st : Store) (h : i < ρ.length) : asgK (.nm i) ρ (.t c) st = .nx (ρ.set i (some (.t c false))) st := by
  simp only [asgK, assign1, if_pos h]
end D


set_option Elab.async false
set_option linter.all false
set_option maxRecDepth 100000
set_option maxHeartbeats 2000000
/-! M3: k01: words, names, atoms. -/
namespace K01
open D
abbrev W := List Char
abbrev Tb : Tab := tabF L
def SM : W := ['a', 'b', 'c', 'd', 'e', 'f', 'g', 'h', 'i', 'j', 'k', 'l', 'm', 'n', 'o', 'p', 'q', 'r', 's', 't', 'u', 'v', 'w', 'x', 'y', 'z']
def GR : W := ['A', 'B', 'C', 'D', 'E', 'F', 'G', 'H', 'I', 'J', 'K', 'L', 'M', 'N', 'O', 'P', 'Q', 'R', 'S', 'T', 'U', 'V', 'W', 'X', 'Y', 'Z']
def FI : W := ['0', '1', '2', '3', '4', '5', '6', '7', '8', '9']
theorem vS : v_SMALL = .str SM := rfl
theorem vG : v_GREAT = .str GR := rfl
theorem vF : v_FIGURES = .str FI := rfl
def AL : W := SM ++ GR ++ FI
theorem addSG (st : Store) : bop .add (.v (.str SM)) (.v (.str GR)) st = .ok (.v (.str (SM ++ GR))) st := bop_addS st (by decide)
theorem addSGF (st : Store) : bop .add (.v (.str (SM ++ GR))) (.v (.str FI)) st = .ok (.v (.str AL)) st := bop_addS st (by decide)
def isOpen : W → Bool
  | [] => false
  | c :: _ => decide (c ∈ GR)
def isWord (w : W) : Bool := decide (1 ≤ w.length) && decide (w.length ≤ 20) && w.all (fun c => decide (c ∈ AL))
def isName : W → Bool
  | [] => false
  | c :: r => isWord (c :: r) && decide (c ∈ SM)
section
variable {scr : L2.V → Option (List Int)} {d : Nat}
theorem r_is_open (hd : 1 ≤ d) {w : W} (hw : w.length ≤ LIM) (st : Store) : runF scr Tb d "is_open" [.v (.str w)] st = .ok (.v (.bool (isOpen w))) st := by
  obtain ⟨d, rfl⟩ := Nat.exists_eq_add_of_le' hd
  rw [runF_lk (fd := ⟨1, 1, b_is_open⟩) (by rfl) rfl (by decide)]
  cases w with
  | nil => simp [b_is_open, startS, sl_str, vG, isOpen]
  | cons c r =>
    have hw' : r.length + 1 ≤ LIM := hw
    simp [b_is_open, startS, sl_str, hw', vG, isOpen]
    split <;> simp_all
theorem r_is_word (hd : 1 ≤ d) {w : W} (hw : w.length ≤ LIM) (st : Store) : runF scr Tb d "is_word" [.v (.str w)] st = .ok (.v (.bool (isWord w))) st := by
  obtain ⟨d, rfl⟩ := Nat.exists_eq_add_of_le' hd
  rw [runF_lk (fd := ⟨1, 2, b_is_word⟩) (by rfl) rfl (by decide)]
  have key : ∀ (Γ : Calls), evalE Γ (.all [1] (.nm 1) (.seq (.var 0)) .none (.cmp .mem (.var 1) (.bin .add (.bin .add (.glob "SMALL" v_SMALL) (.glob "GREAT" v_GREAT)) (.glob "FIGURES" v_FIGURES)))) [some (.v (.str w)), none] st = .ok (.v (.bool (w.all fun c => decide (c ∈ AL)))) st := fun Γ => by
    rw [x_all]
    simp only [x_seq, x_var, List.getElem?_cons_zero, slE_v, bnd_ok, src_str]
    rw [seekL_all (p := fun v => match v with | .str [c] => decide (c ∈ AL) | _ => false) (by rfl)]
    · simp [List.all_map, Function.comp_def]
    · intro x hx
      obtain ⟨c, _, rfl⟩ := List.mem_map.mp hx
      simp [wipeS, assignT, vS, vG, vF, addSG, addSGF]
  simp only [b_is_word, startS, isWord]
  by_cases h1 : 1 ≤ w.length <;> by_cases h2 : w.length ≤ 20 <;> simp [bi_lenS, hw, key, h1, h2]
  all_goals (try (have : ¬ (1 : Int) ≤ w.length := by omega)); (try (have : ¬ (w.length : Int) ≤ 20 := by omega)); (try (have : (1 : Int) ≤ w.length := by omega)); (try (have : (w.length : Int) ≤ 20 := by omega)); simp [*]
theorem r_is_word_t (hd : 1 ≤ d) {vs : List Val} (st : Store) : runF scr Tb d "is_word" [.v (.tup vs)] st = .ok (.v (.bool false)) st := by
  obtain ⟨d, rfl⟩ := Nat.exists_eq_add_of_le' hd
  rw [runF_lk (fd := ⟨1, 2, b_is_word⟩) (by rfl) rfl (by decide)]
  simp [b_is_word, startS]
theorem r_is_name (hd : 2 ≤ d) {w : W} (hw : w.length ≤ LIM) (st : Store) : runF scr Tb d "is_name" [.v (.str w)] st = .ok (.v (.bool (isName w))) st := by
  obtain ⟨d, rfl⟩ := Nat.exists_eq_add_of_le' (Nat.le_of_succ_le hd)
  rw [runF_lk (fd := ⟨1, 1, b_is_name⟩) (by rfl) rfl (by decide)]
  cases w with
  | nil => simp [b_is_name, startS, r_is_word (scr := scr) (d := d) (w := []) (by omega) (by decide), isName, isWord]
  | cons c r =>
    have hw' : r.length + 1 ≤ LIM := hw
    have e1 := fun st => r_is_word (scr := scr) (d := d) (by omega) hw st
    have e2 : ∀ st, ixOp (.v (.str (c :: r))) (.v (.int 0)) st = .ok (.v (.str [c])) st := fun st => ix_strO st hw (by simp)
    simp [b_is_name, startS, e1, e2, isName, vS]
    split <;> simp_all
end
end K01


set_option Elab.async false
set_option linter.all false
set_option maxRecDepth 100000
set_option maxHeartbeats 2000000
/-! M4: k01: atoms and facts told apart. -/
namespace K01
open D
def avs (ws : List W) : List Val := ws.map Val.str
@[simp] theorem avs_len (ws : List W) : (avs ws).length = ws.length := by simp [avs]
def atomV (n : W) (ws : List W) : Val := .tup [.str n, .tup (avs ws)]
def isAtom (n : W) (ws : List W) : Bool := isName n && (decide (ws.length ≤ 6) && ws.all isWord)
def isFact (n : W) (ws : List W) : Bool := isAtom n ws && !ws.any isOpen
section
variable {scr : L2.V → Option (List Int)} {d : Nat}
theorem r_is_atom (hd : 3 ≤ d) {n : W} {ws : List W} (hn : n.length ≤ LIM) (hw : ∀ w ∈ ws, w.length ≤ LIM) (st : Store) : runF scr Tb d "is_atom" [.v (atomV n ws)] st = .ok (.v (.bool (isAtom n ws))) st := by
  obtain ⟨d, rfl⟩ := Nat.exists_eq_add_of_le' (show 1 ≤ d by omega)
  rw [runF_lk (fd := ⟨1, 2, b_is_atom⟩) (by rfl) rfl (by decide)]
  have e1 := fun st => r_is_name (scr := scr) (d := d) (by omega) hn st
  have key : evalE ⟨runF scr Tb d, scr⟩ (.all [1] (.nm 1) (.seq (.ix (.var 0) (.con (.int 1)))) .none (.call "is_word" (.lend (.var 1) .nil) [])) [some (.v (atomV n ws)), none] st = .ok (.v (.bool (ws.all isWord))) st := by
    rw [x_all]
    simp only [x_seq, x_ix, x_con, x_var, List.getElem?_cons_zero, slE_v, bnd_ok, atomV, ix_tup1, src_tup]
    rw [seekL_all (p := fun v => match v with | .str w => isWord w | _ => false) (by rfl)]
    · simp [avs, List.all_map, Function.comp_def]
    · intro x hx
      obtain ⟨w, hw2, rfl⟩ := List.mem_map.mp hx
      simp [wipeS, assignT, r_is_word (scr := scr) (d := d) (by omega) (hw w hw2)]
  unfold atomV at key ⊢
  simp [b_is_atom, startS, e1, key, isAtom]
  by_cases h1 : isName n = true <;> by_cases h2 : ws.length ≤ 6 <;> simp [h1, h2]
  all_goals (try (have : ¬ (ws.length : Int) ≤ 6 := by omega)); (try (have : (ws.length : Int) ≤ 6 := by omega)); (try simp [*])
  all_goals (try (intro h; omega))
theorem r_is_fact (hd : 4 ≤ d) {n : W} {ws : List W} (hn : n.length ≤ LIM) (hw : ∀ w ∈ ws, w.length ≤ LIM) (st : Store) : runF scr Tb d "is_fact" [.v (atomV n ws)] st = .ok (.v (.bool (isFact n ws))) st := by
  obtain ⟨d, rfl⟩ := Nat.exists_eq_add_of_le' (show 1 ≤ d by omega)
  rw [runF_lk (fd := ⟨1, 2, b_is_fact⟩) (by rfl) rfl (by decide)]
  have e1 := fun st => r_is_atom (scr := scr) (d := d) (by omega) hn hw st
  have key : evalE ⟨runF scr Tb d, scr⟩ (.any [1] (.nm 1) (.seq (.ix (.var 0) (.con (.int 1)))) .none (.call "is_open" (.lend (.var 1) .nil) [])) [some (.v (atomV n ws)), none] st = .ok (.v (.bool (ws.any isOpen))) st := by
    rw [x_any]
    simp only [x_seq, x_ix, x_con, x_var, List.getElem?_cons_zero, slE_v, bnd_ok, atomV, ix_tup1, src_tup]
    rw [seekL_any (p := fun v => match v with | .str w => isOpen w | _ => false) (by rfl)]
    · simp [avs, List.any_map, Function.comp_def]
    · intro x hx
      obtain ⟨w, hw2, rfl⟩ := List.mem_map.mp hx
      simp [wipeS, assignT, r_is_open (scr := scr) (d := d) (by omega) (hw w hw2)]
  simp [b_is_fact, startS, e1, key, isFact]
  by_cases h1 : isAtom n ws = true <;> simp [h1]
/-- (name, text) is no atom -/
theorem r_is_fact_s (hd : 4 ≤ d) {n w : W} (hn : n.length ≤ LIM) (st : Store) : runF scr Tb d "is_fact" [.v (.tup [.str n, .str w])] st = .ok (.v (.bool false)) st := by
  obtain ⟨d, rfl⟩ := Nat.exists_eq_add_of_le' (show 2 ≤ d by omega)
  rw [runF_lk (fd := ⟨1, 2, b_is_fact⟩) (by rfl) rfl (by decide)]
  have e2 := fun st => r_is_name (scr := scr) (d := d) (by omega) hn st
  have e1 : ∀ st, runF scr Tb (d + 1) "is_atom" [.v (.tup [.str n, .str w])] st = .ok (.v (.bool false)) st := fun st => by
    rw [runF_lk (fd := ⟨1, 2, b_is_atom⟩) (by rfl) rfl (by decide)]
    simp [b_is_atom, startS, e2]
  simp [b_is_fact, startS, e1]
theorem r_is_fact_n (hd : 4 ≤ d) (st : Store) : runF scr Tb d "is_fact" [.v .non] st = .ok (.v (.bool false)) st := by
  obtain ⟨d, rfl⟩ := Nat.exists_eq_add_of_le' (show 2 ≤ d by omega)
  rw [runF_lk (fd := ⟨1, 2, b_is_fact⟩) (by rfl) rfl (by decide)]
  have e1 : ∀ st, runF scr Tb (d + 1) "is_atom" [.v .non] st = .ok (.v (.bool false)) st := fun st => by
    rw [runF_lk (fd := ⟨1, 2, b_is_atom⟩) (by rfl) rfl (by decide)]
    simp [b_is_atom, startS]
  simp [b_is_fact, startS, e1]
theorem r_check (hd : 5 ≤ d) {v : Val} {b : Bool} (h : ∀ e, 4 ≤ e → ∀ st, runF scr Tb e "is_fact" [.v v] st = .ok (.v (.bool b)) st) (st : Store) : runF scr Tb d "check_facts" [.v (.tup [v])] st = if b then .ok (.v .non) st else .exc "BadFact" [] st := by
  obtain ⟨d, rfl⟩ := Nat.exists_eq_add_of_le' (show 1 ≤ d by omega)
  rw [runF_lk (fd := ⟨1, 2, b_check_facts⟩) (by rfl) rfl (by decide)]
  have e1 := fun st => h d (by omega) st
  cases b <;> simp [b_check_facts, startS, x_for, e1, lockS, forL, Gd.ok, forB, assignT, SRes.mapS, unlockS]
theorem r_refused (hd : 6 ≤ d) {v : Val} {b : Bool} (h : ∀ e, 4 ≤ e → ∀ st, runF scr Tb e "is_fact" [.v v] st = .ok (.v (.bool b)) st) (st : Store) : runF scr Tb d "_law_refused" [.v (.tup [v])] st = .ok (.v (.bool (!b))) st := by
  obtain ⟨d, rfl⟩ := Nat.exists_eq_add_of_le' (show 1 ≤ d by omega)
  rw [runF_lk (fd := ⟨1, 2, b__law_refused⟩) (by rfl) rfl (by decide)]
  have e1 := fun st => r_check (scr := scr) (d := d) (by omega) h st
  cases b <;> simp [b__law_refused, startS, e1, tryS]
end
end K01


set_option Elab.async false
set_option linter.all false
set_option maxRecDepth 100000
set_option maxHeartbeats 2000000
/-! M5: k01: tables; open_words, filled. -/
namespace K01
open D
abbrev T := List (W × W)
def tget (t : T) (w : W) : Option W := (t.find? fun p => p.1 == w).map (·.2)
def tput (t : T) (k v : W) : T := if t.any (fun p => p.1 == k) then t.map (fun p => if p.1 == k then (p.1, v) else p) else t ++ [(k, v)]
def tv (t : T) : List (Val × Val) := t.map fun p => (.str p.1, .str p.2)
def tall (l : T) (t : T) : T := l.foldl (fun t p => tput t p.1 p.2) t
@[simp] theorem tv_len (t : T) : (tv t).length = t.length := by simp [tv]
theorem str_beq (a b : W) : ((Val.str a == Val.str b) : Bool) = (a == b) := by
  by_cases h : a = b
  · subst h; simp
  · have h2 : Val.str a ≠ Val.str b := fun e => h (Val.str.inj e)
    rw [beq_eq_false_iff_ne.mpr h, beq_eq_false_iff_ne.mpr h2]
@[simp] theorem dlook_tv (t : T) (w : W) : dlook (tv t) (.str w) = (tget t w).map Val.str := by
  induction t with
  | nil => rfl
  | cons p r ih =>
    unfold dlook tget tv at *
    simp only [List.map_cons, List.find?_cons, str_beq]
    by_cases h : (p.1 == w) = true
    · simp [h]
    · rw [Bool.not_eq_true] at h
      simp only [h]
      exact ih
@[simp] theorem dput_tv (t : T) (k v : W) : dput (tv t) (.str k) (.str v) = tv (tput t k v) := by
  have e : (tv t).any (fun kv => kv.1 == .str k) = t.any fun p => p.1 == k := by
    unfold tv; rw [List.any_map]; congr 1; funext p; exact str_beq _ _
  unfold dput tput
  rw [e]
  by_cases h : (t.any fun p => p.1 == k) = true
  · rw [if_pos h, if_pos h]
    unfold tv
    rw [List.map_map, List.map_map]
    apply List.map_congr_left
    intro p _
    simp only [Function.comp_apply, str_beq]
    by_cases h2 : (p.1 == k) = true <;> simp [h2]
  · rw [if_neg h, if_neg h]; simp [tv]
@[simp] theorem dkOk_tv (t : T) (w : W) : dkOk (tv t) (.str w) = true := by
  simp [dkOk, tv, Val.key, Val.isTup]
@[simp] theorem notTup_tv (t : T) : ((tv t).all fun kv => !kv.1.isTup) = true := by simp [tv, Val.isTup]
@[simp] theorem hom_tv (t : T) : hom (tv t) = true := by
  induction t with
  | nil => rfl
  | cons p r ih =>
    show (dkOk (tv r) (.str p.1) && hom (tv r)) = true
    rw [dkOk_tv, ih]; rfl
theorem mergeD_tv (t l : T) : mergeD (tv t) (tv l) = tv (tall l t) := by
  induction l generalizing t with
  | nil => rfl
  | cons p r ih =>
    show mergeD (dput (tv t) (.str p.1) (.str p.2)) (tv r) = _
    rw [dput_tv, ih]; rfl
theorem tput_len (t : T) (k v : W) : (tput t k v).length ≤ t.length + 1 := by
  unfold tput
  split <;> simp
/-- a slot's thing that is a table -/
def TabS (st : Store) : SV → T → Prop
  | .v (.loc l), t => st[l]? = some (.dict (tv t))
  | .t c _, t => c = .dict (tv t)
  | _, _ => False
theorem tab_slE {st : Store} {sv : SV} {t : T} (h : TabS st sv t) (i : Nat) : ∃ x, slE st i (some (some sv)) = .ok x st ∧ D.cellOf st x = some (.dict (tv t)) := by
  cases sv with
  | v y =>
    cases y with
    | loc l => exact ⟨_, rfl, h⟩
    | _ => exact False.elim h
  | t c b =>
    exact ⟨_, rfl, congrArg some h⟩
theorem get_tab {st : Store} {x : EV} {t : T} (h : D.cellOf st x = some (.dict (tv t))) (w o : W) : mthOp .get x [.v (.str w), .v (.str o)] st = .ok (.v (.str ((tget t w).getD o))) st := by
  simp only [mthOp, getOp, h, dkOk_tv, if_true, dlook_tv]
  cases tget t w <;> rfl
theorem pre_tab {st : Store} {x : EV} {t : T} (h : D.cellOf st x = some (.dict (tv t))) : mthPre .get x st = .ok () st := by
  simp only [mthPre, h]
theorem mem_tab {st : Store} {x : EV} {t : T} (h : D.cellOf st x = some (.dict (tv t))) (w : W) : cop .mem (.v (.str w)) x st = .ok (tget t w).isSome st := by
  have e : memEV st (.v (.str w)) x = some (tget t w).isSome := by
    have k : (match D.cellOf st x with
      | some (.lst vs) => memL (.str w) vs
      | some (.dict kvs) => if dkOk kvs (.str w) then some (dlook kvs (.str w)).isSome else none
      | _ => none) = some (tget t w).isSome := by
      rw [h]
      simp
    cases x with
    | v y =>
      cases y with
      | loc l => rw [← k]; cases w with
        | nil => rfl
        | cons c r => cases r <;> rfl
      | _ => cases h
    | t c => rw [← k]; cases w with
        | nil => rfl
        | cons c r => cases r <;> rfl
    | b i c => rw [← k]; cases w with
        | nil => rfl
        | cons c r => cases r <;> rfl
  simp only [cop, e]
theorem ix_tab {st : Store} {x : EV} {t : T} (h : D.cellOf st x = some (.dict (tv t))) {w o : W} (e : tget t w = some o) : ixOp x (.v (.str w)) st = .ok (.v (.str o)) st := by
  cases x with
  | v y =>
    cases y with
    | loc l => simp [ixOp, h, e]
    | _ => cases h
  | t c => cases h; simp [ixOp, e]
  | b i c => cases h; simp [ixOp, e]
@[simp] theorem mem_avs (st : Store) (i : Nat) (f : List W) (w : W) : cop .mem (.v (.str w)) (.b i (.lst (avs f))) st = .ok (f.contains w) st := by
  have k : memL (.str w) (avs f) = some (f.contains w) := by
    unfold memL
    have e1 : ((avs f).all (·.pure)) = true := by simp [avs]
    rw [e1]
    simp only [p_str, Bool.and_true, if_true]
    congr 1
    induction f with
    | nil => rfl
    | cons g r ih =>
      show (Val.eqv (.str g) (.str w) || (avs r).any fun y => y.eqv (.str w)) = _
      rw [ih (by simp [avs])]
      simp only [Val.eqv, List.contains_cons]
      congr 1
      exact Bool.eq_iff_iff.mpr ⟨fun h => by simp_all, fun h => by simp_all⟩
  have e : memEV st (.v (.str w)) (.b i (.lst (avs f))) = some (f.contains w) := by
    rw [← k]
    cases w with
    | nil => rfl
    | cons c r => cases r <;> rfl
  simp only [cop, e]
@[simp] theorem nmem_avs (st : Store) (i : Nat) (f : List W) (w : W) : cop .nmem (.v (.str w)) (.b i (.lst (avs f))) st = .ok (!f.contains w) st := by
  have e := mem_avs st i f w
  simp only [cop] at e ⊢
  cases h : memEV st (.v (.str w)) (.b i (.lst (avs f))) with
  | none => rw [h] at e; cases e
  | some b => rw [h] at e; cases e; rfl
theorem forL_step {g : Gd} {body : Val → Sl → Store → SRes} {x : Val} {xs : List Val} {ρ ρ' : Sl} {st st' : Store} (hg : g.ok ρ st = true) (h : body x ρ st = .nx ρ' st' ∨ body x ρ st = .ct ρ' st') : forL g body (x :: xs) ρ st = forL g body xs ρ' st' := by
  rw [forL, if_pos hg]
  rcases h with h | h <;> rw [h]
theorem forL_out {g : Gd} {body : Val → Sl → Store → SRes} {x : Val} {xs : List Val} {ρ : Sl} {y : EV} {st st' : Store} (hg : g.ok ρ st = true) (h : body x ρ st = .rt y st') : forL g body (x :: xs) ρ st = .rt y st' := by
  rw [forL, if_pos hg, h]
theorem forL_nil {g : Gd} {body : Val → Sl → Store → SRes} {ρ : Sl} {st : Store} (hg : g.ok ρ st = true) : forL g body [] ρ st = .nx ρ st := by
  rw [forL, if_pos hg]
@[simp] theorem avs_snoc (f : List W) (w : W) : avs f ++ [.str w] = avs (f ++ [w]) := by simp [avs]
/-! ### open_words -/
def opensF : List W → List W → List W
  | f, [] => f
  | f, w :: r => opensF (if isOpen w && !f.contains w then f ++ [w] else f) r
def opens (ws : List W) : List W := opensF [] ws
theorem app_lst {st : Store} {vs : List Val} {v : Val} (h : vs.length < LIM) : appOp .append (.lst vs) (.v v) st = some (.lst (vs ++ [v])) := by
  show (if _ then _ else _) = _
  rw [if_pos h]
section
variable {scr : L2.V → Option (List Int)} {d : Nat}
theorem r_open_words (hd : 2 ≤ d) {n : W} {ws : List W} (hw : ∀ w ∈ ws, w.length ≤ LIM) (hl : ws.length ≤ LIM) (st : Store) : runF scr Tb d "open_words" [.v (atomV n ws)] st = .ok (.v (.tup (avs (opens ws)))) st := by
  obtain ⟨d, rfl⟩ := Nat.exists_eq_add_of_le' (show 1 ≤ d by omega)
  rw [runF_lk (fd := ⟨1, 3, b_open_words⟩) (by rfl) rfl (by decide)]
  have key : ∀ (A : Val) (ws : List W), (∀ w ∈ ws, w.length ≤ LIM) → ∀ f o, f.length + ws.length ≤ LIM → ∃ o', forL .no (forB (.nm 2) fun ρ2 st2 => evalSs ⟨runF scr Tb d, scr⟩ (.cons (.ite (.and (.call "is_open" (.lend (.var 2) .nil) []) (.cmp .nmem (.var 2) (.var 1))) (.cons (.app 1 .append (.var 2)) .nil) .nil) .nil) ρ2 st2) (avs ws) [some (.v (A)), some (.t (.lst (avs f)) false), o] st = .nx [some (.v (A)), some (.t (.lst (avs (opensF f ws))) false), o'] st := by
    intro A ws
    induction ws with
    | nil => intro _ f o _; exact ⟨o, forL_nil rfl⟩
    | cons w r ih =>
      intro hw f o hl
      have hl2 : f.length + (r.length + 1) ≤ LIM := hl
      have e1 := fun st => r_is_open (scr := scr) (d := d) (by omega) (hw w List.mem_cons_self) st
      have h2 := ih (fun x hx => hw x (List.mem_cons_of_mem _ hx)) (if isOpen w && !f.contains w then f ++ [w] else f) (some (.v (.str w))) (by split <;> (try simp) <;> omega)
      obtain ⟨o', h2⟩ := h2
      refine ⟨o', ?_⟩
      rw [show avs (w :: r) = .str w :: avs r from rfl, forL_step rfl (.inl ?_)]
      exact h2
      have hf : (avs f).length < LIM := by simp; omega
      cases h3 : isOpen w <;> by_cases h4 : w ∈ f <;> simp [forB, assignT, e1, h3, h4, appS, kindOk, appA, appK1, app_lst hf]
  obtain ⟨o', h⟩ := key (atomV n ws) ws hw [] none (by simpa using hl)
  have hf : evalS ⟨runF scr Tb d, scr⟩ (.for_ (.nm 2) (.seq (.ix (.var 0) (.con (.int 1)))) (.cons (.ite (.and (.call "is_open" (.lend (.var 2) .nil) []) (.cmp .nmem (.var 2) (.var 1))) (.cons (.app 1 .append (.var 2)) .nil) .nil) .nil)) [some (.v (atomV n ws)), some (.t (.lst []) false), none] st = .nx [some (.v (atomV n ws)), some (.t (.lst (avs (opens ws))) false), o'] st := by
    rw [x_for]
    simp only [atomV, x_seq, x_ix, x_con, x_var, List.getElem?_cons_zero, slE_v, bnd_ok, ix_tup1, src_tup, toR_ok, lockS, unlockS] at h ⊢
    rw [show avs [] = [] from rfl] at h
    rw [h]
    rfl
  unfold atomV at hf ⊢
  simp [b_open_words, startS, asgK_t, hf]
end
end K01


set_option Elab.async false
set_option linter.all false
set_option maxRecDepth 100000
set_option maxHeartbeats 2000000
/-! M6: k01: filled, renamed. -/
namespace K01
open D
def fill (t : T) (w : W) : W := (tget t w).getD w
section
variable {scr : L2.V → Option (List Int)} {d : Nat}
theorem map_avs {φ : Val → Option Val} {g : W → W} (ws : List W) (h : ∀ w, φ (.str w) = some (.str (g w))) : (avs ws).filterMap φ = avs (ws.map g) := by
  induction ws with
  | nil => rfl
  | cons w r ih =>
    show (Val.str w :: avs r).filterMap φ = .str (g w) :: avs (r.map g)
    rw [List.filterMap_cons, h, ih]
theorem r_filled (hd : 1 ≤ d) {n : W} {ws : List W} (hl : ws.length ≤ LIM) {sv : SV} {t : T} {st : Store} (ht : TabS st sv t) : runF scr Tb d "filled" [.v (atomV n ws), sv] st = .ok (.v (atomV n (ws.map (fill t)))) st := by
  obtain ⟨d, rfl⟩ := Nat.exists_eq_add_of_le' hd
  rw [runF_lk (fd := ⟨2, 3, b_filled⟩) (by rfl) rfl (by decide)]
  obtain ⟨x, e1, e2⟩ := tab_slE ht 1
  have key : evalE ⟨runF scr Tb d, scr⟩ (.lc [2] (.nm 2) (.seq (.ix (.var 0) (.con (.int 1)))) .none (.mth .get (.var 1) (.cons (.var 2) (.cons (.var 2) .nil)))) [some (.v (atomV n ws)), some sv, none] st = .ok (.t (.lst (avs (ws.map (fill t))))) st := by
    rw [x_lc]
    simp only [x_seq, x_ix, x_con, x_var, List.getElem?_cons_zero, slE_v, bnd_ok, atomV, ix_tup1, src_tup]
    rw [compL_map (φ := fun v => match v with | .str w => some (.str (fill t w)) | _ => none) (by rfl)]
    · rw [map_avs (g := fill t) ws (fun w => rfl)]
      simp [finL_ok, hl]
    · intro y hy
      obtain ⟨w, hw2, rfl⟩ := List.mem_map.mp hy
      simp [wipeS, assignT, e1, pre_tab e2, get_tab e2, fill]
  unfold atomV at key ⊢
  simp [b_filled, startS, key]
def rnm (m w : W) : W := if isOpen w then w ++ m else w
theorem r_renamed (hd : 2 ≤ d) {n m : W} {ws : List W} (hl : ws.length ≤ LIM) (hw : ∀ w ∈ ws, w.length + m.length ≤ LIM) (st : Store) : runF scr Tb d "renamed" [.v (atomV n ws), .v (.str m)] st = .ok (.v (atomV n (ws.map (rnm m)))) st := by
  obtain ⟨d, rfl⟩ := Nat.exists_eq_add_of_le' (show 1 ≤ d by omega)
  rw [runF_lk (fd := ⟨2, 3, b_renamed⟩) (by rfl) rfl (by decide)]
  have key : evalE ⟨runF scr Tb d, scr⟩ (.lc [2] (.nm 2) (.seq (.ix (.var 0) (.con (.int 1)))) .none (.ite (.call "is_open" (.lend (.var 2) .nil) []) (.bin .add (.var 2) (.var 1)) (.var 2))) [some (.v (atomV n ws)), some (.v (.str m)), none] st = .ok (.t (.lst (avs (ws.map (rnm m))))) st := by
    rw [x_lc]
    simp only [x_seq, x_ix, x_con, x_var, List.getElem?_cons_zero, slE_v, bnd_ok, atomV, ix_tup1, src_tup]
    rw [compL_map (φ := fun v => match v with | .str w => some (.str (rnm m w)) | _ => none) (by rfl)]
    · rw [map_avs (g := rnm m) ws (fun w => rfl)]
      simp [finL_ok, hl]
    · intro y hy
      obtain ⟨w, hw2, rfl⟩ := List.mem_map.mp hy
      have h3 := hw w hw2
      have e1 := fun st => r_is_open (scr := scr) (d := d) (by omega) (show w.length ≤ LIM by omega) st
      cases h : isOpen w <;> simp [wipeS, assignT, e1, rnm, h, bop_addS st h3]
  unfold atomV at key ⊢
  simp [b_renamed, startS, key]
end
end K01


set_option Elab.async false
set_option linter.all false
set_option maxRecDepth 100000
set_option maxHeartbeats 4000000
/-! M7: k01: matched, is_wider. -/
namespace K01
open D
/-- one fitted to the other, word by word -/
def fitF : T → List (W × W) → Option T
  | t, [] => some t
  | t, (w, g) :: r => if isOpen w then (if (tget t w).getD g = g then fitF (tput t w g) r else none) else (if w = g then fitF t r else none)
def fit (n : W) (ws : List W) (m : W) (vs : List W) (t : T) : Option T := if n = m ∧ ws.length = vs.length then fitF t (ws.zip vs) else none
def zvs (zs : List (W × W)) : List Val := zs.map fun p => .tup [.str p.1, .str p.2]
theorem zip_avs (a b : List W) : zipL (avs a) (avs b) = zvs (a.zip b) := by
  induction a generalizing b with
  | nil => rfl
  | cons x r ih => cases b with
    | nil => rfl
    | cons y s => show Val.tup [.str x, .str y] :: zipL (avs r) (avs s) = _; rw [ih]; rfl
theorem put_tab {t : T} {k v : W} (h : t.length < LIM) : putOp (.dict (tv t)) (.str k) (.str v) = some (.dict (tv (tput t k v))) := by
  simp [putOp, h]
@[simp] theorem natInt_eq (a b : Nat) : ((a : Int) == (b : Int)) = (a == b) := by
  by_cases h : a = b
  · subst h; simp
  · have : (a : Int) ≠ b := by omega
    rw [beq_eq_false_iff_ne.mpr h, beq_eq_false_iff_ne.mpr this]
theorem map_no (ρ : Sl) (r : SRes) : r.mapS (unlockS .no ρ) = r := by cases r <;> rfl
section
variable {scr : L2.V → Option (List Int)} {d : Nat}
abbrev wB : Ss := (.cons (.ite (.call "is_open" (.lend (.var 3) .nil) []) (.cons (.ite (.cmp .ne (.mth .get (.var 2) (.cons (.var 3) (.cons (.var 4) .nil))) (.var 4)) (.cons (.ret (.con (.bool false))) .nil) .nil) (.cons (.sput 2 (.var 3) (.var 4)) .nil)) (.cons (.ite (.cmp .ne (.var 3) (.var 4)) (.cons (.ret (.con (.bool false))) .nil) .nil) .nil)) .nil)
theorem wider_loop (hd : 1 ≤ d) (A B : Val) (st : Store) : ∀ (zs : List (W × W)), (∀ p ∈ zs, p.1.length ≤ LIM) → ∀ t o3 o4, t.length + zs.length ≤ LIM →
    ∃ p q, forL .no (forB (.tup [(.nm 3), (.nm 4)]) fun ρ2 st2 => evalSs ⟨runF scr Tb d, scr⟩ wB ρ2 st2) (zvs zs) [some (.v A), some (.v B), some (.t (.dict (tv t)) false), o3, o4] st = (match fitF t zs with | some t' => .nx [some (.v A), some (.v B), some (.t (.dict (tv t')) false), p, q] st | none => .rt (.v (.bool false)) st) := by
  intro zs
  induction zs with
  | nil => intro _ t o3 o4 _; exact ⟨o3, o4, forL_nil rfl⟩
  | cons p r ih =>
    obtain ⟨w, g⟩ := p
    intro hw t o3 o4 hl
    have hl2 : t.length + (r.length + 1) ≤ LIM := hl
    have e1 := fun st => r_is_open (scr := scr) (d := d) (by omega) (hw _ List.mem_cons_self) st
    have hr := fun x hx => hw x (List.mem_cons_of_mem _ hx)
    have ht : t.length < LIM := by omega
    have hc : D.cellOf st (.b 2 (.dict (tv t))) = some (.dict (tv t)) := rfl
    rw [show zvs ((w, g) :: r) = .tup [.str w, .str g] :: zvs r from rfl]
    unfold fitF
    by_cases h1 : isOpen w = true
    · rw [if_pos h1]
      by_cases h2 : (tget t w).getD g = g
      · rw [if_pos h2]
        have ih2 := ih hr (tput t w g) (some (.v (.str w))) (some (.v (.str g))) (by have := tput_len t w g; omega)
        obtain ⟨p, q, ih2⟩ := ih2
        refine ⟨p, q, ?_⟩
        rw [forL_step rfl (.inl ?_)]
        exact ih2
        simp [forB, assignT, assignTs, e1, h1, h2, sputS, sputK, pre_tab hc, get_tab hc, put_tab ht]
      · rw [if_neg h2]
        exact ⟨none, none, forL_out rfl (by simp [forB, assignT, assignTs, e1, h1, h2, sputS, sputK, pre_tab hc, get_tab hc, put_tab ht])⟩
    · rw [if_neg h1]
      rw [Bool.not_eq_true] at h1
      by_cases h2 : w = g
      · rw [if_pos h2]
        have ih2 := ih hr t (some (.v (.str w))) (some (.v (.str g))) (by omega)
        obtain ⟨p, q, ih2⟩ := ih2
        refine ⟨p, q, ?_⟩
        rw [forL_step rfl (.inl ?_)]
        exact ih2
        subst h2
        simp [forB, assignT, assignTs, e1, h1]
      · rw [if_neg h2]
        exact ⟨none, none, forL_out rfl (by simp [forB, assignT, assignTs, e1, h1, h2])⟩
theorem r_is_wider (hd : 2 ≤ d) {n m : W} {ws vs : List W} (hw : ∀ w ∈ ws, w.length ≤ LIM) (hl : ws.length ≤ LIM) (st : Store) : runF scr Tb d "is_wider" [.v (atomV n ws), .v (atomV m vs)] st = .ok (.v (.bool (fit n ws m vs []).isSome)) st := by
  obtain ⟨d, rfl⟩ := Nat.exists_eq_add_of_le' (show 1 ≤ d by omega)
  rw [runF_lk (fd := ⟨2, 5, b_is_wider⟩) (by rfl) rfl (by decide)]
  have h := wider_loop (scr := scr) (d := d) (by omega) (atomV n ws) (atomV m vs) st (ws.zip vs) (fun p hp => hw _ (List.of_mem_zip hp).1) [] none none (by simp; omega)
  have ef : finD [] st = .ok (.t (.dict [])) st := rfl
  have hf : evalS ⟨runF scr Tb d, scr⟩ (.for_ (.tup [(.nm 3), (.nm 4)]) (.zip (.ix (.var 0) (.con (.int 1))) (.ix (.var 1) (.con (.int 1)))) wB) [some (.v (atomV n ws)), some (.v (atomV m vs)), some (.t (.dict []) false), none, none] st = forL .no (forB (.tup [(.nm 3), (.nm 4)]) fun ρ2 st2 => evalSs ⟨runF scr Tb d, scr⟩ wB ρ2 st2) (zvs (ws.zip vs)) [some (.v (atomV n ws)), some (.v (atomV m vs)), some (.t (.dict (tv [])) false), none, none] st := by
    rw [x_for]
    simp only [atomV, x_zip, x_ix, x_con, x_var, List.getElem?_cons_zero, List.getElem?_cons_succ, slE_v, bnd_ok, ix_tup1, zip_tt, toR_ok, lockS, zip_avs]
    rw [map_no]
    rfl
  unfold fit
  obtain ⟨p, q, h⟩ := h
  unfold atomV at hf h ⊢
  by_cases h1 : n = m
  · subst h1
    by_cases h2 : ws.length = vs.length
    · simp [b_is_wider, startS, ef, asgK_t, h2]
      rw [hf, h]
      cases fitF [] (ws.zip vs) <;> simp
    · simp [b_is_wider, startS, ef, asgK_t, h2]
  · simp [b_is_wider, startS, ef, asgK_t, h1]
end
end K01


set_option Elab.async false
set_option linter.all false
set_option maxRecDepth 100000
set_option maxHeartbeats 4000000
/-! M8: k01: matched, canonical. -/
namespace K01
open D
section
variable {scr : L2.V → Option (List Int)} {d : Nat}
abbrev mB : Ss := (.cons (.ite (.call "is_open" (.lend (.var 4) .nil) []) (.cons (.ite (.cmp .ne (.mth .get (.var 3) (.cons (.var 4) (.cons (.var 5) .nil))) (.var 5)) (.cons (.ret (.con .non)) .nil) .nil) (.cons (.sput 3 (.var 4) (.var 5)) .nil)) (.cons (.ite (.cmp .ne (.var 4) (.var 5)) (.cons (.ret (.con .non)) .nil) .nil) .nil)) .nil)
theorem matched_loop (hd : 1 ≤ d) (A B : Val) (C : SV) (st : Store) : ∀ (zs : List (W × W)), (∀ p ∈ zs, p.1.length ≤ LIM) → ∀ t o3 o4, t.length + zs.length ≤ LIM →
    ∃ p q, forL .no (forB (.tup [(.nm 4), (.nm 5)]) fun ρ2 st2 => evalSs ⟨runF scr Tb d, scr⟩ mB ρ2 st2) (zvs zs) [some (.v A), some (.v B), some C, some (.t (.dict (tv t)) false), o3, o4] st = (match fitF t zs with | some t' => .nx [some (.v A), some (.v B), some C, some (.t (.dict (tv t')) false), p, q] st | none => .rt (.v .non) st) := by
  intro zs
  induction zs with
  | nil => intro _ t o3 o4 _; exact ⟨o3, o4, forL_nil rfl⟩
  | cons p r ih =>
    obtain ⟨w, g⟩ := p
    intro hw t o3 o4 hl
    have hl2 : t.length + (r.length + 1) ≤ LIM := hl
    have e1 := fun st => r_is_open (scr := scr) (d := d) (by omega) (hw _ List.mem_cons_self) st
    have hr := fun x hx => hw x (List.mem_cons_of_mem _ hx)
    have ht : t.length < LIM := by omega
    have hc : D.cellOf st (.b 3 (.dict (tv t))) = some (.dict (tv t)) := rfl
    rw [show zvs ((w, g) :: r) = .tup [.str w, .str g] :: zvs r from rfl]
    unfold fitF
    by_cases h1 : isOpen w = true
    · rw [if_pos h1]
      by_cases h2 : (tget t w).getD g = g
      · rw [if_pos h2]
        obtain ⟨p, q, ih2⟩ := ih hr (tput t w g) (some (.v (.str w))) (some (.v (.str g))) (by have := tput_len t w g; omega)
        refine ⟨p, q, ?_⟩
        rw [forL_step rfl (.inl ?_)]
        exact ih2
        simp [forB, assignT, assignTs, e1, h1, h2, sputS, sputK, pre_tab hc, get_tab hc, put_tab ht]
      · rw [if_neg h2]
        exact ⟨none, none, forL_out rfl (by simp [forB, assignT, assignTs, e1, h1, h2, sputS, sputK, pre_tab hc, get_tab hc, put_tab ht])⟩
    · rw [if_neg h1]
      rw [Bool.not_eq_true] at h1
      by_cases h2 : w = g
      · rw [if_pos h2]
        obtain ⟨p, q, ih2⟩ := ih hr t (some (.v (.str w))) (some (.v (.str g))) (by omega)
        refine ⟨p, q, ?_⟩
        rw [forL_step rfl (.inl ?_)]
        exact ih2
        subst h2
        simp [forB, assignT, assignTs, e1, h1]
      · rw [if_neg h2]
        exact ⟨none, none, forL_out rfl (by simp [forB, assignT, assignTs, e1, h1, h2])⟩
def tabO : Option T → EV
  | none => .v .non
  | some t => .t (.dict (tv t))
theorem r_matched (hd : 2 ≤ d) {n m : W} {ws vs : List W} {t : T} (hw : ∀ w ∈ ws, w.length ≤ LIM) (hl : t.length + ws.length ≤ LIM) (st : Store) : runF scr Tb d "matched" [.v (atomV n ws), .v (atomV m vs), .t (.dict (tv t)) true] st = .ok (tabO (fit n ws m vs t)) st := by
  obtain ⟨d, rfl⟩ := Nat.exists_eq_add_of_le' (show 1 ≤ d by omega)
  rw [runF_lk (fd := ⟨3, 6, b_matched⟩) (by rfl) rfl (by decide)]
  obtain ⟨p, q, h⟩ := matched_loop (scr := scr) (d := d) (by omega) (atomV n ws) (atomV m vs) (.t (.dict (tv t)) true) st (ws.zip vs) (fun p hp => hw _ (List.of_mem_zip hp).1) t none none (by simp; omega)
  have hf : evalS ⟨runF scr Tb d, scr⟩ (.for_ (.tup [(.nm 4), (.nm 5)]) (.zip (.ix (.var 0) (.con (.int 1))) (.ix (.var 1) (.con (.int 1)))) mB) [some (.v (atomV n ws)), some (.v (atomV m vs)), some (.t (.dict (tv t)) true), some (.t (.dict (tv t)) false), none, none] st = forL .no (forB (.tup [(.nm 4), (.nm 5)]) fun ρ2 st2 => evalSs ⟨runF scr Tb d, scr⟩ mB ρ2 st2) (zvs (ws.zip vs)) [some (.v (atomV n ws)), some (.v (atomV m vs)), some (.t (.dict (tv t)) true), some (.t (.dict (tv t)) false), none, none] st := by
    rw [x_for]
    simp only [atomV, x_zip, x_ix, x_con, x_var, List.getElem?_cons_zero, List.getElem?_cons_succ, slE_v, bnd_ok, ix_tup1, zip_tt, toR_ok, lockS, zip_avs]
    rw [map_no]
  have ed : ∀ st, biOp .dict [.b 2 (.dict (tv t))] st = .ok (.t (.dict (tv t))) st := fun st => by simp [biOp, Val.isTup, tv]
  unfold fit
  unfold atomV at hf h ⊢
  by_cases h1 : n = m
  · subst h1
    by_cases h2 : ws.length = vs.length
    · simp [b_matched, startS, asgK_t, h2, ed]
      rw [hf, h]
      cases fitF t (ws.zip vs) <;> simp [tabO, retK, given]
    · simp [b_matched, startS, asgK_t, h2, tabO]
  · simp [b_matched, startS, asgK_t, h1, tabO]
/-! ### canonical -/
def grK (k : Nat) : W := [(GR[k]?).getD 'A']
def cnm : Nat → List W → T
  | _, [] => []
  | k, w :: r => (w, grK k) :: cnm (k + 1) r
def canT (ws : List W) : T := tall (cnm 0 (opens ws)) []
def canon (ws : List W) : List W := ws.map (fill (canT ws))
theorem opensF_len (f ws : List W) : (opensF f ws).length ≤ f.length + ws.length := by
  induction ws generalizing f with
  | nil => simp [opensF]
  | cons w r ih =>
    have := ih (if isOpen w && !f.contains w then f ++ [w] else f)
    have h2 : (if isOpen w && !f.contains w then f ++ [w] else f).length ≤ f.length + 1 := by split <;> simp
    show (opensF (if isOpen w && !f.contains w then f ++ [w] else f) r).length ≤ f.length + (r.length + 1)
    omega
theorem enum_mem {x : Val} : ∀ {os : List W} {k : Nat}, x ∈ enumL k (avs os) → ∃ i w, x = .tup [.int (i : Nat), .str w] ∧ i < k + os.length
  | [], _, h => by cases h
  | w :: r, k, h => by
    have h : x ∈ (.tup [.int k, .str w] :: enumL (k + 1) (avs r)) := h
    cases List.mem_cons.mp h with
    | inl e => exact ⟨k, w, e, by simp⟩
    | inr e =>
      obtain ⟨i, u, e1, e2⟩ := enum_mem e
      exact ⟨i, u, e1, by simp; omega⟩
def canφ : Val → Option (Val × Val)
  | .tup [.int i, .str w] => some (.str w, .str (grK i.toNat))
  | _ => none
theorem enum_can : ∀ (os : List W) (k : Nat), (enumL k (avs os)).filterMap canφ = tv (cnm k os)
  | [], _ => rfl
  | w :: r, k => by
    show (.tup [.int k, .str w] :: enumL (k + 1) (avs r)).filterMap canφ = (.str w, .str (grK k)) :: tv (cnm (k + 1) r)
    rw [List.filterMap_cons, enum_can r (k + 1)]
    rfl
theorem cnm_len : ∀ (os : List W) (k : Nat), (cnm k os).length = os.length
  | [], _ => rfl
  | _ :: r, k => by show (cnm (k + 1) r).length + 1 = _; rw [cnm_len r]; rfl
theorem r_canonical (hd : 3 ≤ d) {n : W} {ws : List W} (hw : ∀ w ∈ ws, w.length ≤ LIM) (hl : ws.length ≤ 26) (st : Store) : runF scr Tb d "canonical" [.v (atomV n ws)] st = .ok (.v (atomV n (canon ws))) st := by
  obtain ⟨d, rfl⟩ := Nat.exists_eq_add_of_le' (show 1 ≤ d by omega)
  rw [runF_lk (fd := ⟨1, 4, b_canonical⟩) (by rfl) rfl (by decide)]
  have hL : ws.length ≤ LIM := by unfold LIM; omega
  have e1 := r_open_words (scr := scr) (d := d) (by omega) (n := n) hw hL st
  have e2 : (opens ws).length ≤ 26 := Nat.le_trans (opensF_len [] ws) (by simpa using hl)
  have key : evalE ⟨runF scr Tb d, scr⟩ (.dc [2, 3] (.tup [(.nm 2), (.nm 3)]) (.enum (.call "open_words" (.lend (.var 0) .nil) [])) .none (.var 3) (.ix (.glob "GREAT" v_GREAT) (.var 2))) [some (.v (atomV n ws)), none, none, none] st = .ok (.t (.dict (tv (canT ws)))) st := by
    rw [x_dc]
    simp only [x_enum, x_call, x_asLend, x_asNil, argOf_v, x_var, List.getElem?_cons_zero, slE_v, bnd_ok, List.map_nil, List.append_nil, e1, enum_t]
    rw [compL_map (φ := canφ) (by rfl)]
    · rw [enum_can, bnd_ok]
      have : (cnm 0 (opens ws)).length ≤ LIM := by rw [cnm_len]; unfold LIM; omega
      simp [finD, this, x_pure]
      rw [show ([] : List (Val × Val)) = tv [] from rfl, mergeD_tv]
      rfl
    · intro y hy
      obtain ⟨i, w, rfl, hi⟩ := enum_mem hy
      have h26 : i < 26 := by omega
      have e3 : L2.atI GR (i : Int) = some ((GR[i]?).getD 'A') := by
        rw [atN, List.getElem?_eq_getElem (by exact h26)]; rfl
      have e4 : ∀ st, ixOp (.v (.str GR)) (.v (.int i)) st = .ok (.v (.str (grK i))) st := fun st => ix_strO st (by decide) e3
      simp [wipeS, assignT, assignTs, vG, e4, canφ]
  have ef := r_filled (scr := scr) (d := d) (by omega) (n := n) hL (sv := .t (.dict (tv (canT ws))) true) (t := canT ws) (st := st) rfl
  unfold atomV at key ef ⊢
  simp [b_canonical, startS, key, asgK_t, ef, canon]
end
end K01


set_option Elab.async false
set_option linter.all false
set_option maxRecDepth 100000
set_option maxHeartbeats 4000000
/-! M9: k01: last_word, made_one. -/
namespace K01
open D
def lastN : Nat → T → W → Option W
  | k, t, w => match tget t w with
    | none => some w
    | some u => match k with
      | 0 => none
      | k + 1 => lastN k t u
termination_by k => k
def root (t : T) (w : W) : W := (lastN t.length t w).getD w
def Good (t : T) : Prop := ∀ w, ∃ r, lastN t.length t w = some r
theorem good_root {t : T} (h : Good t) (w : W) : lastN t.length t w = some (root t w) := by
  obtain ⟨r, e⟩ := h w
  rw [root, e]; rfl
theorem lastN_root : ∀ {k : Nat} {t : T} {w r : W}, lastN k t w = some r → tget t r = none
  | k, t, w, r, h => by
    unfold lastN at h
    cases e : tget t w with
    | none => rw [e] at h; cases h; exact e
    | some u => rw [e] at h; cases k with
      | zero => cases h
      | succ k => exact lastN_root h
theorem lastN_at {k : Nat} {t : T} {w : W} (h : tget t w = none) : lastN k t w = some w := by
  unfold lastN; rw [h]
theorem tget_snoc (t : T) (a b w : W) : tget (t ++ [(a, b)]) w = (tget t w).or (if a = w then some b else none) := by
  unfold tget
  rw [List.find?_append]
  cases h : t.find? fun p => p.1 == w with
  | some p => simp
  | none => by_cases h2 : a = w <;> simp [h2]
theorem lastN_put {t : T} {a b : W} (ha : tget t a = none) (hb : tget t b = none) (hab : a ≠ b) : ∀ {k : Nat} {w r : W}, lastN k t w = some r → lastN (k + 1) (t ++ [(a, b)]) w = some (if r = a then b else r)
  | k, w, r, h => by
    unfold lastN at h ⊢
    rw [tget_snoc]
    cases e : tget t w with
    | none =>
      rw [e] at h
      cases h
      by_cases h2 : a = w
      · subst h2
        simp
        refine lastN_at ?_
        rw [tget_snoc, hb, if_neg hab]; rfl
      · have h3 : ¬ w = a := fun e => h2 e.symm
        simp [h2, h3]
    | some u =>
      rw [e] at h
      cases k with
      | zero => cases h
      | succ k => exact lastN_put ha hb hab h
theorem good_put {t : T} {a b : W} (h : Good t) (ha : tget t a = none) (hb : tget t b = none) (hab : a ≠ b) : Good (t ++ [(a, b)]) := fun w => by
  obtain ⟨r, e⟩ := h w
  exact ⟨_, by rw [List.length_append]; exact lastN_put ha hb hab e⟩
theorem root_put {t : T} {a b : W} (h : Good t) (ha : tget t a = none) (hb : tget t b = none) (hab : a ≠ b) (w : W) : root (t ++ [(a, b)]) w = if root t w = a then b else root t w := by
  have e := lastN_put ha hb hab (good_root h w)
  rw [root, List.length_append, show t.length + [(a, b)].length = t.length + 1 from rfl, e]; rfl
theorem root_none {t : T} (h : Good t) (w : W) : tget t (root t w) = none := lastN_root (good_root h w)
theorem tput_new {t : T} {a b : W} (h : tget t a = none) : tput t a b = t ++ [(a, b)] := by
  unfold tput
  rw [if_neg]
  intro h2
  obtain ⟨p, hp, e⟩ := List.any_eq_true.mp h2
  unfold tget at h
  have h : t.find? (fun p => p.1 == a) = none := by simpa using h
  rw [List.find?_eq_none] at h
  exact h p hp e
def mkF : T → List (W × W) → Option T
  | t, [] => some t
  | t, (w, g) :: r => if root t w = root t g then mkF t r else if isOpen (root t w) then mkF (t ++ [(root t w, root t g)]) r else if isOpen (root t g) then mkF (t ++ [(root t g, root t w)]) r else none
/-- all words of a table and of what it binds them to are short -/
def Sm (t : T) : Prop := ∀ p ∈ t, p.2.length ≤ LIM
theorem tget_mem {t : T} {w u : W} (h : tget t w = some u) : (w, u) ∈ t := by
  unfold tget at h
  cases e : t.find? fun p => p.1 == w with
  | none => rw [e] at h; cases h
  | some p =>
    rw [e] at h
    have e1 := List.find?_some e
    have e2 := List.mem_of_find?_eq_some e
    cases p with
    | mk x y =>
      simp at e1 h
      subst e1; subst h
      exact e2
theorem lastN_sm {t : T} (hs : Sm t) : ∀ {k : Nat} {w r : W}, w.length ≤ LIM → lastN k t w = some r → r.length ≤ LIM
  | k, w, r, hw, h => by
    unfold lastN at h
    cases e : tget t w with
    | none => rw [e] at h; cases h; exact hw
    | some u =>
      rw [e] at h
      cases k with
      | zero => cases h
      | succ k => exact lastN_sm hs (hs _ (tget_mem e)) h
theorem sm_put {t : T} {a b : W} (hs : Sm t) (hb : b.length ≤ LIM) : Sm (t ++ [(a, b)]) := fun p hp => by
  cases List.mem_append.mp hp with
  | inl h => exact hs p h
  | inr h => cases List.mem_singleton.mp h; exact hb
section
variable {scr : L2.V → Option (List Int)} {d : Nat}
theorem r_last_word (hd : 1 ≤ d) {sv : SV} {t : T} {w r : W} {k : Nat} {st : Store} (ht : TabS st sv t) (hk : k < WFUEL) (h : lastN k t w = some r) : runF scr Tb d "last_word" [sv, .v (.str w)] st = .ok (.v (.str r)) st := by
  obtain ⟨d, rfl⟩ := Nat.exists_eq_add_of_le' hd
  rw [runF_lk (fd := ⟨2, 2, b_last_word⟩) (by rfl) rfl (by decide)]
  obtain ⟨x, e1, e2⟩ := tab_slE ht 0
  have key : ∀ (m k : Nat) (w : W), k < m → lastN k t w = some r → whL (fun ρ1 => evalE ⟨runF scr Tb d, scr⟩ (.cmp .mem (.var 1) (.var 0)) ρ1 >>= isB) (fun ρ1 st1 => evalSs ⟨runF scr Tb d, scr⟩ (.cons (.asg (.nm 1) (.ix (.var 0) (.var 1))) .nil) ρ1 st1) m [some sv, some (.v (.str w))] st = .nx [some sv, some (.v (.str r))] st := by
    intro m
    induction m with
    | zero => intro k w hk; omega
    | succ m ih =>
      intro k w hk h
      unfold lastN at h
      cases e : tget t w with
      | none =>
        rw [e] at h
        cases h
        exact whL_end (by simp [e1, mem_tab e2, e])
      | some u =>
        rw [e] at h
        cases k with
        | zero => cases h
        | succ k =>
          rw [whL_turn (ρ' := [some sv, some (.v (.str u))]) (by simp [e1, mem_tab e2, e]) (.inl (by simp [e1, ix_tab e2 e, asgK_nm]))]
          exact ih k u (by omega) h
  have h2 := key WFUEL k w hk h
  simp [b_last_word, startS]
  rw [x_whl, h2]
  simp
end
end K01


set_option Elab.async false
set_option linter.all false
set_option maxRecDepth 100000
set_option maxHeartbeats 4000000
/-! M10: k01: made_one. -/
namespace K01
open D
section
variable {scr : L2.V → Option (List Int)} {d : Nat}
abbrev oB : Ss := (.cons (.asg2 (.nm 5) (.nm 6) (.call "last_word" (.lend (.var 2) (.lend (.var 3) .nil)) []) (.call "last_word" (.lend (.var 2) (.lend (.var 4) .nil)) [])) (.cons (.ite (.cmp .eq (.var 5) (.var 6)) (.cons .cnt .nil) .nil) (.cons (.ite (.call "is_open" (.lend (.var 5) .nil) []) (.cons (.sput 2 (.var 5) (.var 6)) .nil) (.cons (.ite (.call "is_open" (.lend (.var 6) .nil) []) (.cons (.sput 2 (.var 6) (.var 5)) .nil) (.cons (.ret (.con .non)) .nil)) .nil)) .nil)))
theorem one_loop (hd : 1 ≤ d) (A B : Val) (st : Store) : ∀ (zs : List (W × W)), (∀ p ∈ zs, p.1.length ≤ LIM ∧ p.2.length ≤ LIM) → ∀ t o3 o4 o5 o6 o7, t.length + zs.length ≤ LIM → Good t → Sm t →
    ∃ p3 p4 p5 p6 p7, forL .no (forB (.tup [(.nm 3), (.nm 4)]) fun ρ2 st2 => evalSs ⟨runF scr Tb d, scr⟩ oB ρ2 st2) (zvs zs) [some (.v A), some (.v B), some (.t (.dict (tv t)) false), o3, o4, o5, o6, o7] st = (match mkF t zs with | some t' => .nx [some (.v A), some (.v B), some (.t (.dict (tv t')) false), p3, p4, p5, p6, p7] st | none => .rt (.v .non) st) := by
  intro zs
  induction zs with
  | nil => intro _ t o3 o4 o5 o6 o7 _ _ _; exact ⟨o3, o4, o5, o6, o7, forL_nil rfl⟩
  | cons p r ih =>
    obtain ⟨w, g⟩ := p
    intro hw t o3 o4 o5 o6 o7 hl hg hs
    have hl2 : t.length + (r.length + 1) ≤ LIM := hl
    have hr := fun x hx => hw x (List.mem_cons_of_mem _ hx)
    have ht : t.length < LIM := by omega
    have hk : t.length < WFUEL := by unfold LIM at ht; unfold WFUEL; omega
    have r1 := good_root hg w
    have r2 := good_root hg g
    have s1 := lastN_sm hs (hw _ List.mem_cons_self).1 r1
    have s2 := lastN_sm hs (hw _ List.mem_cons_self).2 r2
    have e1 := fun st => r_is_open (scr := scr) (d := d) (by omega) s1 st
    have e2 := fun st => r_is_open (scr := scr) (d := d) (by omega) s2 st
    have l1 : ∀ st, runF scr Tb d "last_word" [.t (.dict (tv t)) true, .v (.str w)] st = .ok (.v (.str (root t w))) st := fun st => r_last_word (by omega) (t := t) (sv := .t (.dict (tv t)) true) (st := st) rfl hk r1
    have l2 : ∀ st, runF scr Tb d "last_word" [.t (.dict (tv t)) true, .v (.str g)] st = .ok (.v (.str (root t g))) st := fun st => r_last_word (by omega) (t := t) (sv := .t (.dict (tv t)) true) (st := st) rfl hk r2
    have n1 := root_none hg w
    have n2 := root_none hg g
    rw [show zvs ((w, g) :: r) = .tup [.str w, .str g] :: zvs r from rfl]
    unfold mkF
    generalize root t w = a at *
    generalize root t g = b at *
    have p1 : putOp (.dict (tv t)) (.str a) (.str b) = some (.dict (tv (t ++ [(a, b)]))) := by rw [put_tab ht, tput_new n1]
    have p2 : putOp (.dict (tv t)) (.str b) (.str a) = some (.dict (tv (t ++ [(b, a)]))) := by rw [put_tab ht, tput_new n2]
    have tn : ∀ (st : Store) (x : EV × EV) (ρ : Sl) (i j : Nat) (v w : Val), x = (.v v, .v w) → i < ρ.length → j < ρ.length → asg2K (.nm i) (.nm j) ρ x st = .nx ((ρ.set i (some (.v v))).set j (some (.v w))) st := by
      intro st x ρ i j v w e hi hj
      subst e
      simp [asg2K, assigns1, assign1, assignT, hi, hj]
    by_cases h0 : a = b
    · rw [if_pos h0]
      obtain ⟨p3, p4, p5, p6, p7, ih2⟩ := ih hr t (some (.v (.str w))) (some (.v (.str g))) (some (.v (.str a))) (some (.v (.str b))) o7 (by omega) hg hs
      refine ⟨p3, p4, p5, p6, p7, ?_⟩
      rw [forL_step rfl (.inr ?_)]
      exact ih2
      subst h0
      simp [forB, assignT, assignTs, l1, l2, asg2K, assigns1, assign1]
    · rw [if_neg h0]
      by_cases h1 : isOpen a = true
      · rw [if_pos h1]
        obtain ⟨p3, p4, p5, p6, p7, ih2⟩ := ih hr (t ++ [(a, b)]) (some (.v (.str w))) (some (.v (.str g))) (some (.v (.str a))) (some (.v (.str b))) o7 (by simp; omega) (good_put hg n1 n2 h0) (sm_put hs s2)
        refine ⟨p3, p4, p5, p6, p7, ?_⟩
        rw [forL_step rfl (.inl ?_)]
        exact ih2
        simp [forB, assignT, assignTs, l1, l2, asg2K, assigns1, assign1, h0, e1, h1, sputS, sputK, p1]
      · rw [if_neg h1]
        rw [Bool.not_eq_true] at h1
        by_cases h2 : isOpen b = true
        · rw [if_pos h2]
          obtain ⟨p3, p4, p5, p6, p7, ih2⟩ := ih hr (t ++ [(b, a)]) (some (.v (.str w))) (some (.v (.str g))) (some (.v (.str a))) (some (.v (.str b))) o7 (by simp; omega) (good_put hg n2 n1 fun e => h0 e.symm) (sm_put hs s1)
          refine ⟨p3, p4, p5, p6, p7, ?_⟩
          rw [forL_step rfl (.inl ?_)]
          exact ih2
          simp [forB, assignT, assignTs, l1, l2, asg2K, assigns1, assign1, h0, e1, e2, h1, h2, sputS, sputK, p2]
        · rw [if_neg h2]
          rw [Bool.not_eq_true] at h2
          exact ⟨none, none, none, none, none, forL_out rfl (by simp [forB, assignT, assignTs, l1, l2, asg2K, assigns1, assign1, h0, e1, e2, h1, h2])⟩
def rooted (t : T) : T := tall (t.map fun p => (p.1, root t p.1)) []
def mk (n : W) (ws : List W) (m : W) (vs : List W) : Option T := if n = m ∧ ws.length = vs.length then (mkF [] (ws.zip vs)).map rooted else none
theorem mkF_len : ∀ {zs : List (W × W)} {t t' : T}, mkF t zs = some t' → t'.length ≤ t.length + zs.length
  | [], t, t', h => by cases h; simp
  | (w, g) :: r, t, t', h => by
    unfold mkF at h
    have e : ((w, g) :: r).length = r.length + 1 := rfl
    rw [e]
    split at h
    · have := mkF_len h; omega
    · split at h
      · have := mkF_len h; simp at this; omega
      · split at h
        · have := mkF_len h; simp at this; omega
        · cases h
theorem mkF_good : ∀ {zs : List (W × W)} {t t' : T}, Good t → mkF t zs = some t' → Good t'
  | [], t, t', hg, h => by cases h; exact hg
  | (w, g) :: r, t, t', hg, h => by
    unfold mkF at h
    split at h
    · exact mkF_good hg h
    · rename_i h0
      split at h
      · exact mkF_good (good_put hg (root_none hg w) (root_none hg g) h0) h
      · split at h
        · exact mkF_good (good_put hg (root_none hg g) (root_none hg w) fun e => h0 e.symm) h
        · cases h
def rtφ (f : W → W) : Val → Option (Val × Val)
  | .str w => some (.str w, .str (f w))
  | _ => none
theorem root_map (t : T) (f : W → W) : ((tv t).map (·.1)).filterMap (rtφ f) = tv (t.map fun p => (p.1, f p.1)) := by
  induction t with
  | nil => rfl
  | cons p r ih =>
    show (Val.str p.1 :: (tv r).map (·.1)).filterMap (rtφ f) = (Val.str p.1, Val.str (f p.1)) :: tv (r.map fun p => (p.1, f p.1))
    rw [List.filterMap_cons, ih]
    rfl
theorem good_nil : Good [] := fun w => ⟨w, lastN_at rfl⟩
theorem r_made_one (hd : 2 ≤ d) {n m : W} {ws vs : List W} (hw : ∀ w ∈ ws, w.length ≤ LIM) (hv : ∀ w ∈ vs, w.length ≤ LIM) (hl : ws.length ≤ LIM) (st : Store) : runF scr Tb d "made_one" [.v (atomV n ws), .v (atomV m vs)] st = .ok (tabO (mk n ws m vs)) st := by
  obtain ⟨d, rfl⟩ := Nat.exists_eq_add_of_le' (show 1 ≤ d by omega)
  rw [runF_lk (fd := ⟨2, 8, b_made_one⟩) (by rfl) rfl (by decide)]
  obtain ⟨p3, p4, p5, p6, p7, h⟩ := one_loop (scr := scr) (d := d) (by omega) (atomV n ws) (atomV m vs) st (ws.zip vs) (fun p hp => ⟨hw _ (List.of_mem_zip hp).1, hv _ (List.of_mem_zip hp).2⟩) [] none none none none none (by simp; omega) good_nil (fun p hp => by cases hp)
  have ef : finD [] st = .ok (.t (.dict [])) st := rfl
  have hf : evalS ⟨runF scr Tb d, scr⟩ (.for_ (.tup [(.nm 3), (.nm 4)]) (.zip (.ix (.var 0) (.con (.int 1))) (.ix (.var 1) (.con (.int 1)))) oB) [some (.v (atomV n ws)), some (.v (atomV m vs)), some (.t (.dict []) false), none, none, none, none, none] st = forL .no (forB (.tup [(.nm 3), (.nm 4)]) fun ρ2 st2 => evalSs ⟨runF scr Tb d, scr⟩ oB ρ2 st2) (zvs (ws.zip vs)) [some (.v (atomV n ws)), some (.v (atomV m vs)), some (.t (.dict (tv [])) false), none, none, none, none, none] st := by
    rw [x_for]
    simp only [atomV, x_zip, x_ix, x_con, x_var, List.getElem?_cons_zero, List.getElem?_cons_succ, slE_v, bnd_ok, ix_tup1, zip_tt, toR_ok, lockS, zip_avs]
    rw [map_no]
    rfl
  have key : ∀ t, mkF [] (ws.zip vs) = some t → evalE ⟨runF scr Tb d, scr⟩ (.dc [7] (.nm 7) (.seq (.var 2)) .none (.var 7) (.call "last_word" (.lend (.var 2) (.lend (.var 7) .nil)) [])) [some (.v (atomV n ws)), some (.v (atomV m vs)), some (.t (.dict (tv t)) false), p3, p4, p5, p6, p7] st = .ok (.t (.dict (tv (rooted t)))) st := by
    intro t ht
    have hg := mkF_good good_nil ht
    have hlen : t.length ≤ LIM := by have := mkF_len ht; simp at this; omega
    have hk : t.length < WFUEL := by unfold LIM at hlen; unfold WFUEL; omega
    rw [x_dc]
    simp only [x_seq, x_var, List.getElem?_cons_zero, List.getElem?_cons_succ, slE_t, bnd_ok, src_bd]
    rw [compL_map (φ := rtφ (root t)) (by rfl)]
    · rw [bnd_ok, root_map t (root t)]
      simp [finD, hlen, x_pure]
      rw [show ([] : List (Val × Val)) = tv [] from rfl, mergeD_tv]
      rfl
    · intro y hy
      obtain ⟨q, hq, rfl⟩ := List.mem_map.mp hy
      obtain ⟨q2, _, rfl⟩ := List.mem_map.mp hq
      have l1 : ∀ w st, runF scr Tb d "last_word" [.t (.dict (tv t)) true, .v (.str w)] st = .ok (.v (.str (root t w))) st := fun w st => r_last_word (by omega) (t := t) (sv := .t (.dict (tv t)) true) (st := st) rfl hk (good_root hg w)
      simp [wipeS, assignT, l1, rtφ]
  unfold mk
  unfold atomV at hf h key ⊢
  by_cases h1 : n = m
  · subst h1
    by_cases h2 : ws.length = vs.length
    · simp [b_made_one, startS, asgK_t, h2, ef]
      rw [hf, h]
      cases e : mkF [] (ws.zip vs) with
      | none => simp [tabO]
      | some t => simp [tabO, key t e]
    · simp [b_made_one, startS, asgK_t, h2, tabO, ef]
  · simp [b_made_one, startS, asgK_t, h1, tabO, ef]
end
end K01


set_option Elab.async false
set_option linter.all false
set_option maxRecDepth 100000
set_option maxHeartbeats 4000000
/-! M11: k01: told, word_at. -/
namespace K01
open D
def joinW : List W → W
  | [] => []
  | [w] => w
  | w :: v :: r => w ++ ',' :: joinW (v :: r)
def tell (n : W) (ws : List W) : W := n ++ (if ws = [] then [] else '(' :: joinW ws ++ [')'])
theorem joinS_avs : ∀ (ws : List W), joinS [','] (avs ws) = some (joinW ws)
  | [] => rfl
  | [w] => rfl
  | w :: v :: r => by
    have ih := joinS_avs (v :: r)
    show (if (avs (v :: r)).isEmpty then some w else (joinS [','] (avs (v :: r))).map fun y => w ++ [','] ++ y) = _
    rw [ih]
    simp [avs, joinW]
theorem joinW_len : ∀ (ws : List W) (m : Nat), (∀ w ∈ ws, w.length ≤ m) → (joinW ws).length ≤ ws.length * (m + 1)
  | [], _, _ => by simp [joinW]
  | [w], m, h => by have := h w (by simp); simp [joinW]; omega
  | w :: v :: r, m, h => by
    have h1 := h w (by simp)
    have h2 := joinW_len (v :: r) m fun x hx => h x (List.mem_cons_of_mem _ hx)
    have e : (w :: v :: r).length * (m + 1) = (v :: r).length * (m + 1) + (m + 1) := by
      rw [show (w :: v :: r).length = (v :: r).length + 1 from rfl, Nat.succ_mul]
    rw [e]
    simp only [joinW, List.length_append, List.length_cons] at *
    omega
theorem avs_pure (n : Nat) (ws : List W) : (avs ws).all (Val.pureN n) = true := by simp [avs]
theorem pure_avs (ws : List W) : Val.pure (.tup (avs ws)) = true := by
  show (avs ws).all (Val.pureN 59) = true
  exact avs_pure _ ws
theorem atomV_pure (n : W) (ws : List W) : (atomV n ws).pure = true := by
  simp only [atomV, Val.pure, p_tup60, List.all_cons, p_str, p_tup59, avs_pure, List.all_nil, Bool.and_self]
theorem eqvs_avs : ∀ (a b : List W), Val.eqvs (avs a) (avs b) = (a == b)
  | [], [] => rfl
  | [], _ :: _ => rfl
  | _ :: _, [] => rfl
  | x :: a, y :: b => by
    show (Val.eqv (.str x) (.str y) && Val.eqvs (avs a) (avs b)) = _
    rw [eqvs_avs a b]
    simp only [Val.eqv]
    rfl
theorem eqv_avs (a b : List W) : Val.eqv (.tup (avs a)) (.tup (avs b)) = (a == b) := eqvs_avs a b
theorem eqv_atomV (n m : W) (a b : List W) : Val.eqv (atomV n a) (atomV m b) = (n == m && a == b) := by
  show (Val.eqv (.str n) (.str m) && (Val.eqv (.tup (avs a)) (.tup (avs b)) && true)) = _
  rw [eqv_avs, Bool.and_true]
  simp only [Val.eqv]
section
variable {scr : L2.V → Option (List Int)} {d : Nat}
theorem r_told (hd : 1 ≤ d) {n : W} {ws : List W} (hn : n.length ≤ 100) (hw : ∀ w ∈ ws, w.length ≤ 100) (hl : ws.length ≤ 100) (st : Store) : runF scr Tb d "told" [.v (atomV n ws)] st = .ok (.v (.str (tell n ws))) st := by
  obtain ⟨d, rfl⟩ := Nat.exists_eq_add_of_le' hd
  rw [runF_lk (fd := ⟨1, 1, b_told⟩) (by rfl) rfl (by decide)]
  have e1 : (joinW ws).length ≤ 20000 := by
    have := joinW_len ws 100 hw
    have : ws.length * 101 ≤ 100 * 101 := Nat.mul_le_mul_right _ hl
    omega
  have e2 : ∀ st, cop .ne (.v (.tup (avs ws))) (.v (.tup [])) st = .ok (!decide (ws = [])) st := fun st => by
    rw [cop_neV st (pure_avs ws) rfl, show ([] : List Val) = avs [] from rfl, eqv_avs]
    cases ws <;> simp
  have e3 : ∀ st, mthOp .join (.v (.str [','])) [.v (.tup (avs ws))] st = .ok (.v (.str (joinW ws))) st := fun st => by
    have : (joinW ws).length + 1 ≤ LIM := by unfold LIM; omega
    simp [mthOp, joinOp, seqVals, joinS_avs, this]
  have e4 : ∀ st, mthPre .join (.v (.str [','])) st = .ok () st := fun st => rfl
  have e5 : ∀ st, bop .add (.v (.str ['('])) (.v (.str (joinW ws))) st = .ok (.v (.str ('(' :: joinW ws))) st := fun st => bop_addS st (by simp; unfold LIM; omega)
  have e6 : ∀ st, bop .add (.v (.str ('(' :: joinW ws))) (.v (.str [')'])) st = .ok (.v (.str ('(' :: joinW ws ++ [')']))) st := fun st => bop_addS st (by simp; unfold LIM; omega)
  have e7 : ∀ st, bop .add (.v (.str n)) (.v (.str ('(' :: joinW ws ++ [')']))) st = .ok (.v (.str (n ++ ('(' :: joinW ws ++ [')'])))) st := fun st => bop_addS st (by simp; unfold LIM; omega)
  have e8 : ∀ st, bop .add (.v (.str n)) (.v (.str [])) st = .ok (.v (.str (n ++ []))) st := fun st => bop_addS st (by simp; unfold LIM; omega)
  unfold atomV tell
  by_cases h : ws = []
  · simp only [h, if_true] at *
    simp [b_told, startS, e2, e8]
  · simp only [List.cons_append] at e6 e7
    simp [b_told, startS, e2, e3, e4, e5, e6, e7, h]
def sepOk : W → Bool
  | [] => true
  | c :: _ => !decide (c ∈ AL)
theorem r_word_at (hd : 1 ≤ d) {tx w rest : W} {at_ : Nat} (hl : tx.length ≤ LIM) (h : tx.drop at_ = w ++ rest) (hw : ∀ c ∈ w, c ∈ AL) (hr : sepOk rest = true) (hat : at_ ≤ tx.length) (st : Store) : runF scr Tb d "word_at" [.v (.str tx), .v (.int at_)] st = .ok (.v (.tup [.str w, .int (at_ + w.length : Nat)])) st := by
  obtain ⟨d, rfl⟩ := Nat.exists_eq_add_of_le' hd
  rw [runF_lk (fd := ⟨2, 3, b_word_at⟩) (by rfl) rfl (by decide)]
  have key : ∀ (v : W) (k m : Nat), v.length < m → tx.drop k = v ++ rest → k ≤ tx.length → (∀ c ∈ v, c ∈ AL) → whL (fun ρ1 => evalE ⟨runF scr Tb d, scr⟩ (.and (.cmp .lt (.var 2) (.bi .len (.cons (.var 0) .nil))) (.cmp .mem (.ix (.var 0) (.var 2)) (.bin .add (.bin .add (.glob "SMALL" v_SMALL) (.glob "GREAT" v_GREAT)) (.glob "FIGURES" v_FIGURES)))) ρ1 >>= isB) (fun ρ1 st1 => evalSs ⟨runF scr Tb d, scr⟩ (.cons (.aug 2 .add (.con (.int 1))) .nil) ρ1 st1) m [some (.v (.str tx)), some (.v (.int at_)), some (.v (.int k))] st = .nx [some (.v (.str tx)), some (.v (.int at_)), some (.v (.int (k + v.length : Nat)))] st := by
    intro v
    induction v with
    | nil =>
      intro k m hm hk hk2 _
      obtain ⟨m, rfl⟩ := Nat.exists_eq_add_of_le' (show 1 ≤ m by omega)
      cases rest with
      | nil =>
        have : tx.length ≤ k := by simpa using hk
        have h1 : ¬ ((k : Int) < tx.length) := by omega
        exact whL_end (by simp [bi_lenS, hl, h1])
      | cons c r =>
        have e1 : tx[k]? = some c := by
          have := congrArg (·[0]?) hk
          simpa using this
        have h1 : (k : Int) < tx.length := by
          have := (List.getElem?_eq_some_iff.mp e1).1
          omega
        have e2 : ∀ st, ixOp (.v (.str tx)) (.v (.int k)) st = .ok (.v (.str [c])) st := fun st => ix_strO st hl (by rw [atN, e1])
        have e3 : c ∉ AL := by simpa [sepOk] using hr
        exact whL_end (by simp [bi_lenS, hl, h1, e2, vS, vG, vF, addSG, addSGF, e3])
    | cons c r ih =>
      intro k m hm hk hk2 hc
      obtain ⟨m, rfl⟩ := Nat.exists_eq_add_of_le' (show 1 ≤ m by omega)
      have e1 : tx[k]? = some c := by
        have := congrArg (·[0]?) hk
        simpa using this
      have h0 := (List.getElem?_eq_some_iff.mp e1).1
      have h1 : (k : Int) < tx.length := by omega
      have e2 : ∀ st, ixOp (.v (.str tx)) (.v (.int k)) st = .ok (.v (.str [c])) st := fun st => ix_strO st hl (by rw [atN, e1])
      have e3 : c ∈ AL := hc c (by simp)
      rw [whL_turn (ρ' := [some (.v (.str tx)), some (.v (.int at_)), some (.v (.int (k + 1 : Nat)))]) (by simp [bi_lenS, hl, h1, e2, vS, vG, vF, addSG, addSGF, e3]) (.inl (by simp [augS]))]
      have hk3 : tx.drop (k + 1) = r ++ rest := by
        rw [← List.drop_drop, hk]; rfl
      rw [ih (k + 1) m (by simpa using hm) hk3 (by omega) fun x hx => hc x (List.mem_cons_of_mem _ hx)]
      simp only [List.length_cons]
      rw [show k + 1 + r.length = k + (r.length + 1) by omega]
  have hlen : w.length ≤ LIM := by
    have := congrArg List.length h
    simp at this
    omega
  have h2 := key w at_ WFUEL (by unfold LIM at hlen; unfold WFUEL; omega) h hat hw
  have e4 : cutL tx (some (at_ : Int)) (some ((at_ + w.length : Nat) : Int)) = w := by
    rw [cut_dt, h, show at_ + w.length - at_ = w.length by omega]; simp
  simp [b_word_at, startS, asgK_nm]
  rw [x_whl, h2]
  simp [sl_str, hl] at e4 ⊢
  exact e4
end
end K01


set_option Elab.async false
set_option linter.all false
set_option maxRecDepth 100000
set_option maxHeartbeats 4000000
/-! M12: k01: read_at. -/
namespace K01
open D
section
variable {scr : L2.V → Option (List Int)} {d : Nat}
abbrev rB : Ss := (.cons (.asg (.tup [(.nm 5), (.nm 3)]) (.call "word_at" (.lend (.var 0) (.lend (.bin .add (.var 3) (.con (.int 1))) .nil)) [])) (.cons (.ite (.cmp .eq (.var 5) (.con (.str []))) (.cons (.ret (.tup (.cons (.con .non) (.cons (.var 1) .nil)))) .nil) .nil) (.cons (.app 4 .append (.var 5)) (.cons (.ite (.cmp .eq (.sl (.var 0) (.some (.var 3)) (.some (.bin .add (.var 3) (.con (.int 1))))) (.con (.str [')']))) (.cons (.asg (.nm 6) (.tup (.cons (.var 2) (.cons (.bi .tuple (.cons (.var 4) .nil)) .nil)))) (.cons (.ret (.ite (.call "is_atom" (.lend (.var 6) .nil) []) (.tup (.cons (.var 6) (.cons (.bin .add (.var 3) (.con (.int 1))) .nil))) (.tup (.cons (.con .non) (.cons (.var 1) .nil))))) .nil)) .nil) (.cons (.ite (.cmp .ne (.sl (.var 0) (.some (.var 3)) (.some (.bin .add (.var 3) (.con (.int 1))))) (.con (.str [',']))) (.cons (.ret (.tup (.cons (.con .non) (.cons (.var 1) .nil)))) .nil) .nil) .nil)))))
theorem cut_k1 {w r : W} {k : Nat} {c : Char} (h : w.drop k = c :: r) : cutL w (some (k : Int)) (some ((k : Int) + 1)) = [c] := by
  have := cut_dt w k (k + 1)
  rw [h, show k + 1 - k = 1 by omega] at this
  exact this
theorem read_loop (hd : 3 ≤ d) {tx n : W} (hl : tx.length ≤ LIM) (hn : n.length ≤ LIM) (A : Val) (st : Store) (tail : W) : ∀ (ws : List W), ws ≠ [] → ∀ (m k : Nat) (s : Char) (dn : List W) (o5 o6 : Option SV), ws.length < m → tx.drop k = s :: (joinW ws ++ ')' :: tail) → (∀ w ∈ ws, w ≠ [] ∧ ∀ c ∈ w, c ∈ AL) → (∀ w ∈ dn ++ ws, w.length ≤ LIM) → dn.length + ws.length ≤ LIM → isAtom n (dn ++ ws) = true →
    whL (fun ρ1 => evalE ⟨runF scr Tb d, scr⟩ (.con (.bool true)) ρ1 >>= isB) (fun ρ1 st1 => evalSs ⟨runF scr Tb d, scr⟩ rB ρ1 st1) m [some (.v (.str tx)), some (.v A), some (.v (.str n)), some (.v (.int k)), some (.t (.lst (avs dn)) false), o5, o6] st = .rt (.v (.tup [atomV n (dn ++ ws), .int (k + 1 + (joinW ws).length + 1 : Nat)])) st := by
  intro ws
  induction ws with
  | nil => intro h; exact absurd rfl h
  | cons w r ih =>
    intro _ m k s dn o5 o6 hm hk hc hw hlen hat
    obtain ⟨m, rfl⟩ := Nat.exists_eq_add_of_le' (show 1 ≤ m by omega)
    have hlen2 : dn.length + (r.length + 1) ≤ LIM := hlen
    have hk1 : tx.drop (k + 1) = joinW (w :: r) ++ ')' :: tail := by rw [← List.drop_drop, hk]; rfl
    have hkl : k + 1 ≤ tx.length := by
      have := congrArg List.length hk
      simp at this
      omega
    have hw0 : w ≠ [] := (hc w (by simp)).1
    have hwc := (hc w (by simp)).2
    have hdn : (avs dn).length < LIM := by simp; omega
    have eap := app_lst (st := st) (v := .str w) hdn
    rw [avs_snoc] at eap
    cases r with
    | nil =>
      have hk2 : tx.drop (k + 1) = w ++ ')' :: tail := hk1
      have e1 := fun st => r_word_at (scr := scr) (d := d) (by omega) hl hk2 hwc (rest := ')' :: tail) rfl hkl st
      have hk3 : tx.drop (k + 1 + w.length) = ')' :: tail := by rw [← List.drop_drop, hk2]; simp
      have e2 := cut_k1 hk3
      have e3 := fun st => r_is_atom (scr := scr) (d := d) hd hn (ws := dn ++ [w]) hw st
      unfold atomV at e3 ⊢
      rw [hat] at e3
      simp only [Int.natCast_add, Int.natCast_one] at e1 e2
      refine whL_out (by simp) ?_
      simp [assignT, assignTs, asgK, assign1, e1, hw0, appS, kindOk, appA, appK1, eap, sl_str, hl, e2, e3, joinW]
    | cons v r =>
      have hk2 : tx.drop (k + 1) = w ++ ',' :: (joinW (v :: r) ++ ')' :: tail) := by rw [hk1]; simp [joinW]
      have e1 := fun st => r_word_at (scr := scr) (d := d) (by omega) hl hk2 hwc (rest := ',' :: (joinW (v :: r) ++ ')' :: tail)) rfl hkl st
      have hk3 : tx.drop (k + 1 + w.length) = ',' :: (joinW (v :: r) ++ ')' :: tail) := by rw [← List.drop_drop, hk2]; simp
      have e2 := cut_k1 hk3
      have hap : dn ++ w :: v :: r = (dn ++ [w]) ++ v :: r := by simp
      have ih2 := ih (by simp) m (k + 1 + w.length) ',' (dn ++ [w]) (some (.v (.str w))) o6 (by simpa using hm) hk3 (fun x hx => hc x (List.mem_cons_of_mem _ hx)) (by rw [← hap]; exact hw) (by simp at hlen ⊢; omega) (by rw [← hap]; exact hat)
      rw [whL_turn (by simp) (.inl ?_)]
      · rw [ih2, hap]
        congr 6
        simp [joinW]
        omega
      · simp only [Int.natCast_add, Int.natCast_one] at e1 e2
        simp [assignT, assignTs, asgK, assign1, e1, hw0, appS, kindOk, appA, appK1, eap, sl_str, hl, e2]
theorem r_read_at (hd : 4 ≤ d) {n : W} {ws : List W} (hn : n.length ≤ 100) (hw : ∀ w ∈ ws, w ≠ [] ∧ w.length ≤ 100 ∧ ∀ c ∈ w, c ∈ AL) (hc : ∀ c ∈ n, c ∈ AL) (hl : ws.length ≤ 100) (hat : isAtom n ws = true) (st : Store) : runF scr Tb d "read_at" [.v (.str (tell n ws ++ ['.'])), .v (.int 0)] st = .ok (.v (.tup [atomV n ws, .int (tell n ws).length])) st := by
  obtain ⟨d, rfl⟩ := Nat.exists_eq_add_of_le' (show 1 ≤ d by omega)
  rw [runF_lk (fd := ⟨2, 7, b_read_at⟩) (by rfl) rfl (by decide)]
  have l1 : (joinW ws).length ≤ 20000 := by
    have := joinW_len ws 100 fun w h => (hw w h).2.1
    have : ws.length * 101 ≤ 100 * 101 := Nat.mul_le_mul_right _ hl
    omega
  have hN : isName n = true := by
    unfold isAtom at hat
    simp at hat
    exact hat.1
  have hn2 : n.length ≤ LIM := by unfold LIM; omega
  have e0 := fun st => r_is_name (scr := scr) (d := d) (by omega) hn2 st
  rw [hN] at e0
  by_cases h : ws = []
  · subst h
    have ht : tell n [] = n := by simp [tell]
    rw [ht]
    have hl2 : (n ++ ['.']).length ≤ LIM := by simp; unfold LIM; omega
    have e1 := fun st => r_word_at (scr := scr) (d := d) (by omega) hl2 (at_ := 0) (w := n) (rest := ['.']) (by simp) hc rfl (by simp) st
    have e2 : cutL (n ++ ['.']) (some (n.length : Int)) (some ((n.length : Int) + 1)) = ['.'] := cut_k1 (r := []) (by simp)
    simp only [Nat.zero_add, Int.natCast_zero] at e1
    unfold atomV
    simp [b_read_at, startS, assignT, assignTs, asgK, assign1, e1, e0, sl_str]
    simp only [List.length_append, List.length_singleton] at hl2
    have hl3 : n.length + 1 ≤ LIM := hl2
    simp [sl_str, hl3, e2, avs]
  · have ht : tell n ws ++ ['.'] = n ++ '(' :: (joinW ws ++ ')' :: ['.']) := by simp [tell, h]
    have htl : (tell n ws).length = n.length + 1 + (joinW ws).length + 1 := by simp [tell, h]; omega
    have hl2 : (n ++ '(' :: (joinW ws ++ ')' :: ['.'])).length ≤ LIM := by simp; unfold LIM; omega
    rw [ht, htl]
    generalize htx : n ++ '(' :: (joinW ws ++ ')' :: ['.']) = tx at *
    have e1 := fun st => r_word_at (scr := scr) (d := d) (by omega) hl2 (at_ := 0) (w := n) (rest := '(' :: (joinW ws ++ ')' :: ['.'])) (by simp [htx]) hc rfl (by simp) st
    have hk : tx.drop n.length = '(' :: (joinW ws ++ ')' :: ['.']) := by rw [← htx]; simp
    have e2 : cutL tx (some (n.length : Int)) (some ((n.length : Int) + 1)) = ['('] := cut_k1 hk
    simp only [Nat.zero_add, Int.natCast_zero] at e1
    have h2 := read_loop (scr := scr) (d := d) (by omega) hl2 hn2 (.int 0) st ['.'] ws h WFUEL n.length '(' [] none none (by unfold WFUEL; omega) hk (fun w hw2 => ⟨(hw w hw2).1, (hw w hw2).2.2⟩) (fun w hw2 => by have := (hw w hw2).2.1; unfold LIM; omega) (by simp; unfold LIM; omega) hat
    have h3 : evalS ⟨runF scr Tb d, scr⟩ (.whl (.con (.bool true)) rB) [some (.v (.str tx)), some (.v (.int 0)), some (.v (.str n)), some (.v (.int n.length)), some (.t (.lst []) false), none, none] st = .rt (.v (.tup [atomV n ws, .int (n.length + 1 + (joinW ws).length + 1 : Nat)])) st := by
      rw [x_whl]; exact h2
    simp [b_read_at, startS, assignT, assignTs, asgK, assign1, e1, e0, sl_str, hl2, e2]
    rw [h3]
    simp
theorem r_read_1 (hd : 4 ≤ d) (st : Store) : runF scr Tb d "read_at" [.v (.str ['p', '(', 'a']), .v (.int 0)] st = .ok (.v (.tup [.non, .int 0])) st := by
  obtain ⟨d, rfl⟩ := Nat.exists_eq_add_of_le' (show 1 ≤ d by omega)
  rw [runF_lk (fd := ⟨2, 7, b_read_at⟩) (by rfl) rfl (by decide)]
  have e0 : ∀ st, runF scr Tb d "is_name" [.v (.str ['p'])] st = .ok (.v (.bool true)) st := fun st => r_is_name (scr := scr) (d := d) (by omega) (w := ['p']) (by decide) st
  have e1 : ∀ st, runF scr Tb d "word_at" [.v (.str ['p', '(', 'a']), .v (.int 0)] st = .ok (.v (.tup [.str ['p'], .int 1])) st := fun st => r_word_at (scr := scr) (d := d) (by omega) (w := ['p']) (rest := ['(', 'a']) (at_ := 0) (by decide) rfl (by decide) rfl (by decide) st
  have e2 : ∀ st, runF scr Tb d "word_at" [.v (.str ['p', '(', 'a']), .v (.int 2)] st = .ok (.v (.tup [.str ['a'], .int 3])) st := fun st => r_word_at (scr := scr) (d := d) (by omega) (w := ['a']) (rest := []) (at_ := 2) (by decide) rfl (by decide) rfl (by decide) st
  have hl : (['p', '(', 'a'] : W).length ≤ LIM := by decide
  have c1 : ∀ st, slOp (.v (.str ['p', '(', 'a'])) (some 1) (some 2) st = .ok (.v (.str ['('])) st := fun st => sl_str st hl _ _
  have c2 : ∀ st, slOp (.v (.str ['p', '(', 'a'])) (some 3) (some 4) st = .ok (.v (.str [])) st := fun st => sl_str st hl _ _
  have ea : ∀ st, appOp .append (.lst []) (.v (.str ['a'])) st = some (.lst [.str ['a']]) := fun st => rfl
  have h3 : evalS ⟨runF scr Tb d, scr⟩ (.whl (.con (.bool true)) rB) [some (.v (.str ['p', '(', 'a'])), some (.v (.int 0)), some (.v (.str ['p'])), some (.v (.int 1)), some (.t (.lst []) false), none, none] st = .rt (.v (.tup [.non, .int 0])) st := by
    rw [x_whl, show WFUEL = 999999999 + 1 from rfl]
    refine whL_out (by simp) ?_
    simp [assignT, assignTs, asgK, assign1, e2, appS, kindOk, appA, appK1, ea, c2]
  simp [b_read_at, startS, assignT, assignTs, asgK, assign1, e1, e0, c1]
  rw [h3]
  simp
theorem r_read_2 (hd : 4 ≤ d) (st : Store) : runF scr Tb d "read_at" [.v (.str ['p', '(', ')']), .v (.int 0)] st = .ok (.v (.tup [.non, .int 0])) st := by
  obtain ⟨d, rfl⟩ := Nat.exists_eq_add_of_le' (show 1 ≤ d by omega)
  rw [runF_lk (fd := ⟨2, 7, b_read_at⟩) (by rfl) rfl (by decide)]
  have e0 : ∀ st, runF scr Tb d "is_name" [.v (.str ['p'])] st = .ok (.v (.bool true)) st := fun st => r_is_name (scr := scr) (d := d) (by omega) (w := ['p']) (by decide) st
  have e1 : ∀ st, runF scr Tb d "word_at" [.v (.str ['p', '(', ')']), .v (.int 0)] st = .ok (.v (.tup [.str ['p'], .int 1])) st := fun st => r_word_at (scr := scr) (d := d) (by omega) (w := ['p']) (rest := ['(', ')']) (at_ := 0) (by decide) rfl (by decide) rfl (by decide) st
  have e2 : ∀ st, runF scr Tb d "word_at" [.v (.str ['p', '(', ')']), .v (.int 2)] st = .ok (.v (.tup [.str [], .int 2])) st := fun st => r_word_at (scr := scr) (d := d) (by omega) (w := []) (rest := [')']) (at_ := 2) (by decide) rfl (by decide) rfl (by decide) st
  have hl : (['p', '(', ')'] : W).length ≤ LIM := by decide
  have c1 : ∀ st, slOp (.v (.str ['p', '(', ')'])) (some 1) (some 2) st = .ok (.v (.str ['('])) st := fun st => sl_str st hl _ _
  have h3 : evalS ⟨runF scr Tb d, scr⟩ (.whl (.con (.bool true)) rB) [some (.v (.str ['p', '(', ')'])), some (.v (.int 0)), some (.v (.str ['p'])), some (.v (.int 1)), some (.t (.lst []) false), none, none] st = .rt (.v (.tup [.non, .int 0])) st := by
    rw [x_whl, show WFUEL = 999999999 + 1 from rfl]
    refine whL_out (by simp) ?_
    simp [assignT, assignTs, asgK, assign1, e2]
  simp [b_read_at, startS, assignT, assignTs, asgK, assign1, e1, e0, c1]
  rw [h3]
  simp
end
end K01


set_option Elab.async false
set_option linter.all false
set_option maxRecDepth 100000
set_option maxHeartbeats 4000000
/-! M13: k01: dice. -/
namespace K01
open D
def di (a b c : Int) : Cell := .lst [.int a, .int b, .int c]
def Di (st : Store) (l : Nat) : Prop := ∃ a b c, st[l]? = some (di a b c)
def Ds (l : Nat) (st st' : Store) : Prop := Di st' l ∧ ∃ a b c, st' = st.set l (di a b c)
theorem gc_le {st st' : Store} (h : st'.length ≤ st.length) (x : EV) : gc st (.ok x st') = .ok x st' := by
  unfold gc; simp only [if_pos h]
theorem di_lt {st : Store} {l : Nat} (h : Di st l) : l < st.length := by
  obtain ⟨a, b, c, e⟩ := h
  exact (List.getElem?_eq_some_iff.mp e).1
theorem di_set {st : Store} {l : Nat} (h : l < st.length) (a b c : Int) : (st.set l (di a b c))[l]? = some (di a b c) := by simp [h]
theorem ds_set {st : Store} {l : Nat} (h : l < st.length) (a b c : Int) : Ds l st (st.set l (di a b c)) := ⟨⟨a, b, c, di_set h a b c⟩, a, b, c, rfl⟩
theorem ds_len {l : Nat} {st st' : Store} (h : Ds l st st') : st'.length = st.length := by
  obtain ⟨_, a, b, c, rfl⟩ := h; simp
theorem ds_trans {l : Nat} {st st' st2 : Store} (h1 : Ds l st st') (h2 : Ds l st' st2) : Ds l st st2 := by
  obtain ⟨d1, a, b, c, rfl⟩ := h1
  obtain ⟨d2, a2, b2, c2, rfl⟩ := h2
  exact ⟨d2, a2, b2, c2, by simp⟩
theorem ds_refl {l : Nat} {st : Store} (h : Di st l) : Ds l st st := by
  obtain ⟨a, b, c, e⟩ := h
  refine ⟨⟨a, b, c, e⟩, a, b, c, ?_⟩
  obtain ⟨h1, h2⟩ := List.getElem?_eq_some_iff.mp e
  rw [← h2, List.set_getElem_self]
theorem ix_di {st : Store} {l : Nat} {a b c : Int} (h : st[l]? = some (di a b c)) : ixOp (.v (.loc l)) (.v (.int 0)) st = .ok (.v (.int a)) st ∧ ixOp (.v (.loc l)) (.v (.int 1)) st = .ok (.v (.int b)) st ∧ ixOp (.v (.loc l)) (.v (.int 2)) st = .ok (.v (.int c)) st :=
  ⟨ix_lstO st h (by simp), ix_lstO st h (by simp), ix_lstO st h (by simp)⟩
theorem put_di {st : Store} {l : Nat} {a b c v : Int} (h : st[l]? = some (di a b c)) (ρ : Sl) : putKt ρ (.int v, .v (.loc l), .int 0) st = .nx ρ (st.set l (di v b c)) ∧ putKt ρ (.int v, .v (.loc l), .int 1) st = .nx ρ (st.set l (di a v c)) ∧ putKt ρ (.int v, .v (.loc l), .int 2) st = .nx ρ (st.set l (di a b v)) := by
  refine ⟨?_, ?_, ?_⟩ <;> · unfold putKt; simp only [h]; rfl
section
variable {scr : L2.V → Option (List Int)} {d : Nat}
theorem r_dice (hd : 1 ≤ d) (z : Int) (st : Store) : ∃ a b c, runF scr Tb d "_law_dice" [.v (.int z)] st = .ok (.t (di a b c)) st := by
  obtain ⟨d, rfl⟩ := Nat.exists_eq_add_of_le' hd
  rw [runF_lk (fd := ⟨1, 1, b__law_dice⟩) (by rfl) rfl (by decide)]
  have e1 : ∀ st, bop .mod (.v (.int z)) (.v (.int 1009)) st = .ok (.v (.int (Int.fmod z 1009))) st := fun st => bop_modI st (by decide)
  have e2 : ∀ st, bop .pow (.v (.int 10)) (.v (.int 18)) st = .ok (.v (.int (10 ^ 18))) st := fun st => by
    simp only [bop]
    rw [if_pos (by decide)]
    rfl
  by_cases h1 : -10 < z
  · by_cases h2 : z < 10
    · exact ⟨z.natAbs, 0, 2, by simp [b__law_dice, startS, h1, h2, di]⟩
    · exact ⟨z, 1 + Int.fmod z 1009, if (10 ^ 18 : Int) ≤ z then 1 else 0, by simp [b__law_dice, startS, h1, h2, e1, e2, di]⟩
  · exact ⟨z, 1 + Int.fmod z 1009, if (10 ^ 18 : Int) ≤ z then 1 else 0, by simp [b__law_dice, startS, h1, e1, e2, di]⟩
theorem fmod_in {a m : Int} (h : 0 < m) : 0 ≤ Int.fmod a m ∧ Int.fmod a m < m := ⟨Int.fmod_nonneg_of_pos a h, Int.fmod_lt_of_pos a h⟩
theorem r_roll (hd : 1 ≤ d) {l : Nat} {m : Int} (hm : 0 < m ∧ m < 2 ^ 30) {st : Store} (h : Di st l) : ∃ r st', runF scr Tb d "_law_roll" [.v (.loc l), .v (.int m)] st = .ok (.v (.int r)) st' ∧ 0 ≤ r ∧ r < m ∧ Ds l st st' := by
  obtain ⟨d, rfl⟩ := Nat.exists_eq_add_of_le' hd
  rw [runF_lk (fd := ⟨2, 3, b__law_roll⟩) (by rfl) rfl (by decide)]
  have hlt := di_lt h
  obtain ⟨a, b, c, h⟩ := h
  obtain ⟨i0, i1, i2⟩ := ix_di h
  have m1 : ∀ (z : Int) st, bop .mod (.v (.int z)) (.v (.int m)) st = .ok (.v (.int (Int.fmod z m))) st := fun z st => bop_modI st hm.1
  have m2 : ∀ (z : Int) st, bop .fdiv (.v (.int z)) (.v (.int m)) st = .ok (.v (.int (Int.fdiv z m))) st := fun z st => bop_fdivI st hm
  have m3 : ∀ (z : Int) st, bop .mod (.v (.int z)) (.v (.int 2147483647)) st = .ok (.v (.int (Int.fmod z 2147483647))) st := fun z st => bop_modI st (by decide)
  have m4 : ∀ (z : Int) st, bop .fdiv (.v (.int z)) (.v (.int 7)) st = .ok (.v (.int (Int.fdiv z 7))) st := fun z st => bop_fdivI st (by decide)
  have m5 : ∀ (z : Int) st, bop .mul (.v (.int z)) (.v (.int 48271)) st = .ok (.v (.int (z * 48271))) st := fun z st => bop_mulI st (by simp [okInt])
  have m6 : ∀ (z : Int) st, bop .mul (.v (.int z)) (.v (.int 69621)) st = .ok (.v (.int (z * 69621))) st := fun z st => bop_mulI st (by simp [okInt])
  have p1 := fun ρ v => (put_di (v := v) h ρ).1
  have p2 := fun ρ v => (put_di (v := v) h ρ).2.2
  have q1 := di_set hlt a b 0
  have j0 := ix_di q1
  have p3 := fun ρ v => (put_di (v := v) q1 ρ).1
  have q2 := fun v => di_set hlt v b 0
  have j1 := fun v => ix_di (q2 v)
  have p4 := fun ρ u v => (put_di (v := v) (q2 u) ρ).2.1
  have j2 := fun u v => ix_di (di_set hlt u v 0)
  simp only [List.set_set] at p3 p4
  by_cases hc : (c == 2) = true ∨ ((c == 1) = true ∧ 0 < a)
  · refine ⟨Int.fmod a m, st.set l (di (Int.fdiv a m) b c), ?_, (fmod_in hm.1).1, (fmod_in hm.1).2, ds_set hlt _ _ _⟩
    have hg := gc_le (st := st) (st' := st.set l (di (Int.fdiv a m) b c)) (by simp) (.v (.int (Int.fmod a m)))
    by_cases h2 : c = 2
    · simp [b__law_roll, startS, i0, i1, i2, h2, asgK_nm, m1, m2, p1]
      rw [h2] at hg
      exact hg
    · have h3 : c = 1 ∧ 0 < a := by simpa [h2] using hc
      simp [b__law_roll, startS, i0, i1, i2, h2, h3, asgK_nm, m1, m2, p1]
      rw [h3.1] at hg
      exact hg
  · have hn : ¬ c = 2 := fun e => hc (.inl (by simp [e]))
    generalize hr : Int.fmod (a * 48271 + b * 69621 + 11) 2147483647 = u
    refine ⟨Int.fmod (Int.fdiv u 7 + u) m, st.set l (di u (b + 1) 0), ?_, (fmod_in hm.1).1, (fmod_in hm.1).2, ds_set hlt _ _ _⟩
    have hg := gc_le (st := st) (st' := st.set l (di u (b + 1) 0)) (by simp) (.v (.int (Int.fmod (Int.fdiv u 7 + u) m)))
    by_cases h3 : c = 1
    · have h4 : ¬ 0 < a := fun e => hc (.inr (by simp [h3, e]))
      have h5 : ¬ (1 : Int) = 2 := by decide
      simp [b__law_roll, startS, i0, i1, i2, hn, h3, h4, asgK_nm, m1, m2, m3, m4, m5, m6, p2, p3, p4, j0, j1, j2, hr]
      exact hg
    · simp [b__law_roll, startS, i0, i1, i2, hn, h3, asgK_nm, m1, m2, m3, m4, m5, m6, p2, p3, p4, j0, j1, j2, hr]
      exact hg
end
end K01


set_option Elab.async false
set_option linter.all false
set_option maxRecDepth 100000
set_option maxHeartbeats 4000000
/-! M14: k01: rounds, atoms thrown. -/
namespace K01
open D
def locs (n k : Nat) : List Val := (List.range' n k).map Val.loc
def IsDi (c : Cell) : Prop := ∃ x y z, c = di x y z
section
variable {scr : L2.V → Option (List Int)} {d : Nat}
theorem intern_t (c : Cell) (st : Store) : intern (.t c) st = .ok (.loc st.length) (st ++ [c]) := rfl
theorem dice_comp (hd : 1 ≤ d) (ρ : Sl) (hρ : ρ.length = 4) (g : Store → Bool) (hg : ∀ st, g st = true) : ∀ (zs : List Int) (st : Store), ∃ cs : List Cell, cs.length = zs.length ∧ (∀ c ∈ cs, IsDi c) ∧ compL g (bodyM (.nm 3) [3] ρ (evalOc ⟨runF scr Tb d, scr⟩ .none) (fun ρ2 => mkV (evalE ⟨runF scr Tb d, scr⟩ (.call "_law_dice" (.lend (.var 3) .nil) []) ρ2)) (.pure none)) (zs.map Val.int) st = .ok (locs st.length zs.length) (st ++ cs)
  | [], st => ⟨[], rfl, by simp, by unfold compL; simp [hg, locs]⟩
  | z :: r, st => by
    obtain ⟨a, b, c, e⟩ := r_dice (scr := scr) hd z st
    obtain ⟨cs, h1, h2, h3⟩ := dice_comp hd ρ hρ g hg r (st ++ [di a b c])
    refine ⟨di a b c :: cs, by simp [h1], ?_, ?_⟩
    · intro x hx
      cases List.mem_cons.mp hx with
      | inl h => exact ⟨a, b, c, h⟩
      | inr h => exact h2 x h
    · have eb : bodyM (.nm 3) [3] ρ (evalOc ⟨runF scr Tb d, scr⟩ .none) (fun ρ2 => mkV (evalE ⟨runF scr Tb d, scr⟩ (.call "_law_dice" (.lend (.var 3) .nil) []) ρ2)) (.pure none) (.int z) st = .ok (some (.loc st.length)) (st ++ [di a b c]) := by
        have h3 : 3 < (wipeS ρ [3]).length := by simp [wipeS, hρ]
        have h4 : ((wipeS ρ [3]).set 3 (some (.v (.int z))))[3]? = some (some (.v (.int z))) := by
          rw [List.getElem?_set_self h3]
        simp [assignT, h3, h4, e, intern_t]
      show compL _ _ (.int z :: r.map Val.int) st = _
      unfold compL
      rw [if_pos (hg st), eb]
      dsimp only
      rw [h3]
      simp [locs, List.range'_succ]
theorem r_rounds (hd : 2 ≤ d) {c : L2.V} {ns : List Int} (h : scr c = some ns) : ∃ cs : List Cell, cs ≠ [] ∧ (∀ c ∈ cs, IsDi c) ∧ runF scr Tb d "_law_rounds" [.v (.cst c), .v (.int 4)] [] = .ok (.t (.lst (locs 0 cs.length))) cs := by
  obtain ⟨d, rfl⟩ := Nat.exists_eq_add_of_le' (show 1 ≤ d by omega)
  rw [runF_lk (fd := ⟨2, 4, b__law_rounds⟩) (by rfl) rfl (by decide)]
  have e1 : ∀ st, slOpS scr (.v (.cst c)) none (some 4) st = .ok (.t (.lst ((ns.take 4).map Val.int))) st := fun st => by
    simp only [slOpS, h]
    rw [show (4 : Int) = ((4 : Nat) : Int) from rfl, cut_t, List.map_take]
    rfl
  have fin : ∀ (zs : List Int), zs ≠ [] → zs.length ≤ 4 → ∃ cs : List Cell, cs ≠ [] ∧ (∀ c ∈ cs, IsDi c) ∧ gc [] (resOf (((evalE ⟨runF scr Tb d, scr⟩ (.lc [3] (.nm 3) (.seq (.var 2)) .none (.call "_law_dice" (.lend (.var 3) .nil) [])) [some (.v (.cst c)), some (.v (.int 4)), some (.t (.lst (zs.map Val.int)) false), none] []).toR [some (.v (.cst c)), some (.v (.int 4)), some (.t (.lst (zs.map Val.int)) false), none] (retK [some (.v (.cst c)), some (.v (.int 4)), some (.t (.lst (zs.map Val.int)) false), none])).sq fun ρ1 st1 => .nx ρ1 st1)) = .ok (.t (.lst (locs 0 cs.length))) cs := by
    intro zs hz hz4
    obtain ⟨cs, h1, h2, h3⟩ := dice_comp (scr := scr) (d := d) (by omega) [some (.v (.cst c)), some (.v (.int 4)), some (.t (.lst (zs.map Val.int)) false), none] rfl (fun st => Gd.ok [some (.v (.cst c)), some (.v (.int 4)), some (.t (.lst (zs.map Val.int)) false), none] st (.slot 2 (.lst (zs.map Val.int)))) (fun st => rfl) zs []
    refine ⟨cs, fun e => ?_, h2, ?_⟩
    · rw [e] at h1
      exact hz (List.eq_nil_of_length_eq_zero h1.symm)
    · rw [x_lc]
      simp only [x_seq, x_var, List.getElem?_cons_zero, List.getElem?_cons_succ, slE_t, bnd_ok, src_b]
      simp only [List.length_nil, List.nil_append] at h3
      rw [h3, ← h1]
      have hl : (locs 0 cs.length).length ≤ LIM := by simp [locs]; unfold LIM; omega
      simp only [bnd_ok, finL_ok hl, toR_ok, retK_t, sq_rt, resOf_rt]
      unfold gc
      have hn : ¬ cs.length ≤ ([] : Store).length := by
        simp only [List.length_nil]
        intro h
        rw [h1] at h
        exact hz (List.eq_nil_of_length_eq_zero (by omega))
      have hb : EV.bd 0 (liftN 0 cs (.t (.lst (locs 0 cs.length)))) = false := by
        cases cs with
        | nil => exact absurd (Nat.zero_le _) hn
        | cons c r =>
          show Cell.bd 0 (.lst (locs 0 (r.length + 1))) = false
          unfold locs
          rw [List.range'_succ]
          rfl
      simp only [if_neg hn]
      rw [show ([] : Store).length = 0 from rfl, hb]
      rfl
  cases hn : ns.take 4 with
  | nil =>
    obtain ⟨cs, h1, h2, h3⟩ := fin [0] (by simp) (by simp)
    refine ⟨cs, h1, h2, ?_⟩
    rw [hn] at e1
    have ec : ∀ st, cop .eq (.b 2 (.lst [])) (.t (.lst [])) st = .ok true st := fun st => rfl
    simp [b__law_rounds, startS, e1, asgK_t, ec]
    simpa using h3
  | cons z r =>
    obtain ⟨cs, h1, h2, h3⟩ := fin (z :: r) (by simp) (by rw [← hn, List.length_take]; omega)
    refine ⟨cs, h1, h2, ?_⟩
    rw [hn] at e1
    have ec : ∀ st, cop .eq (.b 2 (.lst ((z :: r).map Val.int))) (.t (.lst [])) st = .ok false st := fun st => rfl
    simp only [List.map_cons] at ec e1
    simp [b__law_rounds, startS, e1, asgK_t, ec]
    simpa using h3
theorem atom_comp (hd : 1 ≤ d) {l : Nat} {Wd : List W} (hW : Wd ≠ []) (hW2 : Wd.length ≤ 100) : ∀ (vs : List Val) (st : Store), (∀ v ∈ vs, ∃ z : Int, v = .int z) → Di st l → ∃ ws st', ws.length = vs.length ∧ (∀ w ∈ ws, w ∈ Wd) ∧ Ds l st st' ∧ compL (fun st => true) (bodyM (.nm 2) [2] [some (.v (.loc l)), some (.t (.lst (avs Wd)) true), none] (evalOc ⟨runF scr Tb d, scr⟩ .none) (fun ρ2 => mkV (evalE ⟨runF scr Tb d, scr⟩ (.ix (.var 1) (.call "_law_roll" (.lend (.var 0) (.lend (.bi .len (.cons (.var 1) .nil)) .nil)) [])) ρ2)) (.pure none)) vs st = .ok (avs ws) st'
  | [], st, _, h => ⟨[], st, rfl, by simp, ds_refl h, by unfold compL; simp [avs]⟩
  | v :: r, st, hv, h => by
    obtain ⟨z, rfl⟩ := hv v (by simp)
    have hp : 0 < Wd.length := List.length_pos_iff.mpr hW
    obtain ⟨k, st1, e1, k0, k1, hs⟩ := r_roll (scr := scr) hd (m := Wd.length) ⟨by omega, by omega⟩ h
    obtain ⟨ws, st2, h1, h2, h3, h4⟩ := atom_comp hd hW hW2 r st1 (fun v hv2 => hv v (List.mem_cons_of_mem _ hv2)) hs.1
    obtain ⟨k, rfl⟩ : ∃ n : Nat, k = n := ⟨k.toNat, by omega⟩
    have hk : k < Wd.length := by omega
    refine ⟨Wd[k] :: ws, st2, by simp [h1], ?_, ds_trans hs h3, ?_⟩
    · intro w hw
      cases List.mem_cons.mp hw with
      | inl h => rw [h]; exact List.getElem_mem hk
      | inr h => exact h2 w h
    · have e2 : L2.atI (avs Wd) k = some (.str Wd[k]) := by
        rw [atN]
        simp [avs, hk]
      have e3 : ∀ st, ixOp (.b 1 (.lst (avs Wd))) (.v (.int k)) st = .ok (.v (.str Wd[k])) st := fun st => ix_lstO st rfl e2
      have eb : bodyM (.nm 2) [2] [some (.v (.loc l)), some (.t (.lst (avs Wd)) true), none] (evalOc ⟨runF scr Tb d, scr⟩ .none) (fun ρ2 => mkV (evalE ⟨runF scr Tb d, scr⟩ (.ix (.var 1) (.call "_law_roll" (.lend (.var 0) (.lend (.bi .len (.cons (.var 1) .nil)) .nil)) [])) ρ2)) (.pure none) (.int z) st = .ok (some (.str Wd[k])) st1 := by
        simp [assignT, wipeS, e1, e3]
      unfold compL
      rw [if_pos rfl, eb]
      dsimp only
      rw [h4]
      rfl
theorem rngL_int : ∀ (n : Nat) (a : Int), ∀ v ∈ rngL a n, ∃ z : Int, v = .int z
  | 0, _, _, h => by cases h
  | n + 1, a, v, h => by
    cases List.mem_cons.mp h with
    | inl e => exact ⟨a, e⟩
    | inr e => exact rngL_int n (a + 1) v e
theorem rngL_len : ∀ (n : Nat) (a : Int), (rngL a n).length = n
  | 0, _ => rfl
  | n + 1, a => by show (rngL (a + 1) n).length + 1 = _; rw [rngL_len n]
theorem r_atom (hd : 2 ≤ d) {l : Nat} {Wd : List W} (hW : Wd ≠ []) (hW2 : Wd.length ≤ 100) {st : Store} (h : Di st l) : ∃ n ws st', runF scr Tb d "_law_atom" [.v (.loc l), .t (.lst (avs Wd)) true] st = .ok (.v (atomV n ws)) st' ∧ Ds l st st' ∧ (n = ['p'] ∨ n = ['q']) ∧ ws.length ≤ 4 ∧ ∀ w ∈ ws, w ∈ Wd := by
  obtain ⟨d, rfl⟩ := Nat.exists_eq_add_of_le' (show 1 ≤ d by omega)
  rw [runF_lk (fd := ⟨2, 3, b__law_atom⟩) (by rfl) rfl (by decide)]
  obtain ⟨k, st1, e1, k0, k1, hs1⟩ := r_roll (scr := scr) (d := d) (by omega) (m := 5) (by decide) h
  obtain ⟨j, st2, e2, j0, j1, hs2⟩ := r_roll (scr := scr) (d := d) (by omega) (m := 5) (by decide) hs1.1
  obtain ⟨ws, st3, h1, h2, h3, h4⟩ := atom_comp (scr := scr) (d := d) (by omega) hW hW2 (rngL 0 j.toNat) st2 (rngL_int _ _) hs2.1
  rw [rngL_len] at h1
  have hs := ds_trans (ds_trans hs1 hs2) h3
  have key : evalE ⟨runF scr Tb d, scr⟩ (.lc [2] (.nm 2) (.rng (.call "_law_roll" (.lend (.var 0) (.lend (.con (.int 5)) .nil)) [])) .none (.ix (.var 1) (.call "_law_roll" (.lend (.var 0) (.lend (.bi .len (.cons (.var 1) .nil)) .nil)) []))) [some (.v (.loc l)), some (.t (.lst (avs Wd)) true), none] st1 = .ok (.t (.lst (avs ws))) st3 := by
    rw [x_lc]
    have er : rngOf (.v (.int j)) st2 = .ok ⟨rngL 0 j.toNat, .no⟩ st2 := by
      simp only [rngOf]
      rw [if_pos (by omega)]
    simp only [x_rng, x_call, x_asLend, x_asNil, x_con, argOf_v, x_var, List.getElem?_cons_zero, slE_v, bnd_ok, List.map_nil, List.append_nil, e2, er]
    rw [show (fun st => Gd.ok [some (.v (.loc l)), some (.t (.lst (avs Wd)) true), none] st .no) = fun _ => true from rfl, h4, bnd_ok]
    exact finL_ok (by simp; unfold LIM; omega) _
  have hg := fun x => gc_le (st := st) (st' := st3) (Nat.le_of_eq (ds_len hs)) x
  by_cases hk : k = 0
  · refine ⟨['q'], ws, st3, ?_, hs, .inr rfl, by omega, h2⟩
    have ei : ∀ st, ixOp (.t (.lst [.str ['p'], .str ['q']])) (.v (.int 1)) st = .ok (.v (.str ['q'])) st := fun st => rfl
    unfold atomV
    simp [b__law_atom, startS, e1, key, hk, ei, hg]
  · refine ⟨['p'], ws, st3, ?_, hs, .inl rfl, by omega, h2⟩
    have ei : ∀ st, ixOp (.t (.lst [.str ['p'], .str ['q']])) (.v (.int 0)) st = .ok (.v (.str ['p'])) st := fun st => rfl
    unfold atomV
    simp [b__law_atom, startS, e1, key, hk, ei, hg]
end
end K01


set_option Elab.async false
set_option linter.all false
set_option maxRecDepth 100000
set_option maxHeartbeats 4000000
/-! M15: k01: all tables of words. -/
namespace K01
open D
def tabs1 (gs : List W) (w : W) (ts : List T) : List T := ts.flatMap fun t => gs.map fun g => tput t w g
def tabsF (gs : List W) : List T → List W → List T
  | ts, [] => ts
  | ts, w :: r => tabsF gs (tabs1 gs w ts) r
def tabs (ws gs : List W) : List T := tabsF gs [[]] ws
def Ats (st : Store) (n : Nat) : List Val → List T → Prop
  | [], [] => True
  | .loc l :: r, t :: s => n ≤ l ∧ st[l]? = some (.dict (tv t)) ∧ Ats st n r s
  | _, _ => False
theorem get_more {st more : Store} {l : Nat} {c : Cell} (h : st[l]? = some c) : (st ++ more)[l]? = some c := by
  have := (List.getElem?_eq_some_iff.mp h).1
  rw [List.getElem?_append_left this, h]
theorem ats_more {st : Store} {n : Nat} (more : Store) : ∀ {ls : List Val} {ts : List T}, Ats st n ls ts → Ats (st ++ more) n ls ts
  | [], [], _ => trivial
  | .loc l :: r, t :: s, h => ⟨h.1, get_more h.2.1, ats_more more h.2.2⟩
theorem ats_app {st : Store} {n : Nat} : ∀ {ls ms : List Val} {ts us : List T}, Ats st n ls ts → Ats st n ms us → Ats st n (ls ++ ms) (ts ++ us)
  | [], _, [], _, _, h => h
  | .loc l :: r, _, t :: s, _, h, g => ⟨h.1, h.2.1, ats_app h.2.2 g⟩
theorem ats_len {st : Store} {n : Nat} : ∀ {ls : List Val} {ts : List T}, Ats st n ls ts → ls.length = ts.length
  | [], [], _ => rfl
  | .loc l :: r, t :: s, h => congrArg (· + 1) (ats_len h.2.2)
section
variable {scr : L2.V → Option (List Int)} {d : Nat}
abbrev tB3 : Ss := (.cons (.asg (.nm 7) (.bi .dict (.cons (.var 5) .nil))) (.cons (.sput 7 (.var 3) (.var 6)) (.cons (.prom 7) (.cons (.app 4 .append (.var 7)) .nil))))
abbrev tB2 : Ss := (.cons (.for_ (.nm 6) (.seq (.var 1)) tB3) .nil)
abbrev tB1 : Ss := (.cons (.asg (.nm 4) (.lst .nil)) (.cons (.for_ (.nm 5) (.seq (.var 2)) tB2) (.cons (.move 2 4) .nil)))
theorem tab_in (Γ : Calls) (A G F : Option SV) (w : W) (l : Nat) (t : T) (ht : t.length < LIM) (n : Nat) (gd : Gd) (hgd : ∀ ρ st, gd.ok ρ st = true) : ∀ (gs : List W) (st : Store) (acc : List Val) (o6 o7 : Option SV), n ≤ st.length → st[l]? = some (.dict (tv t)) → acc.length + gs.length ≤ LIM →
    ∃ more ls p6 p7, forL gd (forB (.nm 6) fun ρ2 st2 => evalSs Γ tB3 ρ2 st2) (avs gs) [A, G, F, some (.v (.str w)), some (.t (.lst acc) false), some (.v (.loc l)), o6, o7] st = .nx [A, G, F, some (.v (.str w)), some (.t (.lst (acc ++ ls)) false), some (.v (.loc l)), p6, p7] (st ++ more) ∧ Ats (st ++ more) n ls (gs.map (tput t w)) := by
  intro gs
  induction gs with
  | nil =>
    intro st acc o6 o7 hn hl hlen
    exact ⟨[], [], o6, o7, by rw [show avs [] = [] from rfl, forL_nil (hgd _ _)]; simp, trivial⟩
  | cons g r ih =>
    intro st acc o6 o7 hn hl hlen
    have hlen2 : acc.length + (r.length + 1) ≤ LIM := hlen
    obtain ⟨more, ls, p6, p7, h1, h2⟩ := ih (st ++ [.dict (tv (tput t w g))]) (acc ++ [.loc st.length]) (some (.v (.str g))) (some (.v (.loc st.length))) (by simp; omega) (get_more hl) (by simp; omega)
    refine ⟨.dict (tv (tput t w g)) :: more, .loc st.length :: ls, p6, p7, ?_, ?_⟩
    · rw [show avs (g :: r) = .str g :: avs r from rfl, forL_step (ρ' := [A, G, F, some (.v (.str w)), some (.t (.lst (acc ++ [.loc st.length])) false), some (.v (.loc l)), some (.v (.str g)), some (.v (.loc st.length))]) (st' := st ++ [.dict (tv (tput t w g))]) (hgd _ _) (.inl ?_), h1]
      · simp
      · have e1 : biOp .dict [.v (.loc l)] st = .ok (.t (.dict (tv t))) st := by simp [biOp, hl, tv, Val.isTup]
        have ha : acc.length < LIM := by omega
        simp [forB, assignT, e1, asgK_t, sputS, sputK, put_tab ht, promS, appS, kindOk, appA, appK1, app_lst ha]
    · have e : (st ++ [Cell.dict (tv (tput t w g))]) ++ more = st ++ Cell.dict (tv (tput t w g)) :: more := by simp
      rw [e] at h2
      exact ⟨hn, by simp, h2⟩
theorem tab_mid (Γ : Calls) (A F : Option SV) (w : W) (gs : List W) (n : Nat) (gd : Gd) (hgd : ∀ ρ st, gd.ok ρ st = true) : ∀ (ts : List T) (ls0 : List Val) (st : Store) (acc : List Val) (o5 o6 o7 : Option SV), (∀ t ∈ ts, t.length < LIM) → n ≤ st.length → Ats st n ls0 ts → acc.length + ts.length * gs.length ≤ LIM →
    ∃ more ls p5 p6 p7, forL gd (forB (.nm 5) fun ρ2 st2 => evalSs Γ tB2 ρ2 st2) ls0 [A, some (.t (.lst (avs gs)) true), F, some (.v (.str w)), some (.t (.lst acc) false), o5, o6, o7] st = .nx [A, some (.t (.lst (avs gs)) true), F, some (.v (.str w)), some (.t (.lst (acc ++ ls)) false), p5, p6, p7] (st ++ more) ∧ Ats (st ++ more) n ls (tabs1 gs w ts) := by
  intro ts
  induction ts with
  | nil =>
    intro ls0 st acc o5 o6 o7 _ hn hA _
    cases ls0 with
    | cons x r => exact False.elim (by cases x <;> exact hA)
    | nil => exact ⟨[], [], o5, o6, o7, by rw [forL_nil (hgd _ _)]; simp, trivial⟩
  | cons t ts ih =>
   intro ls0 st acc o5 o6 o7 ht hn hA hlen
   cases ls0 with
   | nil => exact False.elim hA
   | cons x ls0 =>
    obtain ⟨l, rfl⟩ : ∃ l, x = .loc l := by cases x <;> first | exact ⟨_, rfl⟩ | exact False.elim hA
    have hlen2 : acc.length + (ts.length * gs.length + gs.length) ≤ LIM := by
      have : (t :: ts).length * gs.length = ts.length * gs.length + gs.length := Nat.succ_mul _ _
      omega
    obtain ⟨m1, l1, q6, q7, h1, h2⟩ := tab_in Γ A (some (.t (.lst (avs gs)) true)) F w l t (ht t (by simp)) n (.slot 1 (.lst (avs gs))) (fun _ _ => rfl) gs st acc o6 o7 hn hA.2.1 (by omega)
    have hl1 : l1.length = gs.length := by rw [ats_len h2]; simp
    obtain ⟨m2, l2, p5, p6, p7, h3, h4⟩ := ih ls0 (st ++ m1) (acc ++ l1) (some (.v (.loc l))) q6 q7 (fun t h => ht t (List.mem_cons_of_mem _ h)) (by simp; omega) (ats_more m1 hA.2.2) (by simp; omega)
    refine ⟨m1 ++ m2, l1 ++ l2, p5, p6, p7, ?_, ?_⟩
    · have hf : evalS Γ (.for_ (.nm 6) (.seq (.var 1)) tB3) [A, some (.t (.lst (avs gs)) true), F, some (.v (.str w)), some (.t (.lst acc) false), some (.v (.loc l)), o6, o7] st = .nx [A, some (.t (.lst (avs gs)) true), F, some (.v (.str w)), some (.t (.lst (acc ++ l1)) false), some (.v (.loc l)), q6, q7] (st ++ m1) := by
        rw [x_for]
        simp only [x_seq, x_var, List.getElem?_cons_zero, List.getElem?_cons_succ, slE_t, bnd_ok, src_b, toR_ok]
        have hk : lockS (.slot 1 (.lst (avs gs))) [A, some (.t (.lst (avs gs)) true), F, some (.v (.str w)), some (.t (.lst acc) false), some (.v (.loc l)), o6, o7] = [A, some (.t (.lst (avs gs)) true), F, some (.v (.str w)), some (.t (.lst acc) false), some (.v (.loc l)), o6, o7] := by simp [lockS]
        rw [hk, h1]
        simp [SRes.mapS, unlockS]
      rw [forL_step (ρ' := [A, some (.t (.lst (avs gs)) true), F, some (.v (.str w)), some (.t (.lst (acc ++ l1)) false), some (.v (.loc l)), q6, q7]) (st' := st ++ m1) (hgd _ _) (.inl ?_), h3]
      · simp
      · simp only [forB, assignT, List.length_cons, List.length_nil, List.set_cons_succ, List.set_cons_zero]
        rw [if_pos (by decide)]
        show evalSs Γ tB2 [A, some (.t (.lst (avs gs)) true), F, some (.v (.str w)), some (.t (.lst acc) false), some (.v (.loc l)), o6, o7] st = _
        rw [x_ssCons, hf]
        simp
    · have e : (st ++ m1) ++ m2 = st ++ (m1 ++ m2) := by simp
      rw [e] at h4
      have h5 := ats_more m2 h2
      rw [e] at h5
      exact ats_app h5 h4
end
end K01


set_option Elab.async false
set_option linter.all false
set_option maxRecDepth 100000
set_option maxHeartbeats 4000000
/-! M16: k01: all tables of words, at the head. -/
namespace K01
open D
theorem tabs1_len (gs : List W) (w : W) (ts : List T) : (tabs1 gs w ts).length = ts.length * gs.length := by
  unfold tabs1
  induction ts with
  | nil => simp
  | cons t r ih => rw [List.flatMap_cons, List.length_append, ih, List.length_map, List.length_cons, Nat.succ_mul, Nat.add_comm]
theorem tabs1_sz {gs : List W} {w : W} {ts : List T} {k : Nat} (h : ∀ t ∈ ts, t.length ≤ k) : ∀ t ∈ tabs1 gs w ts, t.length ≤ k + 1 := by
  intro t ht
  obtain ⟨u, hu, h2⟩ := List.mem_flatMap.mp ht
  obtain ⟨g, _, rfl⟩ := List.mem_map.mp h2
  have := tput_len u w g
  have := h u hu
  omega
section
variable {scr : L2.V → Option (List Int)} {d : Nat}
theorem tab_out (Γ : Calls) (A : Option SV) (gs : List W) (hg : gs ≠ []) (n : Nat) (gd : Gd) (hgd : ∀ ρ st, gd.ok ρ st = true) : ∀ (ws : List W) (ts : List T) (ls0 : List Val) (st : Store) (o3 o4 o5 o6 o7 : Option SV) (k : Nat), (∀ t ∈ ts, t.length ≤ k) → k + ws.length ≤ 1000 → n ≤ st.length → Ats st n ls0 ts → ts.length * gs.length ^ ws.length ≤ 1000 →
    ∃ more ls p3 p4 p5 p6 p7, forL gd (forB (.nm 3) fun ρ2 st2 => evalSs Γ tB1 ρ2 st2) (avs ws) [A, some (.t (.lst (avs gs)) true), some (.t (.lst ls0) false), o3, o4, o5, o6, o7] st = .nx [A, some (.t (.lst (avs gs)) true), some (.t (.lst ls) false), p3, p4, p5, p6, p7] (st ++ more) ∧ Ats (st ++ more) n ls (tabsF gs ts ws) := by
  intro ws
  induction ws with
  | nil =>
    intro ts ls0 st o3 o4 o5 o6 o7 k _ _ hn hA _
    exact ⟨[], ls0, o3, o4, o5, o6, o7, by rw [show avs [] = [] from rfl, forL_nil (hgd _ _)]; simp, by simpa [tabsF] using hA⟩
  | cons w r ih =>
    intro ts ls0 st o3 o4 o5 o6 o7 k hk hk2 hn hA hsz
    have hk3 : k + (r.length + 1) ≤ 1000 := hk2
    have hgp : 0 < gs.length := List.length_pos_iff.mpr hg
    have hsz2 : ts.length * gs.length * gs.length ^ r.length ≤ 1000 := by
      have e : gs.length ^ (w :: r).length = gs.length * gs.length ^ r.length := by
        rw [List.length_cons, Nat.pow_succ, Nat.mul_comm]
      rw [e, ← Nat.mul_assoc] at hsz
      exact hsz
    have hsz3 : ts.length * gs.length ≤ 1000 := Nat.le_trans (Nat.le_mul_of_pos_right _ (Nat.pow_pos hgp)) hsz2
    obtain ⟨m1, l1, q5, q6, q7, h1, h2⟩ := tab_mid Γ A (some (.t (.lst ls0) true)) w gs n (.slot 2 (.lst ls0)) (fun _ _ => rfl) ts ls0 st [] o5 o6 o7 (fun t h => by have := hk t h; unfold LIM; omega) hn hA (by simp; unfold LIM; omega)
    obtain ⟨m2, l2, p3, p4, p5, p6, p7, h3, h4⟩ := ih (tabs1 gs w ts) l1 (st ++ m1) (some (.v (.str w))) none q5 q6 q7 (k + 1) (tabs1_sz hk) (by omega) (by simp; omega) h2 (by rw [tabs1_len]; exact hsz2)
    have e : (st ++ m1) ++ m2 = st ++ (m1 ++ m2) := by simp
    rw [e] at h3 h4
    refine ⟨m1 ++ m2, l2, p3, p4, p5, p6, p7, ?_, h4⟩
    have hf : evalS Γ (.for_ (.nm 5) (.seq (.var 2)) tB2) [A, some (.t (.lst (avs gs)) true), some (.t (.lst ls0) false), some (.v (.str w)), some (.t (.lst []) false), o5, o6, o7] st = .nx [A, some (.t (.lst (avs gs)) true), some (.t (.lst ls0) false), some (.v (.str w)), some (.t (.lst l1) false), q5, q6, q7] (st ++ m1) := by
      rw [x_for]
      simp only [x_seq, x_var, List.getElem?_cons_zero, List.getElem?_cons_succ, slE_t, bnd_ok, src_b, toR_ok]
      have hk : lockS (.slot 2 (.lst ls0)) [A, some (.t (.lst (avs gs)) true), some (.t (.lst ls0) false), some (.v (.str w)), some (.t (.lst []) false), o5, o6, o7] = [A, some (.t (.lst (avs gs)) true), some (.t (.lst ls0) true), some (.v (.str w)), some (.t (.lst []) false), o5, o6, o7] := by simp [lockS]
      rw [hk, h1]
      simp [SRes.mapS, unlockS]
    rw [show avs (w :: r) = .str w :: avs r from rfl, forL_step (ρ' := [A, some (.t (.lst (avs gs)) true), some (.t (.lst l1) false), some (.v (.str w)), none, q5, q6, q7]) (st' := st ++ m1) (hgd _ _) (.inl ?_), h3]
    simp only [forB, assignT, List.length_cons, List.length_nil, List.set_cons_succ, List.set_cons_zero]
    rw [if_pos (by decide)]
    show evalSs Γ tB1 [A, some (.t (.lst (avs gs)) true), some (.t (.lst ls0) false), some (.v (.str w)), o4, o5, o6, o7] st = _
    rw [x_ssCons]
    have ha : evalS Γ (.asg (.nm 4) (.lst .nil)) [A, some (.t (.lst (avs gs)) true), some (.t (.lst ls0) false), some (.v (.str w)), o4, o5, o6, o7] st = .nx [A, some (.t (.lst (avs gs)) true), some (.t (.lst ls0) false), some (.v (.str w)), some (.t (.lst []) false), o5, o6, o7] st := by simp [asgK_t]
    rw [ha, sq_nx, x_ssCons, hf]
    simp [moveS]
theorem tabs1_ne {gs : List W} {w : W} {ts : List T} (hg : gs ≠ []) (ht : ts ≠ []) : tabs1 gs w ts ≠ [] := by
  intro e
  have := tabs1_len gs w ts
  rw [e] at this
  have h1 := List.length_pos_iff.mpr hg
  have h2 := List.length_pos_iff.mpr ht
  have := Nat.mul_pos h2 h1
  simp at *
  omega
theorem tabsF_ne {gs : List W} (hg : gs ≠ []) : ∀ (ws : List W) (ts : List T), ts ≠ [] → tabsF gs ts ws ≠ []
  | [], ts, h => h
  | w :: r, ts, h => tabsF_ne hg r _ (tabs1_ne hg h)
theorem r_tables (hd : 1 ≤ d) {ws gs : List W} (hg : gs ≠ []) (hl : ws.length ≤ 100) (hsz : gs.length ^ ws.length ≤ 1000) (st : Store) : ∃ more ls, runF scr Tb d "_law_tables" [.t (.lst (avs ws)) true, .t (.lst (avs gs)) true] st = .ok (.t (.lst ls)) (st ++ more) ∧ Ats (st ++ more) st.length ls (tabs ws gs) := by
  obtain ⟨d, rfl⟩ := Nat.exists_eq_add_of_le' hd
  rw [runF_lk (fd := ⟨2, 8, b__law_tables⟩) (by rfl) rfl (by decide)]
  obtain ⟨more, ls, p3, p4, p5, p6, p7, h1, h2⟩ := tab_out ⟨runF scr Tb d, scr⟩ (some (.t (.lst (avs ws)) true)) gs hg st.length (.slot 0 (.lst (avs ws))) (fun _ _ => rfl) ws [[]] [.loc st.length] (st ++ [.dict []]) none none none none none 0 (by simp) (by omega) (by simp) ⟨Nat.le_refl _, by simp [tv], trivial⟩ (by simpa using hsz)
  have e : (st ++ [Cell.dict []]) ++ more = st ++ (.dict [] :: more) := by simp
  rw [e] at h1 h2
  refine ⟨.dict [] :: more, ls, ?_, h2⟩
  have hf : evalS ⟨runF scr Tb d, scr⟩ (.for_ (.nm 3) (.seq (.var 0)) tB1) [some (.t (.lst (avs ws)) true), some (.t (.lst (avs gs)) true), some (.t (.lst [.loc st.length]) false), none, none, none, none, none] (st ++ [.dict []]) = .nx [some (.t (.lst (avs ws)) true), some (.t (.lst (avs gs)) true), some (.t (.lst ls) false), p3, p4, p5, p6, p7] (st ++ (.dict [] :: more)) := by
    rw [x_for]
    simp only [x_seq, x_var, List.getElem?_cons_zero, List.getElem?_cons_succ, slE_t, bnd_ok, src_b, toR_ok]
    have hk : lockS (.slot 0 (.lst (avs ws))) [some (.t (.lst (avs ws)) true), some (.t (.lst (avs gs)) true), some (.t (.lst [.loc st.length]) false), none, none, none, none, none] = [some (.t (.lst (avs ws)) true), some (.t (.lst (avs gs)) true), some (.t (.lst [.loc st.length]) false), none, none, none, none, none] := by simp [lockS]
    rw [hk, h1]
    simp [SRes.mapS, unlockS]
  have ef : ∀ st, finD [] st = .ok (.t (.dict [])) st := fun st => rfl
  have hgc : gc st (.ok (.t (.lst ls)) (st ++ (.dict [] :: more))) = .ok (.t (.lst ls)) (st ++ (.dict [] :: more)) := by
    unfold gc
    have hn : ¬ (st ++ (Cell.dict [] :: more)).length ≤ st.length := by simp
    have hb : EV.bd st.length (liftN st.length (st ++ (.dict [] :: more)) (.t (.lst ls))) = false := by
      cases ht : tabs ws gs with
      | nil => exact absurd ht (tabsF_ne hg ws _ (by simp))
      | cons t ts =>
        have h3 : Ats (st ++ (.dict [] :: more)) st.length ls (tabs ws gs) := h2
        rw [ht] at h3
        cases ls with
        | nil => exact False.elim h3
        | cons x r =>
          obtain ⟨l, rfl⟩ : ∃ l, x = .loc l := by cases x <;> first | exact ⟨_, rfl⟩ | exact False.elim h3
          have hl2 : st.length ≤ l := h3.1
          show Val.bds st.length (.loc l :: r) = false
          show (decide (l < st.length) && Val.bds st.length r) = false
          rw [decide_eq_false (by omega)]; rfl
    simp only [if_neg hn]
    rw [hb]
    rfl
  simp [b__law_tables, startS, intern_t, ef, asgK_t]
  rw [hf]
  simp [retK, given]
  exact hgc
end
end K01


set_option Elab.async false
set_option linter.all false
set_option maxRecDepth 100000
set_option maxHeartbeats 4000000
/-! M17: k01: the rest of a round. -/
namespace K01
open D
theorem comp_ats {g : Store → Bool} {f : Val → M (Option Val)} {p : T → Bool} {st : Store} (hg : g st = true) {n : Nat} : ∀ {ts : List T} {ls : List Val}, Ats st n ls ts → (∀ l, ∀ t ∈ ts, st[l]? = some (.dict (tv t)) → f (.loc l) st = .ok (if p t then some (.loc l) else none) st) → ∃ ls', compL g f ls st = .ok ls' st ∧ Ats st n ls' (ts.filter p) := by
  intro ts
  induction ts with
  | nil =>
    intro ls hA _
    cases ls with
    | cons x r => exact False.elim (by cases x <;> exact hA)
    | nil => exact ⟨[], by unfold compL; rw [if_pos hg], trivial⟩
  | cons t ts ih =>
    intro ls hA hf
    cases ls with
    | nil => exact False.elim hA
    | cons x ls =>
      obtain ⟨l, rfl⟩ : ∃ l, x = .loc l := by cases x <;> first | exact ⟨_, rfl⟩ | exact False.elim hA
      obtain ⟨ls', h1, h2⟩ := ih hA.2.2 fun l t ht => hf l t (List.mem_cons_of_mem _ ht)
      have h3 := hf l t (by simp) hA.2.1
      by_cases h : p t = true
      · refine ⟨.loc l :: ls', ?_, ?_⟩
        · unfold compL
          rw [if_pos hg, h3, if_pos h]
          dsimp only
          rw [h1]
          rfl
        · rw [List.filter_cons_of_pos h]
          exact ⟨hA.1, hA.2.1, h2⟩
      · refine ⟨ls', ?_, ?_⟩
        · unfold compL
          rw [if_pos hg, h3, if_neg h]
          dsimp only
          rw [h1]
          rfl
        · rw [List.filter_cons_of_neg h]
          exact h2
theorem gcOk_app (n : Nat) : ∀ (st more : Store), gcOk n st (st ++ more) = true
  | [], _ => by cases ‹Store› <;> rfl
  | c :: r, more => by
    show ((c == c || c.bd n) && gcOk n r (r ++ more)) = true
    rw [gcOk_app n r more]
    simp
theorem gc_bool {st more : Store} (b : Bool) : gc st (.ok (.v (.bool b)) (st ++ more)) = .ok (.v (.bool b)) st := by
  unfold gc
  by_cases h : (st ++ more).length ≤ st.length
  · have : more = [] := by
      cases more with
      | nil => rfl
      | cons c r => simp at h; omega
    subst this
    simp
  · simp only [if_neg h]
    rw [show EV.bd st.length (liftN st.length (st ++ more) (.v (.bool b))) = true from rfl, gcOk_app]
    simp [liftN]
theorem cop_nil {st : Store} {i : Nat} {ls : List Val} {b : Bool} : (cop .ne (.b i (.lst ls)) (.t (.lst [])) st = .ok (!ls.isEmpty) st) ∧ (cop .eq (.b i (.lst ls)) (.t (.lst [])) st = .ok ls.isEmpty st) := by
  cases ls <;> exact ⟨rfl, rfl⟩
theorem ats_emp {st : Store} {n : Nat} {ls : List Val} {ts : List T} (h : Ats st n ls ts) : ls.isEmpty = ts.isEmpty := by
  have := ats_len h
  cases ls <;> cases ts <;> simp_all
def wAB : W := ['a']
def g4 : List W := [['a'], ['b'], ['X'], ['Y']]
section
variable {scr : L2.V → Option (List Int)} {d : Nat}
theorem r_rest (hd : 8 ≤ d) {n m f : W} {ws vs us : List W} (hn : n.length ≤ 20) (hnc : ∀ c ∈ n, c ∈ AL) (hw : ∀ w ∈ ws, w ≠ [] ∧ w.length ≤ 20 ∧ ∀ c ∈ w, c ∈ AL) (hl : ws.length ≤ 4) (hfn : f.length ≤ 20) (hu : ∀ w ∈ us, w.length ≤ 20) (ho : (opens ws).length ≤ 4)
    (ha : (fit n ws m vs []).isSome = !((tabs (opens ws) g4).filter fun t => n == m && ws.map (fill t) == vs).isEmpty)
    (hb : canon (ws.map (rnm ['z', '9'])) = canon ws) (hc : (fit n ws n (canon ws) []).isSome = true) (hdd : (fit n (canon ws) n ws []).isSome = true)
    (he : isAtom n ws = true) (hf : isFact n ws = decide (opens ws = [])) (hg : isFact f us = true) (hcl : ∀ w ∈ canon ws, w.length ≤ 20) (st : Store) :
    runF scr Tb d "_law_rest" [.v (atomV n ws), .v (atomV m vs), .v (atomV f us), .t (.lst (avs (opens ws))) true] st = .ok (.v (.bool true)) st := by
  obtain ⟨d, rfl⟩ := Nat.exists_eq_add_of_le' (show 1 ≤ d by omega)
  rw [runF_lk (fd := ⟨4, 7, b__law_rest⟩) (by rfl) rfl (by decide)]
  have hlw : ∀ w ∈ ws, w.length ≤ LIM := fun w h => by have := (hw w h).2.1; unfold LIM; omega
  obtain ⟨more, ls, t1, hA⟩ := r_tables (scr := scr) (d := d) (by omega) (ws := opens ws) (gs := g4) (by simp [g4]) (by omega) (by
    have : g4.length ^ (opens ws).length ≤ 4 ^ 4 := Nat.pow_le_pow_right (by decide) ho
    omega) st
  generalize hs2 : st ++ more = s2 at *
  have key : ∃ ls', evalE ⟨runF scr Tb d, scr⟩ (.lc [5] (.nm 5) (.seq (.call "_law_tables" (.lend (.var 3) (.lend (.lst (.cons (.con (.str ['a'])) (.cons (.con (.str ['b'])) (.cons (.con (.str ['X'])) (.cons (.con (.str ['Y'])) .nil))))) .nil)) [])) (.some (.cmp .eq (.call "filled" (.lend (.var 0) (.lend (.var 5) .nil)) []) (.var 1))) (.var 5)) [some (.v (atomV n ws)), some (.v (atomV m vs)), some (.v (atomV f us)), some (.t (.lst (avs (opens ws))) true), none, none, none] st = .ok (.t (.lst ls')) s2 ∧ Ats s2 st.length ls' ((tabs (opens ws) g4).filter fun t => n == m && ws.map (fill t) == vs) := by
    have e0 : ([.str ['a'], .str ['b'], .str ['X'], .str ['Y']] : List Val) = avs g4 := rfl
    obtain ⟨ls', h1, h2⟩ := comp_ats (st := s2) (g := fun st => Gd.ok [some (.v (atomV n ws)), some (.v (atomV m vs)), some (.v (atomV f us)), some (.t (.lst (avs (opens ws))) true), none, none, none] st .no) (p := fun t => n == m && ws.map (fill t) == vs) (f := bodyM (.nm 5) [5] [some (.v (atomV n ws)), some (.v (atomV m vs)), some (.v (atomV f us)), some (.t (.lst (avs (opens ws))) true), none, none, none] (evalOc ⟨runF scr Tb d, scr⟩ (.some (.cmp .eq (.call "filled" (.lend (.var 0) (.lend (.var 5) .nil)) []) (.var 1)))) (fun ρ2 => mkV (evalE ⟨runF scr Tb d, scr⟩ (.var 5) ρ2)) (.pure none)) rfl hA (by
      intro l t _ ht
      have e1 := r_filled (scr := scr) (d := d) (by omega) (n := n) (ws := ws) (by unfold LIM; omega) (sv := .v (.loc l)) (t := t) (st := s2) ht
      have e2 := cop_eqV s2 (atomV_pure n (ws.map (fill t))) (atomV_pure m vs)
      rw [eqv_atomV] at e2
      have ew : wipeS [some (.v (atomV n ws)), some (.v (atomV m vs)), some (.v (atomV f us)), some (.t (.lst (avs (opens ws))) true), none, none, none] [5] = [some (.v (atomV n ws)), some (.v (atomV m vs)), some (.v (atomV f us)), some (.t (.lst (avs (opens ws))) true), none, none, none] := rfl
      simp only [x_body, ew, assignT, List.length_cons, List.length_nil, List.set_cons_succ, List.set_cons_zero]
      rw [if_pos (by decide), ofO_some, bnd_ok]
      simp only [x_ocSome, x_cmp, x_call, x_asLend, x_asNil, x_var, List.getElem?_cons_zero, List.getElem?_cons_succ, slE_v, bnd_ok, argOf_v, List.map_nil, List.append_nil, e1, e2, isB_b, x_mkV, intern_v]
      split <;> rfl)
    have hlen : ls'.length ≤ LIM := by
      rw [ats_len h2]
      have h3 := List.length_filter_le (fun t => n == m && ws.map (fill t) == vs) (tabs (opens ws) g4)
      have h4 : ∀ (ws : List W) (ts : List T), (tabsF g4 ts ws).length = ts.length * 4 ^ ws.length := by
        intro ws
        induction ws with
        | nil => intro ts; simp [tabsF]
        | cons w r ih =>
          intro ts
          show (tabsF g4 (tabs1 g4 w ts) r).length = _
          rw [ih, tabs1_len, List.length_cons, Nat.pow_succ, Nat.mul_assoc, Nat.mul_comm (4 ^ r.length)]
          rfl
      have h5 : (tabs (opens ws) g4).length = 1 * 4 ^ (opens ws).length := h4 _ _
      have h6 : 4 ^ (opens ws).length ≤ 4 ^ 4 := Nat.pow_le_pow_right (by decide) ho
      unfold LIM
      omega
    refine ⟨ls', ?_, h2⟩
    rw [x_lc]
    simp only [x_seq, x_call, x_asLend, x_asNil, x_var, x_lst, x_esCons, x_esNil, x_con, intern_v, List.getElem?_cons_zero, List.getElem?_cons_succ, slE_t, slE_v, argOf_b, argOf_t, bnd_ok, List.map_nil, List.append_nil, e0, t1, src_t]
    rw [h1, bnd_ok]
    exact finL_ok hlen _
  obtain ⟨ls', k1, k2⟩ := key
  have emp := ats_emp k2
  have e1 := fun st => r_is_wider (scr := scr) (d := d) (by omega) (n := n) (m := m) (ws := ws) (vs := vs) hlw (by unfold LIM; omega) st
  rw [ha, ← emp] at e1
  have e2 := fun st => r_renamed (scr := scr) (d := d) (by omega) (n := n) (m := ['z', '9']) (ws := ws) (by unfold LIM; omega) (fun w h => by have := (hw w h).2.1; unfold LIM; simp; omega) st
  have e3 := fun st => r_canonical (scr := scr) (d := d) (by omega) (n := n) (ws := ws) hlw (by omega) st
  have e4 := fun st => r_canonical (scr := scr) (d := d) (by omega) (n := n) (ws := ws.map (rnm ['z', '9'])) (fun w h => by
    obtain ⟨u, hu, rfl⟩ := List.mem_map.mp h
    have := (hw u hu).2.1
    unfold rnm LIM
    split <;> simp <;> omega) (by simp; omega) st
  rw [hb] at e4
  have e5 : ∀ st, cop .ne (.v (atomV n (canon ws))) (.v (atomV n (canon ws))) st = .ok false st := fun st => by
    rw [cop_neV st (atomV_pure _ _) (atomV_pure _ _), eqv_atomV]; simp
  have e6 := fun st => r_is_wider (scr := scr) (d := d) (by omega) (n := n) (m := n) (ws := ws) (vs := canon ws) hlw (by unfold LIM; omega) st
  rw [hc] at e6
  have e7 := fun st => r_is_wider (scr := scr) (d := d) (by omega) (n := n) (m := n) (ws := canon ws) (vs := ws) (fun w h => by have := hcl w h; unfold LIM; omega) (by simp [canon]; unfold LIM; omega) st
  rw [hdd] at e7
  have e8 := fun st => r_told (scr := scr) (d := d) (by omega) (n := n) (ws := ws) (by omega) (fun w h => by have := (hw w h).2.1; omega) (by omega) st
  have htl : (tell n ws).length ≤ 1000 := by
    have h1 := joinW_len ws 20 fun w h => (hw w h).2.1
    have h2 : ws.length * 21 ≤ 4 * 21 := Nat.mul_le_mul_right _ hl
    unfold tell
    split <;> simp <;> omega
  have e9 : ∀ st, bop .add (.v (.str (tell n ws))) (.v (.str ['.'])) st = .ok (.v (.str (tell n ws ++ ['.']))) st := fun st => bop_addS st (by simp; unfold LIM; omega)
  have e10 := fun st => r_read_at (scr := scr) (d := d) (by omega) (n := n) (ws := ws) (by omega) (fun w h => ⟨(hw w h).1, by have := (hw w h).2.1; omega, (hw w h).2.2⟩) hnc (by omega) he st
  have e11 : ∀ st, biOp .len [.v (.str (tell n ws))] st = .ok (.v (.int (tell n ws).length)) st := fun st => bi_lenS st (by unfold LIM; omega)
  have e12 : ∀ st, cop .ne (.v (.tup [atomV n ws, .int (tell n ws).length])) (.v (.tup [atomV n ws, .int (tell n ws).length])) st = .ok false st := fun st => by
    have hp : (Val.tup [atomV n ws, .int (tell n ws).length]).pure = true := by simp [atomV, avs_pure]
    rw [cop_neV st hp hp]
    show Res.ok (!(Val.eqv (atomV n ws) (atomV n ws) && (Val.eqv (.int _) (.int _) && true))) st = _
    rw [eqv_atomV]
    simp [Val.eqv]
  have e13 := fun st => r_is_atom (scr := scr) (d := d) (by omega) (n := n) (ws := ws) (by unfold LIM; omega) hlw st
  rw [he] at e13
  have e14 := fun st => r_is_fact (scr := scr) (d := d) (by omega) (n := n) (ws := ws) (by unfold LIM; omega) hlw st
  rw [hf] at e14
  have e15 := fun st => r_refused (scr := scr) (d := d) (by omega) (v := atomV f us) (b := true) (fun e he2 st => by
    rw [r_is_fact he2 (by unfold LIM; omega) (fun w h => by have := hu w h; unfold LIM; omega) st, hg]) st
  have e16 : ∀ st, cop .eq (.b 3 (.lst (avs (opens ws)))) (.t (.lst [])) st = .ok (decide (opens ws = [])) st := fun st => by
    rw [(cop_nil (b := true)).2]
    cases opens ws <;> simp [avs]
  have e17 := fun st => (cop_nil (st := st) (i := 4) (ls := ls') (b := true)).1
  have hgc := gc_bool (st := st) (more := more) true
  rw [hs2] at hgc
  simp [b__law_rest, startS, k1, asgK_t, e1, e17, e2, e3, e4, e5, e6, e7, e8, asgK_nm, e9, e10, e11]
  simp [e12, e13, e14, e15, e16, hgc]
end
end K01


set_option Elab.async false
set_option linter.all false
set_option maxRecDepth 100000
set_option maxHeartbeats 4000000
/-! M18: k01: the law's comprehensions. -/
namespace K01
open D
def gAB : List W := [['a'], ['b']]
def gABC : List W := [['a'], ['b'], ['c']]
def gXY : List W := [['X'], ['Y']]
def gW4 : List W := [['X'], ['Y'], ['a'], ['b']]
theorem mem_avsT (st : Store) (f : List W) (w : W) : cop .mem (.v (.str w)) (.t (.lst (avs f))) st = .ok (f.contains w) st := by
  have h := mem_avs st 0 f w
  have e : memEV st (.v (.str w)) (.t (.lst (avs f))) = memEV st (.v (.str w)) (.b 0 (.lst (avs f))) := by
    cases w with
    | nil => rfl
    | cons c r => cases r <;> rfl
  simp only [cop, e] at h ⊢
  exact h
theorem nmem_avsT (st : Store) (f : List W) (w : W) : cop .nmem (.v (.str w)) (.t (.lst (avs f))) st = .ok (!f.contains w) st := by
  have h := nmem_avs st 0 f w
  have e : memEV st (.v (.str w)) (.t (.lst (avs f))) = memEV st (.v (.str w)) (.b 0 (.lst (avs f))) := by
    cases w with
    | nil => rfl
    | cons c r => cases r <;> rfl
  simp only [cop, e] at h ⊢
  exact h
theorem fm_avs {φ : Val → Option Val} {p : W → Bool} (ws : List W) (h : ∀ w, φ (.str w) = if p w then some (.str w) else none) : (avs ws).filterMap φ = avs (ws.filter p) := by
  induction ws with
  | nil => rfl
  | cons w r ih =>
    show (Val.str w :: avs r).filterMap φ = _
    rw [List.filterMap_cons, h]
    by_cases hp : p w = true
    · rw [if_pos hp, List.filter_cons_of_pos hp]
      dsimp only
      rw [ih]; rfl
    · rw [if_neg hp, List.filter_cons_of_neg hp]
      exact ih
/-- the words that stand at their first place -/
def firsts (gv : List W) : List W := (List.range gv.length).filterMap fun k => if (gv.take k).contains (gv[k]?.getD []) then none else some (gv[k]?.getD [])
theorem rngL_mem : ∀ (n : Nat) (a : Nat), ∀ v ∈ rngL (a : Int) n, ∃ k : Nat, v = .int k ∧ k < a + n
  | 0, _, _, h => by cases h
  | n + 1, a, v, h => by
    cases List.mem_cons.mp h with
    | inl e => exact ⟨a, e, by omega⟩
    | inr e =>
      have e2 : v ∈ rngL ((a + 1 : Nat) : Int) n := e
      obtain ⟨k, e1, e3⟩ := rngL_mem n (a + 1) v e2
      exact ⟨k, e1, by omega⟩
theorem rngL_range : ∀ (n : Nat) (a : Nat), rngL (a : Int) n = (List.range' a n).map fun k => .int (k : Nat)
  | 0, _ => rfl
  | n + 1, a => by
    rw [List.range'_succ, List.map_cons, ← rngL_range n (a + 1)]
    rfl
def dF (gv : List W) (k : Nat) : Option W := if (gv.take k).contains (gv[k]?.getD []) then none else some (gv[k]?.getD [])
def dφ (gv : List W) : Val → Option Val
  | .int k => (dF gv k.toNat).map Val.str
  | _ => none
theorem fm_range (f : Nat → Option W) (φ : Val → Option Val) (h : ∀ k : Nat, φ (.int k) = (f k).map Val.str) : ∀ l : List Nat, (l.map fun k => Val.int (k : Nat)).filterMap φ = avs (l.filterMap f)
  | [] => rfl
  | k :: r => by
    rw [List.map_cons, List.filterMap_cons, h, fm_range f φ h r, List.filterMap_cons]
    cases f k <;> rfl
section
variable {scr : L2.V → Option (List Int)} {d : Nat}
theorem E3 (hd : True) {n : W} {ws : List W} (hl : ws.length ≤ 4) {ρ : Sl} (hρ : ρ.length = 18) (h10 : ρ[10]? = some (some (.v (atomV n ws)))) (st : Store) : evalE ⟨runF scr Tb d, scr⟩ (.lc [16] (.nm 16) (.seq (.ix (.var 10) (.con (.int 1)))) (.some (.cmp .mem (.var 16) (.lst (.cons (.con (.str ['X'])) (.cons (.con (.str ['Y'])) .nil))))) (.var 16)) ρ st = .ok (.t (.lst (avs (ws.filter fun w => gXY.contains w)))) st := by
  rw [x_lc]
  unfold atomV at h10
  simp only [x_seq, x_ix, x_con, x_var, h10, slE_v, bnd_ok, ix_tup1, src_tup]
  rw [compL_map (φ := fun v => match v with | .str w => if gXY.contains w then some (.str w) else none | _ => none) (by rfl)]
  · rw [fm_avs (p := fun w => gXY.contains w) ws (fun w => rfl), bnd_ok]
    exact finL_ok (by have := List.length_filter_le (fun w => gXY.contains w) ws; simp only [avs_len]; unfold LIM; omega) _
  · intro y hy
    obtain ⟨w, hw2, rfl⟩ := List.mem_map.mp hy
    have e0 : ([.str ['X'], .str ['Y']] : List Val) = avs gXY := rfl
    simp only [x_body, wipeS, assignT, List.length_set, hρ, show 16 < 18 by decide, if_true, ofO_some, bnd_ok, x_ocSome, x_cmp, x_var, x_lst, x_esCons, x_esNil, x_con, intern_v]
    rw [List.getElem?_set_self (by simp [hρ])]
    simp only [slE_v, bnd_ok, e0, mem_avsT, isB_b, x_mkV, x_var]
    rw [List.getElem?_set_self (by simp [hρ])]
    simp only [slE_v, bnd_ok, intern_v, x_pure]
    split <;> rfl
theorem E4 (hd : True) {gv : List W} (hl : gv.length ≤ 4) {ρ : Sl} (hρ : ρ.length = 18) (h2 : ρ[2]? = some (some (.t (.lst (avs gv)) false))) (st : Store) : evalE ⟨runF scr Tb d, scr⟩ (.lc [17] (.nm 17) (.rng (.bi .len (.cons (.var 2) .nil))) (.some (.cmp .nmem (.ix (.var 2) (.var 17)) (.sl (.var 2) .none (.some (.var 17))))) (.ix (.var 2) (.var 17))) ρ st = .ok (.t (.lst (avs (firsts gv)))) st := by
  rw [x_lc]
  have er : rngOf (.v (.int gv.length)) st = .ok ⟨rngL 0 gv.length, .no⟩ st := by
    simp only [rngOf]
    rw [if_pos (by omega)]
    rfl
  have ev : evalE ⟨runF scr Tb d, scr⟩ (.bi .len (.cons (.var 2) .nil)) ρ st = .ok (.v (.int gv.length)) st := by
    simp only [x_bi, x_xsCons, x_xsNil, x_var, h2, slE_t, bnd_ok, bi_lenB, avs_len]
  rw [x_rng, ev, bnd_ok, er, bnd_ok]
  have hφ := rngL_range gv.length 0
  simp only [Int.natCast_zero] at hφ
  rw [compL_map (φ := dφ gv) (by rfl)]
  · have e : (rngL 0 gv.length).filterMap (dφ gv) = avs (firsts gv) := by
      rw [hφ, fm_range (dF gv) (dφ gv) (fun k => rfl), ← List.range_eq_range']
      rfl
    rw [e, bnd_ok]
    refine finL_ok ?_ _
    have : (firsts gv).length ≤ (List.range gv.length).length := List.length_filterMap_le _ _
    simp only [avs_len, List.length_range] at *
    unfold LIM; omega
  · intro y hy
    obtain ⟨k, rfl, hk⟩ := rngL_mem gv.length 0 y hy
    rw [Nat.zero_add] at hk
    have e1 : gv[k]? = some gv[k] := List.getElem?_eq_getElem hk
    have e2 : ∀ st, ixOp (.b 2 (.lst (avs gv))) (.v (.int k)) st = .ok (.v (.str gv[k])) st := fun st => ix_lstO st rfl (by rw [atN]; simp [avs, hk])
    have e3 : cutL (avs gv) none (some (k : Int)) = avs (gv.take k) := by rw [cut_t]; simp [avs, List.map_take]
    have hlk : ((wipeS ρ [17]).set 17 (some (.v (.int k))))[17]? = some (some (.v (.int k))) := List.getElem?_set_self (by simp [wipeS, hρ])
    have hlk2 : ((wipeS ρ [17]).set 17 (some (.v (.int k))))[2]? = some (some (.t (.lst (avs gv)) false)) := by
      rw [List.getElem?_set_ne (by decide)]
      show (ρ.set 17 none)[2]? = _
      rw [List.getElem?_set_ne (by decide), h2]
    have hln : 17 < (wipeS ρ [17]).length := by simp [wipeS, hρ]
    simp only [x_body, assignT, hln, if_true, ofO_some, bnd_ok, x_ocSome, x_cmp, x_ix, x_var, hlk, hlk2, slE_v, slE_t, e2, x_sl, x_oiNone, x_oiSome, oiK_i, sl_scrB, sl_lstB, e3, nmem_avsT, isB_b, x_mkV, intern_v, x_pure]
    show _ = Res.ok ((dF gv k).map Val.str) st
    unfold dF
    rw [e1, Option.getD_some]
    cases (gv.take k).contains gv[k] <;> rfl
end
end K01


set_option Elab.async false
set_option linter.all false
set_option maxRecDepth 100000
set_option maxHeartbeats 4000000
/-! M19: k01: the law's comprehensions over tables. -/
namespace K01
open D
theorem cop_nilT {st : Store} {ls : List Val} : (cop .ne (.t (.lst ls)) (.t (.lst [])) st = .ok (!ls.isEmpty) st) ∧ (cop .eq (.t (.lst ls)) (.t (.lst [])) st = .ok ls.isEmpty st) := by
  cases ls <;> exact ⟨rfl, rfl⟩
theorem tabsF_len (gs : List W) : ∀ (ws : List W) (ts : List T), (tabsF gs ts ws).length = ts.length * gs.length ^ ws.length
  | [], ts => by simp [tabsF]
  | w :: r, ts => by
    show (tabsF gs (tabs1 gs w ts) r).length = _
    rw [tabsF_len gs r, tabs1_len, List.length_cons, Nat.pow_succ, Nat.mul_assoc, Nat.mul_comm (gs.length ^ r.length)]
theorem filt_lim {gs ws : List W} (h : gs.length ^ ws.length ≤ 1000) (p : T → Bool) : ((tabs ws gs).filter p).length ≤ LIM := by
  have h1 := List.length_filter_le p (tabs ws gs)
  have h2 : (tabs ws gs).length = 1 * gs.length ^ ws.length := tabsF_len gs ws [[]]
  unfold LIM; omega
/-- a table's slot while a comprehension is walked -/
theorem own_at {ρ : Sl} {i : Nat} {v : Val} (hi : i < ρ.length) : ((wipeS ρ [i]).set i (some (.v v)))[i]? = some (some (.v v)) := List.getElem?_set_self (by simpa [wipeS] using hi)
theorem own_ne {ρ : Sl} {i j : Nat} {v : Val} (hj : i ≠ j) : ((wipeS ρ [i]).set i (some (.v v)))[j]? = ρ[j]? := by
  rw [List.getElem?_set_ne hj]
  show (ρ.set i none)[j]? = _
  rw [List.getElem?_set_ne hj]
def keepP (s t : T) : Bool := (s.map (·.1)).all fun w => (tget t w).getD ((tget s w).getD []) == (tget s w).getD []
theorem key_get {s : T} {w : W} (h : w ∈ s.map (·.1)) : ∃ v, tget s w = some v := by
  cases e : tget s w with
  | some v => exact ⟨v, rfl⟩
  | none =>
    exfalso
    obtain ⟨p, hp, rfl⟩ := List.mem_map.mp h
    unfold tget at e
    have e2 : s.find? (fun q => q.1 == p.1) = none := by simpa using e
    rw [List.find?_eq_none] at e2
    exact e2 p hp (by simp)
section
variable {scr : L2.V → Option (List Int)} {d : Nat}
theorem E6 (hd : 3 ≤ d) {n m : W} {ws vs os : List W} (hl : ws.length ≤ 4) (hos : os.length ≤ 4) {ρ : Sl} (hρ : ρ.length = 18) (h10 : ρ[10]? = some (some (.v (atomV n ws)))) (h11 : ρ[11]? = some (some (.v (atomV m vs)))) (h13 : ρ[13]? = some (some (.t (.lst (avs os)) false))) (st : Store) :
    ∃ more ls, evalE ⟨runF scr Tb d, scr⟩ (.lc [6] (.nm 6) (.seq (.call "_law_tables" (.lend (.var 13) (.lend (.lst (.cons (.con (.str ['a'])) (.cons (.con (.str ['b'])) .nil))) .nil)) [])) (.some (.cmp .eq (.call "filled" (.lend (.var 10) (.lend (.var 6) .nil)) []) (.var 11))) (.var 6)) ρ st = .ok (.t (.lst ls)) (st ++ more) ∧ Ats (st ++ more) st.length ls ((tabs os gAB).filter fun t => n == m && ws.map (fill t) == vs) := by
  have hsz : gAB.length ^ os.length ≤ 1000 := by
    have : gAB.length ^ os.length ≤ 2 ^ 4 := Nat.pow_le_pow_right (by decide) hos
    omega
  obtain ⟨more, ls, t1, hA⟩ := r_tables (scr := scr) (d := d) (by omega) (ws := os) (gs := gAB) (by simp [gAB]) (by omega) hsz st
  generalize hs2 : st ++ more = s2 at *
  have e0 : ([.str ['a'], .str ['b']] : List Val) = avs gAB := rfl
  obtain ⟨ls', h1, h2⟩ := comp_ats (st := s2) (g := fun st => Gd.ok ρ st .no) (p := fun t => n == m && ws.map (fill t) == vs) (f := bodyM (.nm 6) [6] ρ (evalOc ⟨runF scr Tb d, scr⟩ (.some (.cmp .eq (.call "filled" (.lend (.var 10) (.lend (.var 6) .nil)) []) (.var 11)))) (fun ρ2 => mkV (evalE ⟨runF scr Tb d, scr⟩ (.var 6) ρ2)) (.pure none)) rfl hA (by
    intro l t _ ht
    have e1 := r_filled (scr := scr) (d := d) (by omega) (n := n) (ws := ws) (by unfold LIM; omega) (sv := .v (.loc l)) (t := t) (st := s2) ht
    have e2 := cop_eqV s2 (atomV_pure n (ws.map (fill t))) (atomV_pure m vs)
    rw [eqv_atomV] at e2
    have hln : 6 < (wipeS ρ [6]).length := by simp [wipeS, hρ]
    have k6 := own_at (ρ := ρ) (i := 6) (v := .loc l) (by omega)
    have k10 := own_ne (ρ := ρ) (i := 6) (j := 10) (v := .loc l) (by decide)
    have k11 := own_ne (ρ := ρ) (i := 6) (j := 11) (v := .loc l) (by decide)
    rw [h10] at k10
    rw [h11] at k11
    simp only [x_body, assignT, if_pos hln, ofO_some, bnd_ok, x_ocSome, x_cmp, x_call, x_asLend, x_asNil, x_var, k6, k10, k11, slE_v, argOf_v, List.map_nil, List.append_nil, e1, e2, isB_b, x_mkV, intern_v]
    split <;> rfl)
  refine ⟨more, ls', ?_, by rw [hs2]; exact h2⟩
  rw [x_lc]
  simp only [x_seq, x_call, x_asLend, x_asNil, x_var, x_lst, x_esCons, x_esNil, x_con, intern_v, h13, slE_t, slE_v, argOf_b, argOf_t, bnd_ok, List.map_nil, List.append_nil, e0, t1, src_t]
  rw [h1, bnd_ok, hs2]
  exact finL_ok (by rw [ats_len h2]; exact filt_lim hsz _) _
theorem E14 (hd : 3 ≤ d) {n m : W} {ws vs os : List W} (hl : ws.length ≤ 4) (hl2 : vs.length ≤ 4) (hos : os.length ≤ 4) {ρ : Sl} (hρ : ρ.length = 18) (h10 : ρ[10]? = some (some (.v (atomV n ws)))) (h5 : ρ[5]? = some (some (.v (atomV m vs)))) (h7 : ρ[7]? = some (some (.t (.lst (avs os)) false))) (st : Store) :
    ∃ more ls, evalE ⟨runF scr Tb d, scr⟩ (.lc [4] (.nm 4) (.seq (.call "_law_tables" (.lend (.var 7) (.lend (.lst (.cons (.con (.str ['a'])) (.cons (.con (.str ['b'])) (.cons (.con (.str ['c'])) .nil)))) .nil)) [])) (.some (.cmp .eq (.call "filled" (.lend (.var 10) (.lend (.var 4) .nil)) []) (.call "filled" (.lend (.var 5) (.lend (.var 4) .nil)) []))) (.var 4)) ρ st = .ok (.t (.lst ls)) (st ++ more) ∧ Ats (st ++ more) st.length ls ((tabs os gABC).filter fun t => n == m && ws.map (fill t) == vs.map (fill t)) := by
  have hsz : gABC.length ^ os.length ≤ 1000 := by
    have : gABC.length ^ os.length ≤ 3 ^ 4 := Nat.pow_le_pow_right (by decide) hos
    omega
  obtain ⟨more, ls, t1, hA⟩ := r_tables (scr := scr) (d := d) (by omega) (ws := os) (gs := gABC) (by simp [gABC]) (by omega) hsz st
  generalize hs2 : st ++ more = s2 at *
  have e0 : ([.str ['a'], .str ['b'], .str ['c']] : List Val) = avs gABC := rfl
  obtain ⟨ls', h1, h2⟩ := comp_ats (st := s2) (g := fun st => Gd.ok ρ st .no) (p := fun t => n == m && ws.map (fill t) == vs.map (fill t)) (f := bodyM (.nm 4) [4] ρ (evalOc ⟨runF scr Tb d, scr⟩ (.some (.cmp .eq (.call "filled" (.lend (.var 10) (.lend (.var 4) .nil)) []) (.call "filled" (.lend (.var 5) (.lend (.var 4) .nil)) [])))) (fun ρ2 => mkV (evalE ⟨runF scr Tb d, scr⟩ (.var 4) ρ2)) (.pure none)) rfl hA (by
    intro l t _ ht
    have e1 := r_filled (scr := scr) (d := d) (by omega) (n := n) (ws := ws) (by unfold LIM; omega) (sv := .v (.loc l)) (t := t) (st := s2) ht
    have e1b := r_filled (scr := scr) (d := d) (by omega) (n := m) (ws := vs) (by unfold LIM; omega) (sv := .v (.loc l)) (t := t) (st := s2) ht
    have e2 := cop_eqV s2 (atomV_pure n (ws.map (fill t))) (atomV_pure m (vs.map (fill t)))
    rw [eqv_atomV] at e2
    have hln : 4 < (wipeS ρ [4]).length := by simp [wipeS, hρ]
    have k6 := own_at (ρ := ρ) (i := 4) (v := .loc l) (by omega)
    have k10 := own_ne (ρ := ρ) (i := 4) (j := 10) (v := .loc l) (by decide)
    have k11 := own_ne (ρ := ρ) (i := 4) (j := 5) (v := .loc l) (by decide)
    rw [h10] at k10
    rw [h5] at k11
    simp only [x_body, assignT, if_pos hln, ofO_some, bnd_ok, x_ocSome, x_cmp, x_call, x_asLend, x_asNil, x_var, k6, k10, k11, slE_v, argOf_v, List.map_nil, List.append_nil, e1, e1b, e2, isB_b, x_mkV, intern_v]
    split <;> rfl)
  refine ⟨more, ls', ?_, by rw [hs2]; exact h2⟩
  rw [x_lc]
  simp only [x_seq, x_call, x_asLend, x_asNil, x_var, x_lst, x_esCons, x_esNil, x_con, intern_v, h7, slE_t, slE_v, argOf_b, argOf_t, bnd_ok, List.map_nil, List.append_nil, e0, t1, src_t]
  rw [h1, bnd_ok, hs2]
  exact finL_ok (by rw [ats_len h2]; exact filt_lim hsz _) _
theorem E16 (hd : 4 ≤ d) {n m : W} {ws us : List W} (hl : ws.length ≤ 4) (hu : ∀ w ∈ us, w.length ≤ LIM) (hul : us.length ≤ LIM) {ρ : Sl} (hρ : ρ.length = 18) (h10 : ρ[10]? = some (some (.v (atomV n ws)))) (h15 : ρ[15]? = some (some (.v (atomV n us)))) {st : Store} {k : Nat} {ls : List Val} {ts : List T} (h8 : ρ[8]? = some (some (.t (.lst ls) false))) (hA : Ats st k ls ts) (hts : ts.length ≤ LIM) :
    ∃ ls', evalE ⟨runF scr Tb d, scr⟩ (.lc [4] (.nm 4) (.seq (.var 8)) (.some (.not (.call "is_wider" (.lend (.var 15) (.lend (.call "filled" (.lend (.var 10) (.lend (.var 4) .nil)) []) .nil)) []))) (.var 4)) ρ st = .ok (.t (.lst ls')) st ∧ Ats st k ls' (ts.filter fun t => !(fit n us n (ws.map (fill t)) []).isSome) := by
  obtain ⟨ls', h1, h2⟩ := comp_ats (st := st) (g := fun st => Gd.ok ρ st (.slot 8 (.lst ls))) (p := fun t => !(fit n us n (ws.map (fill t)) []).isSome) (f := bodyM (.nm 4) [4] ρ (evalOc ⟨runF scr Tb d, scr⟩ (.some (.not (.call "is_wider" (.lend (.var 15) (.lend (.call "filled" (.lend (.var 10) (.lend (.var 4) .nil)) []) .nil)) [])))) (fun ρ2 => mkV (evalE ⟨runF scr Tb d, scr⟩ (.var 4) ρ2)) (.pure none)) rfl hA (by
    intro l t _ ht
    have e1 := r_filled (scr := scr) (d := d) (by omega) (n := n) (ws := ws) (by unfold LIM; omega) (sv := .v (.loc l)) (t := t) (st := st) ht
    have e2 := r_is_wider (scr := scr) (d := d) (by omega) (n := n) (m := n) (ws := us) (vs := ws.map (fill t)) hu hul st
    have hln : 4 < (wipeS ρ [4]).length := by simp [wipeS, hρ]
    have k6 := own_at (ρ := ρ) (i := 4) (v := .loc l) (by omega)
    have k10 := own_ne (ρ := ρ) (i := 4) (j := 10) (v := .loc l) (by decide)
    have k11 := own_ne (ρ := ρ) (i := 4) (j := 15) (v := .loc l) (by decide)
    rw [h10] at k10
    rw [h15] at k11
    simp only [x_body, assignT, if_pos hln, ofO_some, bnd_ok, x_ocSome, x_not, x_call, x_asLend, x_asNil, x_var, k6, k10, k11, slE_v, argOf_v, List.map_nil, List.append_nil, e1, e2, isB_b, x_mkV, intern_v]
    split <;> rfl)
  refine ⟨ls', ?_, h2⟩
  rw [x_lc]
  simp only [x_seq, x_var, h8, slE_t, bnd_ok, src_b]
  rw [h1, bnd_ok]
  exact finL_ok (by rw [ats_len h2]; exact Nat.le_trans (List.length_filter_le _ _) hts) _
theorem E7 (hd : True) {s : T} (hs : s.length ≤ LIM) {ρ : Sl} (hρ : ρ.length = 18) (h14 : ρ[14]? = some (some (.t (.dict (tv s)) false))) {st : Store} {k : Nat} {ls : List Val} {ts : List T} (h3 : ρ[3]? = some (some (.t (.lst ls) false))) (hA : Ats st k ls ts) (hts : ts.length ≤ LIM) :
    ∃ ls', evalE ⟨runF scr Tb d, scr⟩ (.lc [6] (.nm 6) (.seq (.var 3)) (.some (.cmp .eq (.lc [16] (.nm 16) (.seq (.var 14)) (.some (.cmp .ne (.mth .get (.var 6) (.cons (.var 16) (.cons (.ix (.var 14) (.var 16)) .nil))) (.ix (.var 14) (.var 16)))) (.var 16)) (.lst .nil))) (.var 6)) ρ st = .ok (.t (.lst ls')) st ∧ Ats st k ls' (ts.filter fun t => keepP s t) := by
  obtain ⟨ls', h1, h2⟩ := comp_ats (st := st) (g := fun st => Gd.ok ρ st (.slot 3 (.lst ls))) (p := fun t => keepP s t) (f := bodyM (.nm 6) [6] ρ (evalOc ⟨runF scr Tb d, scr⟩ (.some (.cmp .eq (.lc [16] (.nm 16) (.seq (.var 14)) (.some (.cmp .ne (.mth .get (.var 6) (.cons (.var 16) (.cons (.ix (.var 14) (.var 16)) .nil))) (.ix (.var 14) (.var 16)))) (.var 16)) (.lst .nil)))) (fun ρ2 => mkV (evalE ⟨runF scr Tb d, scr⟩ (.var 6) ρ2)) (.pure none)) rfl hA (by
    intro l t _ ht
    have hln : 6 < (wipeS ρ [6]).length := by simp [wipeS, hρ]
    have k6 := own_at (ρ := ρ) (i := 6) (v := .loc l) (by omega)
    have k14 := own_ne (ρ := ρ) (i := 6) (j := 14) (v := .loc l) (by decide)
    rw [h14] at k14
    have hρ2 : ((wipeS ρ [6]).set 6 (some (.v (.loc l)))).length = 18 := by simp [wipeS, hρ]
    simp only [x_body, assignT, if_pos hln, ofO_some, bnd_ok]
    generalize (wipeS ρ [6]).set 6 (some (.v (.loc l))) = ρ2 at *
    have inner : evalE ⟨runF scr Tb d, scr⟩ (.lc [16] (.nm 16) (.seq (.var 14)) (.some (.cmp .ne (.mth .get (.var 6) (.cons (.var 16) (.cons (.ix (.var 14) (.var 16)) .nil))) (.ix (.var 14) (.var 16)))) (.var 16)) ρ2 st = .ok (.t (.lst (avs ((s.map (·.1)).filter fun w => !((tget t w).getD ((tget s w).getD []) == (tget s w).getD []))))) st := by
      rw [x_lc]
      simp only [x_seq, x_var, k14, slE_t, bnd_ok, src_bd]
      have ek : (tv s).map (·.1) = avs (s.map (·.1)) := by simp [tv, avs]
      rw [ek, compL_map (φ := fun v => match v with | .str w => if !((tget t w).getD ((tget s w).getD []) == (tget s w).getD []) then some (.str w) else none | _ => none) (by rfl)]
      · rw [fm_avs (p := fun w => !((tget t w).getD ((tget s w).getD []) == (tget s w).getD [])) (s.map (·.1)) (fun w => rfl), bnd_ok]
        exact finL_ok (by have := List.length_filter_le (fun w => !((tget t w).getD ((tget s w).getD []) == (tget s w).getD [])) (s.map (·.1)); simp only [avs_len, List.length_map] at *; omega) _
      · intro y hy
        obtain ⟨w, hw, rfl⟩ := List.mem_map.mp hy
        obtain ⟨v, hv⟩ := key_get hw
        have hln2 : 16 < (wipeS ρ2 [16]).length := by simp [wipeS, hρ2]
        have j16 := own_at (ρ := ρ2) (i := 16) (v := .str w) (by omega)
        have j6 := own_ne (ρ := ρ2) (i := 16) (j := 6) (v := .str w) (by decide)
        have j14 := own_ne (ρ := ρ2) (i := 16) (j := 14) (v := .str w) (by decide)
        rw [k6] at j6
        rw [k14] at j14
        have hc : D.cellOf st (.v (.loc l)) = some (.dict (tv t)) := ht
        have hc2 : D.cellOf st (.b 14 (.dict (tv s))) = some (.dict (tv s)) := rfl
        have g1 := get_tab hc w v
        have g2 := ix_tab hc2 hv
        simp only [x_body, assignT, if_pos hln2, ofO_some, bnd_ok, x_ocSome, x_cmp, x_mth, x_xsCons, x_xsNil, x_ix, x_var, j16, j6, j14, slE_v, slE_t, pre_tab hc, g2, g1, cop_neS, isB_b, x_mkV, intern_v, hv, Option.getD_some]
        split <;> rfl
    simp only [x_ocSome, x_cmp, bnd_ok, inner, x_lst, x_esNil, (cop_nilT).2, isB_b, x_mkV, x_var, k6, slE_v, intern_v]
    have e : (avs ((s.map (·.1)).filter fun w => !((tget t w).getD ((tget s w).getD []) == (tget s w).getD []))).isEmpty = keepP s t := by
      unfold keepP avs
      rw [List.isEmpty_map]
      generalize s.map (·.1) = l
      induction l with
      | nil => rfl
      | cons x r ih =>
        rw [List.filter_cons, List.all_cons]
        cases h : (tget t x).getD ((tget s x).getD []) == (tget s x).getD [] <;> simp [ih]
    rw [e]
    split <;> rfl)
  refine ⟨ls', ?_, h2⟩
  rw [x_lc]
  simp only [x_seq, x_var, h3, slE_t, bnd_ok, src_b]
  rw [h1, bnd_ok]
  exact finL_ok (by rw [ats_len h2]; exact Nat.le_trans (List.length_filter_le _ _) hts) _
end
end K01


set_option Elab.async false
set_option linter.all false
set_option maxRecDepth 100000
set_option maxHeartbeats 4000000
/-! M20: k01: a round of the law, first part. -/
namespace K01
open D
def s1 : S := (.asg (.tup [(.nm 10), (.nm 11), (.nm 12)]) (.tup (.cons (.call "_law_atom" (.lend (.var 1) (.lend (.lst (.cons (.con (.str ['X'])) (.cons (.con (.str ['Y'])) (.cons (.con (.str ['a'])) (.cons (.con (.str ['b'])) .nil))))) .nil)) []) (.cons (.call "_law_atom" (.lend (.var 1) (.lend (.lst (.cons (.con (.str ['a'])) (.cons (.con (.str ['b'])) .nil))) .nil)) []) (.cons (.call "_law_atom" (.lend (.var 1) (.lend (.lst (.cons (.con (.str ['X'])) (.cons (.con (.str ['Y'])) (.cons (.con (.str ['a'])) (.cons (.con (.str ['b'])) .nil))))) .nil)) []) .nil)))))
def s2 : S := (.asgT2 13 14 (.bi .list (.cons (.call "open_words" (.lend (.var 10) .nil) []) .nil)) (.dct .nil))
def s3 : S := (.asg (.nm 2) (.lc [16] (.nm 16) (.seq (.ix (.var 10) (.con (.int 1)))) (.some (.cmp .mem (.var 16) (.lst (.cons (.con (.str ['X'])) (.cons (.con (.str ['Y'])) .nil))))) (.var 16)))
def s4 : S := (.ite (.cmp .ne (.var 13) (.lc [17] (.nm 17) (.rng (.bi .len (.cons (.var 2) .nil))) (.some (.cmp .nmem (.ix (.var 2) (.var 17)) (.sl (.var 2) .none (.some (.var 17))))) (.ix (.var 2) (.var 17)))) (.cons (.ret (.con (.bool false))) .nil) .nil)
def s5 : S := (.ite (.cmp .eq (.call "_law_roll" (.lend (.var 1) (.lend (.con (.int 2)) .nil)) []) (.con (.int 0))) (.cons (.asg (.nm 14) (.dct (.cons (.con (.str ['X'])) (.cons (.ix (.con (.str ['a', 'b'])) (.call "_law_roll" (.lend (.var 1) (.lend (.con (.int 2)) .nil)) [])) .nil)))) .nil) .nil)
def s6 : S := (.asg (.nm 3) (.lc [6] (.nm 6) (.seq (.call "_law_tables" (.lend (.var 13) (.lend (.lst (.cons (.con (.str ['a'])) (.cons (.con (.str ['b'])) .nil))) .nil)) [])) (.some (.cmp .eq (.call "filled" (.lend (.var 10) (.lend (.var 6) .nil)) []) (.var 11))) (.var 6)))
def s7 : S := (.asg (.nm 3) (.lc [6] (.nm 6) (.seq (.var 3)) (.some (.cmp .eq (.lc [16] (.nm 16) (.seq (.var 14)) (.some (.cmp .ne (.mth .get (.var 6) (.cons (.var 16) (.cons (.ix (.var 14) (.var 16)) .nil))) (.ix (.var 14) (.var 16)))) (.var 16)) (.lst .nil))) (.var 6)))
def s8 : S := (.asg (.nm 4) (.call "matched" (.lend (.var 10) (.lend (.var 11) (.lend (.var 14) .nil))) []))
def s9 : S := (.ite (.cmp .ne (.cmp .isN (.var 4) (.con .non)) (.cmp .eq (.var 3) (.lst .nil))) (.cons (.ret (.con (.bool false))) .nil) .nil)
def s10 : S := (.ite (.cmp .notN (.var 4) (.con .non)) (.cons (.asg (.nm 15) (.bi .dict (.cons (.var 14) .nil))) (.cons (.upd 15 (.ix (.var 3) (.con (.int 0)))) (.cons (.ite (.or (.cmp .ne (.var 4) (.var 15)) (.cmp .ne (.bi .len (.cons (.var 3) .nil)) (.con (.int 1)))) (.cons (.ret (.con (.bool false))) .nil) .nil) .nil))) .nil)
def s11 : S := (.asg (.nm 5) (.call "renamed" (.lend (.var 12) (.lend (.con (.str ['q'])) .nil)) []))
def s12 : S := (.asg (.nm 6) (.call "made_one" (.lend (.var 10) (.lend (.var 5) .nil)) []))
def s13 : S := (.asg (.nm 7) (.bin .add (.bi .list (.cons (.call "open_words" (.lend (.var 10) .nil) []) .nil)) (.bi .list (.cons (.call "open_words" (.lend (.var 5) .nil) []) .nil))))
def s14 : S := (.asg (.nm 8) (.lc [4] (.nm 4) (.seq (.call "_law_tables" (.lend (.var 7) (.lend (.lst (.cons (.con (.str ['a'])) (.cons (.con (.str ['b'])) (.cons (.con (.str ['c'])) .nil)))) .nil)) [])) (.some (.cmp .eq (.call "filled" (.lend (.var 10) (.lend (.var 4) .nil)) []) (.call "filled" (.lend (.var 5) (.lend (.var 4) .nil)) []))) (.var 4)))
def s15 : S := (.ite (.cmp .ne (.cmp .isN (.var 6) (.con .non)) (.cmp .eq (.var 8) (.lst .nil))) (.cons (.ret (.con (.bool false))) .nil) .nil)
def s16 : S := (.ite (.cmp .notN (.var 6) (.con .non)) (.cons (.asg (.nm 15) (.call "filled" (.lend (.var 10) (.lend (.var 6) .nil)) [])) (.cons (.ite (.cmp .ne (.call "filled" (.lend (.var 5) (.lend (.var 6) .nil)) []) (.var 15)) (.cons (.ret (.con (.bool false))) .nil) .nil) (.cons (.ite (.cmp .ne (.lc [4] (.nm 4) (.seq (.var 8)) (.some (.not (.call "is_wider" (.lend (.var 15) (.lend (.call "filled" (.lend (.var 10) (.lend (.var 4) .nil)) []) .nil)) []))) (.var 4)) (.lst .nil)) (.cons (.ret (.con (.bool false))) .nil) .nil) .nil))) .nil)
def s17 : S := (.ite (.not (.call "_law_rest" (.lend (.var 10) (.lend (.var 12) (.lend (.var 11) (.lend (.var 13) .nil)))) [])) (.cons (.ret (.con (.bool false))) .nil) .nil)
def s18 : S := (.for_ (.nm 9) (.seq (.lst (.cons (.tup (.cons (.con (.str ['P'])) (.cons (.tup .nil) .nil))) (.cons (.tup (.cons (.con (.str ['p'])) (.cons (.tup (.cons (.con (.str [])) .nil)) .nil))) (.cons (.tup (.cons (.con (.str ['p'])) (.cons (.tup (.cons (.con (.str ['a', ' ', 'b'])) .nil)) .nil))) (.cons (.tup (.cons (.con (.str ['p'])) (.cons (.con (.str ['a', 'b'])) .nil))) (.cons (.con .non) (.cons (.tup (.cons (.con (.str ['1', 'p'])) (.cons (.tup .nil) .nil))) (.cons (.tup (.cons (.con (.str ['p'])) (.cons (.tup (.cons (.con (.str ['X'])) .nil)) .nil))) .nil))))))))) (.cons (.ite (.or (.call "is_fact" (.lend (.var 9) .nil) []) (.not (.call "_law_refused" (.lend (.tup (.cons (.var 9) .nil)) .nil) []))) (.cons (.ret (.con (.bool false))) .nil) .nil) .nil))
def q19 : Ss := .nil
def q18 : Ss := .cons s18 q19
def q17 : Ss := .cons s17 q18
def q16 : Ss := .cons s16 q17
def q15 : Ss := .cons s15 q16
def q14 : Ss := .cons s14 q15
def q13 : Ss := .cons s13 q14
def q12 : Ss := .cons s12 q13
def q11 : Ss := .cons s11 q12
def q10 : Ss := .cons s10 q11
def q9 : Ss := .cons s9 q10
def q8 : Ss := .cons s8 q9
def q7 : Ss := .cons s7 q8
def q6 : Ss := .cons s6 q7
def q5 : Ss := .cons s5 q6
def q4 : Ss := .cons s4 q5
def q3 : Ss := .cons s3 q4
def q2 : Ss := .cons s2 q3
def q1 : Ss := .cons s1 q2
theorem b_law_eq : b_law = .cons (.for_ (.nm 1) (.seq (.call "_law_rounds" (.lend (.var 0) (.lend (.con (.int 4)) .nil)) [])) q1) (.cons (.ret (.and (.call "is_name" (.lend (.con (.str ['a', 'b', '1'])) .nil) []) (.and (.not (.call "is_name" (.lend (.con (.str ['1'])) .nil) [])) (.and (.cmp .isN (.ix (.call "read_at" (.lend (.con (.str ['p', '(', 'a'])) (.lend (.con (.int 0)) .nil)) []) (.con (.int 0))) (.con .non)) (.cmp .isN (.ix (.call "read_at" (.lend (.con (.str ['p', '(', ')'])) (.lend (.con (.int 0)) .nil)) []) (.con (.int 0))) (.con .non)))))) .nil) := rfl
theorem step {Γ : Calls} {s : S} {q : Ss} {ρ ρ' : Sl} {st st' : Store} (h : evalS Γ s ρ st = .nx ρ' st') : evalSs Γ (.cons s q) ρ st = evalSs Γ q ρ' st' := by
  rw [x_ssCons, h, sq_nx]
theorem set_at {ρ : Sl} {i : Nat} {v : Option SV} (h : i < ρ.length) : (ρ.set i v)[i]? = some v := List.getElem?_set_self h
theorem set_off {ρ : Sl} {i j : Nat} {v : Option SV} (h : i ≠ j) : (ρ.set i v)[j]? = ρ[j]? := List.getElem?_set_ne h
def Okn (n : W) : Prop := n = ['p'] ∨ n = ['q']
def Okw (g ws : List W) : Prop := ws.length ≤ 4 ∧ ∀ w ∈ ws, w ∈ g
theorem okw_len {ws : List W} {g : List W} (hg : ∀ w ∈ g, w.length ≤ 20) (h : Okw g ws) : ∀ w ∈ ws, w.length ≤ 20 := fun w hw => hg w (h.2 w hw)
section
variable {scr : L2.V → Option (List Int)} {d : Nat}
theorem L1 (hd : 2 ≤ d) {ρ : Sl} {l : Nat} {st : Store} (hρ : ρ.length = 18) (h1 : ρ[1]? = some (some (.v (.loc l)))) (h : Di st l) : ∃ n ws f us m vs st', evalS ⟨runF scr Tb d, scr⟩ s1 ρ st = .nx (((ρ.set 10 (some (.v (atomV n ws)))).set 11 (some (.v (atomV f us)))).set 12 (some (.v (atomV m vs)))) st' ∧ Ds l st st' ∧ Okn n ∧ Okn f ∧ Okn m ∧ Okw gW4 ws ∧ Okw gAB us ∧ Okw gW4 vs := by
  obtain ⟨n, ws, st1, e1, d1, n1, w1, w1'⟩ := r_atom (scr := scr) hd (Wd := gW4) (by simp [gW4]) (by simp [gW4]) h
  obtain ⟨f, us, st2, e2, d2, n2, w2, w2'⟩ := r_atom (scr := scr) hd (Wd := gAB) (by simp [gAB]) (by simp [gAB]) d1.1
  obtain ⟨m, vs, st3, e3, d3, n3, w3, w3'⟩ := r_atom (scr := scr) hd (Wd := gW4) (by simp [gW4]) (by simp [gW4]) d2.1
  refine ⟨n, ws, f, us, m, vs, st3, ?_, ds_trans (ds_trans d1 d2) d3, n1, n2, n3, ⟨w1, w1'⟩, ⟨w2, w2'⟩, ⟨w3, w3'⟩⟩
  have a1 : (Val.str ['X'] :: Val.str ['Y'] :: avs gAB : List Val) = avs gW4 := rfl
  have a2 : ([.str ['a'], .str ['b']] : List Val) = avs gAB := rfl
  simp [s1, h1, a1, a2, e1, e2, e3]
  simp [asgK, assign1, assignT, assignTs, hρ]
theorem L2' (hd : 2 ≤ d) {ρ : Sl} {n : W} {ws : List W} (hw : ∀ w ∈ ws, w.length ≤ 20) (hl : ws.length ≤ 4) (hρ : ρ.length = 18) (h10 : ρ[10]? = some (some (.v (atomV n ws)))) (st : Store) : evalS ⟨runF scr Tb d, scr⟩ s2 ρ st = .nx ((ρ.set 13 (some (.t (.lst (avs (opens ws))) false))).set 14 (some (.t (.dict (tv [])) false))) st := by
  have e1 := fun st => r_open_words (scr := scr) (d := d) hd (n := n) (ws := ws) (fun w h => by have := hw w h; unfold LIM; omega) (by unfold LIM; omega) st
  have ef : ∀ st, finD [] st = .ok (.t (.dict [])) st := fun st => rfl
  simp [s2, h10, e1, ef]
  simp [asg2K, assigns1, assign1, hρ, tv]
theorem L3 {ρ : Sl} {n : W} {ws : List W} (hl : ws.length ≤ 4) (hρ : ρ.length = 18) (h10 : ρ[10]? = some (some (.v (atomV n ws)))) (st : Store) : evalS ⟨runF scr Tb d, scr⟩ s3 ρ st = .nx (ρ.set 2 (some (.t (.lst (avs (ws.filter fun w => gXY.contains w))) false))) st := by
  unfold s3
  rw [x_asg, E3 trivial hl hρ h10 st, toR_ok, asgK_t _ _ _ _ (by omega)]
theorem L4 {ρ : Sl} {gv os : List W} (hl : gv.length ≤ 4) (hρ : ρ.length = 18) (h2 : ρ[2]? = some (some (.t (.lst (avs gv)) false))) (h13 : ρ[13]? = some (some (.t (.lst (avs os)) false))) (h : os = firsts gv) (st : Store) : evalS ⟨runF scr Tb d, scr⟩ s4 ρ st = .nx ρ st := by
  have e := E4 (scr := scr) (d := d) trivial hl hρ h2 st
  have e2 : cop .ne (.b 13 (.lst (avs os))) (.t (.lst (avs os))) st = .ok false st := by
    have : ceq (.lst (avs os)) (.lst (avs os)) = some true := by
      simp only [ceq, if_true]
      unfold Val.peqs
      have hp : (avs os).all (·.pure) = true := avs_pure 60 os
      rw [hp, eqvs_avs]
      simp
    simp only [cop, eqEV, c_b, c_t, this]
    rfl
  unfold s4
  rw [x_iteS2, x_cmp, x_var, h13, slE_t, bnd_ok, e, bnd_ok, ← h, e2]
  simp
theorem L5 (hd : 1 ≤ d) {ρ : Sl} {l : Nat} {st : Store} (hρ : ρ.length = 18) (h1 : ρ[1]? = some (some (.v (.loc l)))) (h14 : ρ[14]? = some (some (.t (.dict (tv [])) false))) (h : Di st l) : ∃ s ρ' st', evalS ⟨runF scr Tb d, scr⟩ s5 ρ st = .nx ρ' st' ∧ Ds l st st' ∧ (s = [] ∨ ∃ g ∈ gAB, s = [(['X'], g)]) ∧ ρ'.length = 18 ∧ ρ'[14]? = some (some (.t (.dict (tv s)) false)) ∧ ∀ j, 14 ≠ j → ρ'[j]? = ρ[j]? := by
  obtain ⟨k, st1, e1, k0, k1, hs1⟩ := r_roll (scr := scr) hd (m := 2) (by decide) h
  by_cases hk : k = 0
  · obtain ⟨j, st2, e2, j0, j1, hs2⟩ := r_roll (scr := scr) hd (m := 2) (by decide) hs1.1
    have hj : ∃ g ∈ gAB, ∀ st, ixOp (.v (.str ['a', 'b'])) (.v (.int j)) st = .ok (.v (.str g)) st := by
      by_cases h0 : j = 0
      · subst h0; exact ⟨['a'], by simp [gAB], fun st => ix_strO st (by decide) rfl⟩
      · have : j = 1 := by omega
        subst this; exact ⟨['b'], by simp [gAB], fun st => ix_strO st (by decide) rfl⟩
    obtain ⟨g, hg, hix⟩ := hj
    have ef : ∀ st, finD [(.str ['X'], .str g)] st = .ok (.t (.dict (tv [(['X'], g)]))) st := fun st => by
      have h1 : hom (tv [(['X'], g)]) = true := hom_tv _
      have h2 : mergeD (tv []) (tv [(['X'], g)]) = tv (tall [(['X'], g)] []) := mergeD_tv _ _
      unfold finD
      rw [show ([(.str ['X'], .str g)] : List (Val × Val)) = tv [(['X'], g)] from rfl, h1, show ([] : List (Val × Val)) = tv [] from rfl, h2]
      rfl
    refine ⟨[(['X'], g)], ρ.set 14 (some (.t (.dict (tv [(['X'], g)])) false)), st2, ?_, ds_trans hs1 hs2, .inr ⟨g, hg, rfl⟩, by simp [hρ], set_at (by omega), fun j hj => set_off hj⟩
    simp [s5, h1, e1, hk, e2, hix, ef]
    rw [asgK_t _ _ _ _ (by omega)]
    simp
  · refine ⟨[], ρ, st1, ?_, hs1, .inl rfl, hρ, h14, fun j _ => rfl⟩
    simp [s5, h1, e1, hk]
end
end K01


set_option Elab.async false
set_option linter.all false
set_option maxRecDepth 100000
set_option maxHeartbeats 4000000
/-! M21: k01: a round of the law, second part. -/
namespace K01
open D
def svO : Option T → SV
  | none => .v .non
  | some t => .t (.dict (tv t)) false
theorem asgO {i : Nat} {ρ : Sl} (h : i < ρ.length) (o : Option T) (st : Store) : asgK (.nm i) ρ (tabO o) st = .nx (ρ.set i (some (svO o))) st := by
  cases o with
  | none => exact asgK_nm i ρ .non st h
  | some t => exact asgK_t i ρ _ st h
def evO (i : Nat) : Option T → EV
  | none => .v .non
  | some t => .b i (.dict (tv t))
theorem slE_O (st : Store) (i : Nat) (o : Option T) : slE st i (some (some (svO o))) = .ok (evO i o) st := by cases o <;> rfl
theorem isN_O (st : Store) (i : Nat) (o : Option T) : cop .isN (evO i o) (.v .non) st = .ok o.isNone st ∧ cop .notN (evO i o) (.v .non) st = .ok o.isSome st := by
  cases o <;> exact ⟨by simp [cop, evO], by simp [cop, evO]⟩
def goodL (n : W) (ws : List W) (f : W) (us : List W) : List T := (tabs (opens ws) gAB).filter fun t => n == f && ws.map (fill t) == us
def goodK (n : W) (ws : List W) (f : W) (us : List W) (s : T) : List T := (goodL n ws f us).filter fun t => keepP s t
section
variable {scr : L2.V → Option (List Int)} {d : Nat}
theorem L6 (hd : 3 ≤ d) {n f : W} {ws us : List W} (hl : ws.length ≤ 4) (hos : (opens ws).length ≤ 4) {ρ : Sl} (hρ : ρ.length = 18) (h10 : ρ[10]? = some (some (.v (atomV n ws)))) (h11 : ρ[11]? = some (some (.v (atomV f us)))) (h13 : ρ[13]? = some (some (.t (.lst (avs (opens ws))) false))) (st : Store) :
    ∃ more ls, evalS ⟨runF scr Tb d, scr⟩ s6 ρ st = .nx (ρ.set 3 (some (.t (.lst ls) false))) (st ++ more) ∧ Ats (st ++ more) st.length ls (goodL n ws f us) := by
  obtain ⟨more, ls, h1, h2⟩ := E6 (scr := scr) hd hl hos hρ h10 h11 h13 st
  refine ⟨more, ls, ?_, h2⟩
  unfold s6
  rw [x_asg, h1, toR_ok, asgK_t _ _ _ _ (by omega)]
theorem L7 {s : T} (hs : s.length ≤ LIM) {ρ : Sl} (hρ : ρ.length = 18) (h14 : ρ[14]? = some (some (.t (.dict (tv s)) false))) {st : Store} {k : Nat} {ls : List Val} {ts : List T} (h3 : ρ[3]? = some (some (.t (.lst ls) false))) (hA : Ats st k ls ts) (hts : ts.length ≤ LIM) :
    ∃ ls', evalS ⟨runF scr Tb d, scr⟩ s7 ρ st = .nx (ρ.set 3 (some (.t (.lst ls') false))) st ∧ Ats st k ls' (ts.filter fun t => keepP s t) := by
  obtain ⟨ls, h1, h2⟩ := E7 (scr := scr) (d := d) trivial hs hρ h14 h3 hA hts
  refine ⟨ls, ?_, h2⟩
  unfold s7
  rw [x_asg, h1, toR_ok, asgK_t _ _ _ _ (by omega)]
theorem L8 (hd : 2 ≤ d) {n f : W} {ws us : List W} {s : T} (hw : ∀ w ∈ ws, w.length ≤ 20) (hl : ws.length ≤ 4) (hs : s.length ≤ 4) {ρ : Sl} (hρ : ρ.length = 18) (h10 : ρ[10]? = some (some (.v (atomV n ws)))) (h11 : ρ[11]? = some (some (.v (atomV f us)))) (h14 : ρ[14]? = some (some (.t (.dict (tv s)) false))) (st : Store) : evalS ⟨runF scr Tb d, scr⟩ s8 ρ st = .nx (ρ.set 4 (some (svO (fit n ws f us s)))) st := by
  have e1 := r_matched (scr := scr) hd (n := n) (m := f) (ws := ws) (vs := us) (t := s) (fun w h => by have := hw w h; unfold LIM; omega) (by unfold LIM; omega) st
  unfold s8
  rw [x_asg]
  simp only [x_call, x_asLend, x_asNil, x_var, h10, h11, h14, slE_v, slE_t, bnd_ok, argOf_v, argOf_b, List.map_nil, List.append_nil, e1, toR_ok]
  exact asgO (by omega) _ st
theorem L9 {o : Option T} {ls : List Val} {ρ : Sl} (h4 : ρ[4]? = some (some (svO o))) (h3 : ρ[3]? = some (some (.t (.lst ls) false))) (h : o.isNone = ls.isEmpty) (st : Store) : evalS ⟨runF scr Tb d, scr⟩ s9 ρ st = .nx ρ st := by
  unfold s9
  rw [x_iteS2]
  simp only [x_cmp, x_var, h4, h3, slE_O, slE_t, bnd_ok, x_con, (isN_O _ _ _).1, x_lst, x_esNil, (cop_nil (b := true)).2, cop_neB, h, isB_b, toR_ok]
  simp
theorem L15 {o : Option T} {ls : List Val} {ρ : Sl} (h4 : ρ[6]? = some (some (svO o))) (h3 : ρ[8]? = some (some (.t (.lst ls) false))) (h : o.isNone = ls.isEmpty) (st : Store) : evalS ⟨runF scr Tb d, scr⟩ s15 ρ st = .nx ρ st := by
  unfold s15
  rw [x_iteS2]
  simp only [x_cmp, x_var, h4, h3, slE_O, slE_t, bnd_ok, x_con, (isN_O _ _ _).1, x_lst, x_esNil, (cop_nil (b := true)).2, cop_neB, h, isB_b, toR_ok]
  simp
theorem L10 {o : Option T} {s : T} {ls : List Val} {ts : List T} {k : Nat} {ρ : Sl} {st : Store} (hs : s.length ≤ 4) (hρ : ρ.length = 18) (h4 : ρ[4]? = some (some (svO o))) (h3 : ρ[3]? = some (some (.t (.lst ls) false))) (h14 : ρ[14]? = some (some (.t (.dict (tv s)) false))) (hA : Ats st k ls ts)
    (h : ∀ t, o = some t → ∃ g, ts = [g] ∧ g.length ≤ 4 ∧ ceq (.dict (tv t)) (.dict (tv (tall g s))) = some true) : ∃ ρ', evalS ⟨runF scr Tb d, scr⟩ s10 ρ st = .nx ρ' st ∧ ρ'.length = 18 ∧ ∀ j, 15 ≠ j → ρ'[j]? = ρ[j]? := by
  cases o with
  | none =>
    refine ⟨ρ, ?_, hρ, fun j _ => rfl⟩
    unfold s10
    rw [x_iteS2]
    simp only [x_cmp, x_var, h4, slE_O, bnd_ok, x_con, (isN_O _ _ _).2, isB_b, toR_ok]
    simp
  | some t =>
    obtain ⟨g, hg, hgl, hc⟩ := h t rfl
    subst hg
    obtain ⟨l, rfl, hl⟩ : ∃ l, ls = [.loc l] ∧ st[l]? = some (.dict (tv g)) := by
      cases ls with
      | nil => exact False.elim hA
      | cons x r =>
        obtain ⟨l, rfl⟩ : ∃ l, x = .loc l := by cases x <;> first | exact ⟨_, rfl⟩ | exact False.elim hA
        cases r with
        | nil => exact ⟨l, rfl, hA.2.1⟩
        | cons y r => exact False.elim (by cases y <;> exact hA.2.2)
    have ha : evalS ⟨runF scr Tb d, scr⟩ (.asg (.nm 15) (.bi .dict (.cons (.var 14) .nil))) ρ st = .nx (ρ.set 15 (some (.t (.dict (tv s)) false))) st := by
      have e1 : biOp .dict [.b 14 (.dict (tv s))] st = .ok (.t (.dict (tv s))) st := by simp [biOp, tv, Val.isTup]
      rw [x_asg]
      simp only [x_bi, x_xsCons, x_xsNil, x_var, h14, slE_t, bnd_ok, e1, toR_ok]
      exact asgK_t _ _ _ _ (by omega)
    have hb : ∀ ρ1 : Sl, ρ1[15]? = some (some (.t (.dict (tv s)) false)) → ρ1[3]? = some (some (.t (.lst [.loc l]) false)) → evalS ⟨runF scr Tb d, scr⟩ (.upd 15 (.ix (.var 3) (.con (.int 0)))) ρ1 st = .nx (ρ1.set 15 (some (.t (.dict (tv (tall g s))) false))) st := by
      intro ρ1 h15 h3
      have e1 : ixOp (.b 3 (.lst [.loc l])) (.v (.int 0)) st = .ok (.v (.loc l)) st := rfl
      have e2 : appOp .update (.dict (tv s)) (.v (.loc l)) st = some (.dict (tv (tall g s))) := by
        have h1 : tv s ++ tv g = tv (s ++ g) := by simp [tv]
        have h2 : (tv s).length + (tv g).length ≤ LIM := by simp; unfold LIM; omega
        simp only [appOp, c_loc, hl, h1, hom_tv, notTup_tv, Bool.true_and, decide_eq_true h2, if_true, mergeD_tv]
      rw [x_upd]
      unfold updS
      rw [h15]
      simp only [x_toS, x_ix, x_var, h3, slE_t, bnd_ok, x_con, e1, toR_ok, updK, e2]
    have hd : ∀ ρ2 : Sl, ρ2[15]? = some (some (.t (.dict (tv (tall g s))) false)) → ρ2[3]? = some (some (.t (.lst [.loc l]) false)) → ρ2[4]? = some (some (svO (some t))) → evalS ⟨runF scr Tb d, scr⟩ (.ite (.or (.cmp .ne (.var 4) (.var 15)) (.cmp .ne (.bi .len (.cons (.var 3) .nil)) (.con (.int 1)))) (.cons (.ret (.con (.bool false))) .nil) .nil) ρ2 st = .nx ρ2 st := by
      intro ρ2 h15 h3 h4
      have e1 : cop .ne (.b 4 (.dict (tv t))) (.b 15 (.dict (tv (tall g s)))) st = .ok false st := by
        simp only [cop, eqEV, c_b, hc]
        rfl
      rw [x_iteS2]
      simp only [x_or, x_cmp, x_var, h15, h3, h4, slE_t, svO, bnd_ok, e1, isB_b, x_bi, x_xsCons, x_xsNil, bi_lenB, x_con]
      simp
    refine ⟨(ρ.set 15 (some (.t (.dict (tv s)) false))).set 15 (some (.t (.dict (tv (tall g s))) false)), ?_, by simp [hρ], fun j hj => by rw [set_off hj, set_off hj]⟩
    have l15 : 15 < ρ.length := by omega
    have i1 := hb (ρ.set 15 (some (.t (.dict (tv s)) false))) (set_at l15) (by rw [set_off (by decide), h3])
    have i2 := hd ((ρ.set 15 (some (.t (.dict (tv s)) false))).set 15 (some (.t (.dict (tv (tall g s))) false))) (set_at (by simp [hρ])) (by rw [set_off (by decide), set_off (by decide), h3]) (by rw [set_off (by decide), set_off (by decide), h4])
    unfold s10
    rw [x_iteS2]
    simp only [x_cmp, x_var, h4, slE_O, bnd_ok, x_con, (isN_O _ _ _).2, isB_b, toR_ok]
    rw [if_pos (show (some t).isSome = true from rfl), step ha, step i1, step i2, x_ssNil]
end
end K01


set_option Elab.async false
set_option linter.all false
set_option maxRecDepth 100000
set_option maxHeartbeats 4000000
/-! M22: k01: a round of the law, third part. -/
namespace K01
open D
theorem add_lst {a b : List Val} {st : Store} (h : a.length + b.length ≤ LIM) : bop .add (.t (.lst a)) (.t (.lst b)) st = .ok (.t (.lst (a ++ b))) st := by
  show (if _ then _ else _) = _
  rw [if_pos h]
def sameL (n : W) (ws : List W) (m : W) (vq : List W) : List T := (tabs (opens ws ++ opens vq) gABC).filter fun t => n == m && ws.map (fill t) == vq.map (fill t)
section
variable {scr : L2.V → Option (List Int)} {d : Nat}
theorem L11 (hd : 2 ≤ d) {m : W} {vs : List W} (hw : ∀ w ∈ vs, w.length ≤ 20) (hl : vs.length ≤ 4) {ρ : Sl} (hρ : ρ.length = 18) (h12 : ρ[12]? = some (some (.v (atomV m vs)))) (st : Store) : evalS ⟨runF scr Tb d, scr⟩ s11 ρ st = .nx (ρ.set 5 (some (.v (atomV m (vs.map (rnm ['q'])))))) st := by
  have e1 := r_renamed (scr := scr) hd (n := m) (m := ['q']) (ws := vs) (by unfold LIM; omega) (fun w h => by have := hw w h; unfold LIM; simp; omega) st
  unfold s11
  rw [x_asg]
  simp only [x_call, x_asLend, x_asNil, x_var, h12, slE_v, bnd_ok, argOf_v, x_con, List.map_nil, List.append_nil, e1, toR_ok]
  exact asgK_nm _ _ _ _ (by omega)
theorem L12 (hd : 2 ≤ d) {n m : W} {ws vq : List W} (hw : ∀ w ∈ ws, w.length ≤ 20) (hv : ∀ w ∈ vq, w.length ≤ 30) (hl : ws.length ≤ 4) {ρ : Sl} (hρ : ρ.length = 18) (h10 : ρ[10]? = some (some (.v (atomV n ws)))) (h5 : ρ[5]? = some (some (.v (atomV m vq)))) (st : Store) : evalS ⟨runF scr Tb d, scr⟩ s12 ρ st = .nx (ρ.set 6 (some (svO (mk n ws m vq)))) st := by
  have e1 := r_made_one (scr := scr) hd (n := n) (m := m) (ws := ws) (vs := vq) (fun w h => by have := hw w h; unfold LIM; omega) (fun w h => by have := hv w h; unfold LIM; omega) (by unfold LIM; omega) st
  unfold s12
  rw [x_asg]
  simp only [x_call, x_asLend, x_asNil, x_var, h10, h5, slE_v, bnd_ok, argOf_v, List.map_nil, List.append_nil, e1, toR_ok]
  exact asgO (by omega) _ st
theorem L13 (hd : 2 ≤ d) {n m : W} {ws vq : List W} (hw : ∀ w ∈ ws, w.length ≤ 20) (hv : ∀ w ∈ vq, w.length ≤ 30) (hl : ws.length ≤ 4) (hl2 : vq.length ≤ 4) {ρ : Sl} (hρ : ρ.length = 18) (h10 : ρ[10]? = some (some (.v (atomV n ws)))) (h5 : ρ[5]? = some (some (.v (atomV m vq)))) (st : Store) : evalS ⟨runF scr Tb d, scr⟩ s13 ρ st = .nx (ρ.set 7 (some (.t (.lst (avs (opens ws ++ opens vq))) false))) st := by
  have e1 := r_open_words (scr := scr) hd (n := n) (ws := ws) (fun w h => by have := hw w h; unfold LIM; omega) (by unfold LIM; omega) st
  have e2 := r_open_words (scr := scr) hd (n := m) (ws := vq) (fun w h => by have := hv w h; unfold LIM; omega) (by unfold LIM; omega) st
  have l1 : (opens ws).length ≤ 4 := Nat.le_trans (opensF_len [] ws) (by simpa using hl)
  have l2 : (opens vq).length ≤ 4 := Nat.le_trans (opensF_len [] vq) (by simpa using hl2)
  have e3 := add_lst (a := avs (opens ws)) (b := avs (opens vq)) (st := st) (by simp; unfold LIM; omega)
  have e4 : avs (opens ws) ++ avs (opens vq) = avs (opens ws ++ opens vq) := by simp [avs]
  rw [e4] at e3
  unfold s13
  rw [x_asg]
  simp only [x_bin, x_bi, x_xsCons, x_xsNil, x_call, x_asLend, x_asNil, x_var, h10, h5, slE_v, bnd_ok, argOf_v, List.map_nil, List.append_nil, e1, e2, bi_lstT, e3, toR_ok]
  exact asgK_t _ _ _ _ (by omega)
theorem L14 (hd : 3 ≤ d) {n m : W} {ws vq : List W} (hl : ws.length ≤ 4) (hl2 : vq.length ≤ 4) (hos : (opens ws ++ opens vq).length ≤ 4) {ρ : Sl} (hρ : ρ.length = 18) (h10 : ρ[10]? = some (some (.v (atomV n ws)))) (h5 : ρ[5]? = some (some (.v (atomV m vq)))) (h7 : ρ[7]? = some (some (.t (.lst (avs (opens ws ++ opens vq))) false))) (st : Store) :
    ∃ more ls, evalS ⟨runF scr Tb d, scr⟩ s14 ρ st = .nx (ρ.set 8 (some (.t (.lst ls) false))) (st ++ more) ∧ Ats (st ++ more) st.length ls (sameL n ws m vq) := by
  obtain ⟨more, ls, h1, h2⟩ := E14 (scr := scr) hd hl hl2 hos hρ h10 h5 h7 st
  refine ⟨more, ls, ?_, h2⟩
  unfold s14
  rw [x_asg, h1, toR_ok, asgK_t _ _ _ _ (by omega)]
theorem L16 (hd : 4 ≤ d) {o : Option T} {n m : W} {ws vq : List W} {ls : List Val} {ts : List T} {k : Nat} {ρ : Sl} {st : Store} (hl : ws.length ≤ 4) (hl2 : vq.length ≤ 4) (hρ : ρ.length = 18) (h10 : ρ[10]? = some (some (.v (atomV n ws)))) (h5 : ρ[5]? = some (some (.v (atomV m vq)))) (h6 : ρ[6]? = some (some (svO o))) (h8 : ρ[8]? = some (some (.t (.lst ls) false))) (hA : Ats st k ls ts) (hts : ts.length ≤ LIM)
    (h : ∀ t, o = some t → n = m ∧ vq.map (fill t) = ws.map (fill t) ∧ (∀ w ∈ ws.map (fill t), w.length ≤ 30) ∧ ∀ τ ∈ ts, (fit n (ws.map (fill t)) n (ws.map (fill τ)) []).isSome = true) : ∃ ρ', evalS ⟨runF scr Tb d, scr⟩ s16 ρ st = .nx ρ' st ∧ ρ'.length = 18 ∧ ∀ j, 15 ≠ j → ρ'[j]? = ρ[j]? := by
  cases o with
  | none =>
    refine ⟨ρ, ?_, hρ, fun j _ => rfl⟩
    unfold s16
    rw [x_iteS2]
    simp only [x_cmp, x_var, h6, slE_O, bnd_ok, x_con, (isN_O _ _ _).2, isB_b, toR_ok]
    simp
  | some t =>
    obtain ⟨hnm, hm, hlen, hτ⟩ := h t rfl
    subst hnm
    have l15 : 15 < ρ.length := by omega
    have ft : ∀ n (ws : List W), ws.length ≤ 4 → runF scr Tb d "filled" [.v (atomV n ws), .t (.dict (tv t)) true] st = .ok (.v (atomV n (ws.map (fill t)))) st := fun n ws hl => r_filled (scr := scr) (d := d) (by omega) (n := n) (ws := ws) (by unfold LIM; omega) (sv := .t (.dict (tv t)) true) (t := t) (st := st) rfl
    have ha : evalS ⟨runF scr Tb d, scr⟩ (.asg (.nm 15) (.call "filled" (.lend (.var 10) (.lend (.var 6) .nil)) [])) ρ st = .nx (ρ.set 15 (some (.v (atomV n (ws.map (fill t)))))) st := by
      rw [x_asg]
      simp only [x_call, x_asLend, x_asNil, x_var, h10, h6, slE_v, slE_t, svO, bnd_ok, argOf_v, argOf_b, List.map_nil, List.append_nil, ft _ _ hl, toR_ok]
      exact asgK_nm _ _ _ _ l15
    have k15 : (ρ.set 15 (some (.v (atomV n (ws.map (fill t))))))[15]? = some (some (.v (atomV n (ws.map (fill t))))) := set_at l15
    have k10 : (ρ.set 15 (some (.v (atomV n (ws.map (fill t))))))[10]? = some (some (.v (atomV n ws))) := by rw [set_off (by decide), h10]
    have k5 : (ρ.set 15 (some (.v (atomV n (ws.map (fill t))))))[5]? = some (some (.v (atomV n vq))) := by rw [set_off (by decide), h5]
    have k6 : (ρ.set 15 (some (.v (atomV n (ws.map (fill t))))))[6]? = some (some (svO (some t))) := by rw [set_off (by decide), h6]
    have k8 : (ρ.set 15 (some (.v (atomV n (ws.map (fill t))))))[8]? = some (some (.t (.lst ls) false)) := by rw [set_off (by decide), h8]
    have hρ2 : (ρ.set 15 (some (.v (atomV n (ws.map (fill t)))))).length = 18 := by simp [hρ]
    refine ⟨ρ.set 15 (some (.v (atomV n (ws.map (fill t))))), ?_, hρ2, fun j hj => set_off hj⟩
    generalize ρ.set 15 (some (.v (atomV n (ws.map (fill t))))) = ρ2 at *
    obtain ⟨ls', h1, h2⟩ := E16 (m := n) (scr := scr) hd hl (us := ws.map (fill t)) (fun w h => by have := hlen w h; unfold LIM; omega) (by simp; unfold LIM; omega) hρ2 k10 k15 k8 hA hts
    have he : ls' = [] := by
      have : ts.filter (fun τ => !(fit n (ws.map (fill t)) n (ws.map (fill τ)) []).isSome) = [] := by
        rw [List.filter_eq_nil_iff]
        intro τ hτ2
        simp [hτ τ hτ2]
      rw [this] at h2
      cases ls' with
      | nil => rfl
      | cons x r => exact False.elim (by cases x <;> exact h2)
    subst he
    have hb : evalS ⟨runF scr Tb d, scr⟩ (.ite (.cmp .ne (.call "filled" (.lend (.var 5) (.lend (.var 6) .nil)) []) (.var 15)) (.cons (.ret (.con (.bool false))) .nil) .nil) ρ2 st = .nx ρ2 st := by
      have e2 : cop .ne (.v (atomV n (vq.map (fill t)))) (.v (atomV n (ws.map (fill t)))) st = .ok false st := by
        rw [cop_neV st (atomV_pure _ _) (atomV_pure _ _), eqv_atomV, hm]; simp
      rw [x_iteS2]
      simp only [x_cmp, x_call, x_asLend, x_asNil, x_var, k5, k6, k15, slE_v, slE_t, svO, bnd_ok, argOf_v, argOf_b, List.map_nil, List.append_nil, ft _ _ hl2, e2, isB_b, toR_ok]
      simp
    have hc : evalS ⟨runF scr Tb d, scr⟩ (.ite (.cmp .ne (.lc [4] (.nm 4) (.seq (.var 8)) (.some (.not (.call "is_wider" (.lend (.var 15) (.lend (.call "filled" (.lend (.var 10) (.lend (.var 4) .nil)) []) .nil)) []))) (.var 4)) (.lst .nil)) (.cons (.ret (.con (.bool false))) .nil) .nil) ρ2 st = .nx ρ2 st := by
      rw [x_iteS2, x_cmp, h1]
      simp only [x_lst, x_esNil, bnd_ok, cop_nilT.1, isB_b, toR_ok]
      simp
    unfold s16
    rw [x_iteS2]
    simp only [x_cmp, x_var, h6, slE_O, bnd_ok, x_con, (isN_O _ _ _).2, isB_b, toR_ok]
    rw [if_pos (show (some t).isSome = true from rfl), step ha, step hb, step hc, x_ssNil]
theorem L17 {n m f : W} {ws vs us : List W} {ρ : Sl} {st : Store} (h10 : ρ[10]? = some (some (.v (atomV n ws)))) (h11 : ρ[11]? = some (some (.v (atomV f us)))) (h12 : ρ[12]? = some (some (.v (atomV m vs)))) (h13 : ρ[13]? = some (some (.t (.lst (avs (opens ws))) false))) (h : runF scr Tb d "_law_rest" [.v (atomV n ws), .v (atomV m vs), .v (atomV f us), .t (.lst (avs (opens ws))) true] st = .ok (.v (.bool true)) st) : evalS ⟨runF scr Tb d, scr⟩ s17 ρ st = .nx ρ st := by
  unfold s17
  rw [x_iteS2]
  simp only [x_not, x_call, x_asLend, x_asNil, x_var, h10, h11, h12, h13, slE_v, slE_t, bnd_ok, argOf_v, argOf_b, List.map_nil, List.append_nil, h, isB_b, toR_ok]
  simp
def FactF (scr : L2.V → Option (List Int)) (v : Val) : Prop := ∀ e, 4 ≤ e → ∀ st, runF scr Tb e "is_fact" [.v v] st = .ok (.v (.bool false)) st
def bads : List Val := [atomV ['P'] [], atomV ['p'] [[]], atomV ['p'] [['a', ' ', 'b']], .tup [.str ['p'], .str ['a', 'b']], .non, atomV ['1', 'p'] [], atomV ['p'] [['X']]]
theorem bads_ok : ∀ v ∈ bads, FactF scr v := by
  intro v hv e he st
  have hA : ∀ (n : W) (ws : List W), n.length ≤ 20 → (∀ w ∈ ws, w.length ≤ 20) → isFact n ws = false → runF scr Tb e "is_fact" [.v (atomV n ws)] st = .ok (.v (.bool false)) st := by
    intro n ws hn hw h
    rw [r_is_fact he (by unfold LIM; omega) (fun w h => by have := hw w h; unfold LIM; omega) st, h]
  simp only [bads, List.mem_cons, List.not_mem_nil, or_false] at hv
  rcases hv with rfl | rfl | rfl | rfl | rfl | rfl | rfl
  · exact hA _ _ (by decide) (by decide) (by decide +kernel)
  · exact hA _ _ (by decide) (by decide) (by decide +kernel)
  · exact hA _ _ (by decide) (by decide) (by decide +kernel)
  · exact r_is_fact_s he (by decide) st
  · exact r_is_fact_n he st
  · exact hA _ _ (by decide) (by decide) (by decide +kernel)
  · exact hA _ _ (by decide) (by decide) (by decide +kernel)
theorem L18 (hd : 6 ≤ d) {ρ : Sl} (hρ : ρ.length = 18) (st : Store) : ∃ ρ', evalS ⟨runF scr Tb d, scr⟩ s18 ρ st = .nx ρ' st ∧ ρ'.length = 18 := by
  have loop : ∀ (vs : List Val), (∀ v ∈ vs, FactF scr v) → ∀ ρ : Sl, ρ.length = 18 → ∃ ρ', forL .no (forB (.nm 9) fun ρ2 st2 => evalSs ⟨runF scr Tb d, scr⟩ (.cons (.ite (.or (.call "is_fact" (.lend (.var 9) .nil) []) (.not (.call "_law_refused" (.lend (.tup (.cons (.var 9) .nil)) .nil) []))) (.cons (.ret (.con (.bool false))) .nil) .nil) .nil) ρ2 st2) vs ρ st = .nx ρ' st ∧ ρ'.length = 18 := by
    intro vs
    induction vs with
    | nil => intro _ ρ hρ; exact ⟨ρ, forL_nil rfl, hρ⟩
    | cons v r ih =>
      intro hv ρ hρ
      obtain ⟨ρ', h1, h2⟩ := ih (fun x hx => hv x (List.mem_cons_of_mem _ hx)) (ρ.set 9 (some (.v v))) (by simp [hρ])
      refine ⟨ρ', ?_, h2⟩
      rw [forL_step (ρ' := ρ.set 9 (some (.v v))) (st' := st) rfl (.inl ?_), h1]
      have hF := hv v (by simp)
      have e1 := hF d (by omega) st
      have e2 := r_refused (scr := scr) (d := d) hd (v := v) (b := false) hF st
      have k9 : (ρ.set 9 (some (.v v)))[9]? = some (some (.v v)) := set_at (by omega)
      unfold forB
      rw [show assignT (.nm 9) v ρ = some (ρ.set 9 (some (.v v))) from by simp only [assignT]; rw [if_pos (by omega)]]
      dsimp only
      rw [x_ssCons, x_iteS2]
      simp only [x_or, x_not, x_call, x_asLend, x_asNil, x_tup, x_esCons, x_esNil, x_var, k9, slE_v, bnd_ok, argOf_v, intern_v, List.map_nil, List.append_nil, e1, e2, isB_b]
      simp
  obtain ⟨ρ', h1, h2⟩ := loop bads bads_ok ρ hρ
  refine ⟨ρ', ?_, h2⟩
  unfold s18
  rw [x_for]
  simp only [x_seq, x_lst, x_esCons, x_esNil, x_tup, x_con, bnd_ok, intern_v, src_t, toR_ok, lockS]
  rw [map_no]
  exact h1
end
end K01


set_option Elab.async false
set_option linter.all false
set_option maxRecDepth 100000
set_option maxHeartbeats 4000000
/-! M23: k01: the law, from what its words say. -/
namespace K01
open D
/-- what a round needs to know of its words -/
structure RO (n : W) (ws : List W) (f : W) (us : List W) (m : W) (vs : List W) (s : T) : Prop where
  osl : (opens ws).length ≤ 4
  f1 : opens ws = firsts (ws.filter fun w => gXY.contains w)
  f2 : (fit n ws f us s).isNone = (goodK n ws f us s).isEmpty
  f3 : ∀ t, fit n ws f us s = some t → ∃ g, goodK n ws f us s = [g] ∧ g.length ≤ 4 ∧ ceq (.dict (tv t)) (.dict (tv (tall g s))) = some true
  osl2 : (opens ws ++ opens (vs.map (rnm ['q']))).length ≤ 4
  f4 : (mk n ws m (vs.map (rnm ['q']))).isNone = (sameL n ws m (vs.map (rnm ['q']))).isEmpty
  f5 : ∀ t, mk n ws m (vs.map (rnm ['q'])) = some t → n = m ∧ (vs.map (rnm ['q'])).map (fill t) = ws.map (fill t) ∧ (∀ w ∈ ws.map (fill t), w.length ≤ 30) ∧ ∀ τ ∈ sameL n ws m (vs.map (rnm ['q'])), (fit n (ws.map (fill t)) n (ws.map (fill τ)) []).isSome = true
  ra : (fit n ws m vs []).isSome = !((tabs (opens ws) g4).filter fun t => n == m && ws.map (fill t) == vs).isEmpty
  rb : canon (ws.map (rnm ['z', '9'])) = canon ws
  rc : (fit n ws n (canon ws) []).isSome = true
  rd : (fit n (canon ws) n ws []).isSome = true
  re : isAtom n ws = true
  rf : isFact n ws = decide (opens ws = [])
  rg : isFact f us = true
  rcl : ∀ w ∈ canon ws, w.length ≤ 20
theorem di_ds {l k : Nat} {st st' : Store} (h : Ds l st st') (hk : Di st k) : Di st' k := by
  by_cases e : l = k
  · subst e; exact h.1
  · obtain ⟨_, a, b, c, rfl⟩ := h
    obtain ⟨x, y, z, e2⟩ := hk
    exact ⟨x, y, z, by rw [List.getElem?_set_ne e, e2]⟩
theorem di_more {k : Nat} {st more : Store} (hk : Di st k) : Di (st ++ more) k := by
  obtain ⟨x, y, z, e⟩ := hk
  exact ⟨x, y, z, get_more e⟩
section
variable {scr : L2.V → Option (List Int)} {d : Nat}
theorem gW4_len : ∀ w ∈ gW4, w.length ≤ 20 := by decide
theorem gW4_al : ∀ w ∈ gW4, w ≠ [] ∧ w.length ≤ 20 ∧ ∀ c ∈ w, c ∈ AL := by decide +kernel
theorem gAB_len : ∀ w ∈ gAB, w.length ≤ 20 := by decide
theorem round (hd : 8 ≤ d) (H : ∀ n ws f us m vs s, Okn n → Okn f → Okn m → Okw gW4 ws → Okw gAB us → Okw gW4 vs → (s = [] ∨ ∃ g ∈ gAB, s = [(['X'], g)]) → RO n ws f us m vs s) {ρ : Sl} {l : Nat} {st : Store} (hρ : ρ.length = 18) (h1 : ρ[1]? = some (some (.v (.loc l)))) (h : Di st l) : ∃ ρ' st', evalSs ⟨runF scr Tb d, scr⟩ q1 ρ st = .nx ρ' st' ∧ ρ'.length = 18 ∧ ∀ k, Di st k → Di st' k := by
  obtain ⟨n, ws, f, us, m, vs, st1, c1, d1, on, of, om, ow, ou, ov⟩ := L1 (scr := scr) (d := d) (by omega) hρ h1 h
  have wl := okw_len gW4_len ow
  have vl := okw_len gW4_len ov
  unfold q1
  rw [step c1]
  -- the slots after the first statement
  have a1 : (((ρ.set 10 (some (.v (atomV n ws)))).set 11 (some (.v (atomV f us)))).set 12 (some (.v (atomV m vs))))[1]? = some (some (.v (.loc l))) := by rw [set_off (by decide), set_off (by decide), set_off (by decide), h1]
  have a10 : (((ρ.set 10 (some (.v (atomV n ws)))).set 11 (some (.v (atomV f us)))).set 12 (some (.v (atomV m vs))))[10]? = some (some (.v (atomV n ws))) := by rw [set_off (by decide), set_off (by decide), set_at (by omega)]
  have a11 : (((ρ.set 10 (some (.v (atomV n ws)))).set 11 (some (.v (atomV f us)))).set 12 (some (.v (atomV m vs))))[11]? = some (some (.v (atomV f us))) := by rw [set_off (by decide), set_at (by simp; omega)]
  have a12 : (((ρ.set 10 (some (.v (atomV n ws)))).set 11 (some (.v (atomV f us)))).set 12 (some (.v (atomV m vs))))[12]? = some (some (.v (atomV m vs))) := set_at (by simp; omega)
  have aρ : (((ρ.set 10 (some (.v (atomV n ws)))).set 11 (some (.v (atomV f us)))).set 12 (some (.v (atomV m vs)))).length = 18 := by simp [hρ]
  generalize ((ρ.set 10 (some (.v (atomV n ws)))).set 11 (some (.v (atomV f us)))).set 12 (some (.v (atomV m vs))) = ρ1 at *
  unfold q2
  rw [step (L2' (scr := scr) (d := d) (by omega) wl ow.1 aρ a10 st1)]
  have b1 : ((ρ1.set 13 (some (.t (.lst (avs (opens ws))) false))).set 14 (some (.t (.dict (tv [])) false)))[1]? = some (some (.v (.loc l))) := by rw [set_off (by decide), set_off (by decide), a1]
  have b10 : ((ρ1.set 13 (some (.t (.lst (avs (opens ws))) false))).set 14 (some (.t (.dict (tv [])) false)))[10]? = some (some (.v (atomV n ws))) := by rw [set_off (by decide), set_off (by decide), a10]
  have b11 : ((ρ1.set 13 (some (.t (.lst (avs (opens ws))) false))).set 14 (some (.t (.dict (tv [])) false)))[11]? = some (some (.v (atomV f us))) := by rw [set_off (by decide), set_off (by decide), a11]
  have b12 : ((ρ1.set 13 (some (.t (.lst (avs (opens ws))) false))).set 14 (some (.t (.dict (tv [])) false)))[12]? = some (some (.v (atomV m vs))) := by rw [set_off (by decide), set_off (by decide), a12]
  have b13 : ((ρ1.set 13 (some (.t (.lst (avs (opens ws))) false))).set 14 (some (.t (.dict (tv [])) false)))[13]? = some (some (.t (.lst (avs (opens ws))) false)) := by rw [set_off (by decide), set_at (by omega)]
  have b14 : ((ρ1.set 13 (some (.t (.lst (avs (opens ws))) false))).set 14 (some (.t (.dict (tv [])) false)))[14]? = some (some (.t (.dict (tv [])) false)) := set_at (by simp; omega)
  have bρ : ((ρ1.set 13 (some (.t (.lst (avs (opens ws))) false))).set 14 (some (.t (.dict (tv [])) false))).length = 18 := by simp [aρ]
  generalize (ρ1.set 13 (some (.t (.lst (avs (opens ws))) false))).set 14 (some (.t (.dict (tv [])) false)) = ρ2 at *
  unfold q3
  rw [step (L3 (scr := scr) (d := d) ow.1 bρ b10 st1)]
  have k2 := set_at (v := some (.t (.lst (avs (ws.filter fun w => gXY.contains w))) false)) (show 2 < ρ2.length by omega)
  have ko : ∀ j, 2 ≠ j → (ρ2.set 2 (some (.t (.lst (avs (ws.filter fun w => gXY.contains w))) false)))[j]? = ρ2[j]? := fun j hj => set_off hj
  have kρ : (ρ2.set 2 (some (.t (.lst (avs (ws.filter fun w => gXY.contains w))) false))).length = 18 := by simp [bρ]
  generalize ρ2.set 2 (some (.t (.lst (avs (ws.filter fun w => gXY.contains w))) false)) = ρ3 at *
  rw [← ko 1 (by decide)] at b1
  rw [← ko 10 (by decide)] at b10
  rw [← ko 11 (by decide)] at b11
  rw [← ko 12 (by decide)] at b12
  rw [← ko 13 (by decide)] at b13
  rw [← ko 14 (by decide)] at b14
  have r0 := H n ws f us m vs [] on of om ow ou ov (.inl rfl)
  unfold q4
  rw [step (L4 (scr := scr) (d := d) (Nat.le_trans (List.length_filter_le _ _) ow.1) kρ k2 b13 r0.f1 st1)]
  obtain ⟨s, ρ4, st2, c5, d5, os, lρ, l14, lo⟩ := L5 (scr := scr) (d := d) (by omega) kρ b1 b14 d1.1
  unfold q5
  rw [step c5]
  have R := H n ws f us m vs s on of om ow ou ov os
  have hs4 : s.length ≤ 4 := by
    rcases os with rfl | ⟨g, _, rfl⟩ <;> simp
  rw [← lo 10 (by decide)] at b10
  rw [← lo 11 (by decide)] at b11
  rw [← lo 12 (by decide)] at b12
  rw [← lo 13 (by decide)] at b13
  obtain ⟨more, ls, c6, A6⟩ := L6 (scr := scr) (d := d) (by omega) ow.1 R.osl lρ b10 b11 b13 st2
  unfold q6
  rw [step c6]
  have hgl : (goodL n ws f us).length ≤ LIM := filt_lim (by
    have : gAB.length ^ (opens ws).length ≤ 2 ^ 4 := Nat.pow_le_pow_right (by decide) R.osl
    omega) _
  have e3 := set_at (v := some (.t (.lst ls) false)) (show 3 < ρ4.length by omega)
  have eo : ∀ j, 3 ≠ j → (ρ4.set 3 (some (.t (.lst ls) false)))[j]? = ρ4[j]? := fun j hj => set_off hj
  have eρ : (ρ4.set 3 (some (.t (.lst ls) false))).length = 18 := by simp [lρ]
  generalize ρ4.set 3 (some (.t (.lst ls) false)) = ρ5 at *
  rw [← eo 10 (by decide)] at b10
  rw [← eo 11 (by decide)] at b11
  rw [← eo 12 (by decide)] at b12
  rw [← eo 13 (by decide)] at b13
  rw [← eo 14 (by decide)] at l14
  obtain ⟨ls2, c7, A7⟩ := L7 (scr := scr) (d := d) (by unfold LIM; omega) eρ l14 e3 A6 hgl
  unfold q7
  rw [step c7]
  have g3 := set_at (v := some (.t (.lst ls2) false)) (show 3 < ρ5.length by omega)
  have go : ∀ j, 3 ≠ j → (ρ5.set 3 (some (.t (.lst ls2) false)))[j]? = ρ5[j]? := fun j hj => set_off hj
  have gρ : (ρ5.set 3 (some (.t (.lst ls2) false))).length = 18 := by simp [eρ]
  generalize ρ5.set 3 (some (.t (.lst ls2) false)) = ρ6 at *
  rw [← go 10 (by decide)] at b10
  rw [← go 11 (by decide)] at b11
  rw [← go 12 (by decide)] at b12
  rw [← go 13 (by decide)] at b13
  rw [← go 14 (by decide)] at l14
  unfold q8
  rw [step (L8 (scr := scr) (d := d) (by omega) wl ow.1 hs4 gρ b10 b11 l14 _)]
  have i4 := set_at (v := some (svO (fit n ws f us s))) (show 4 < ρ6.length by omega)
  have io : ∀ j, 4 ≠ j → (ρ6.set 4 (some (svO (fit n ws f us s))))[j]? = ρ6[j]? := fun j hj => set_off hj
  have iρ : (ρ6.set 4 (some (svO (fit n ws f us s)))).length = 18 := by simp [gρ]
  generalize ρ6.set 4 (some (svO (fit n ws f us s))) = ρ7 at *
  rw [← io 10 (by decide)] at b10
  rw [← io 11 (by decide)] at b11
  rw [← io 12 (by decide)] at b12
  rw [← io 13 (by decide)] at b13
  rw [← io 14 (by decide)] at l14
  rw [← io 3 (by decide)] at g3
  unfold q9
  rw [step (L9 (scr := scr) (d := d) i4 g3 (by rw [R.f2, ats_emp A7]; rfl) _)]
  obtain ⟨ρ8, c10, mρ, mo⟩ := L10 (scr := scr) (d := d) hs4 iρ i4 g3 l14 A7 R.f3
  unfold q10
  rw [step c10]
  rw [← mo 10 (by decide)] at b10
  rw [← mo 11 (by decide)] at b11
  rw [← mo 12 (by decide)] at b12
  rw [← mo 13 (by decide)] at b13
  unfold q11
  rw [step (L11 (scr := scr) (d := d) (by omega) vl ov.1 mρ b12 _)]
  have n5 := set_at (v := some (.v (atomV m (vs.map (rnm ['q']))))) (show 5 < ρ8.length by omega)
  have no : ∀ j, 5 ≠ j → (ρ8.set 5 (some (.v (atomV m (vs.map (rnm ['q']))))))[j]? = ρ8[j]? := fun j hj => set_off hj
  have nρ : (ρ8.set 5 (some (.v (atomV m (vs.map (rnm ['q'])))))).length = 18 := by simp [mρ]
  generalize ρ8.set 5 (some (.v (atomV m (vs.map (rnm ['q']))))) = ρ9 at *
  rw [← no 10 (by decide)] at b10
  rw [← no 11 (by decide)] at b11
  rw [← no 12 (by decide)] at b12
  rw [← no 13 (by decide)] at b13
  have vql : ∀ w ∈ vs.map (rnm ['q']), w.length ≤ 30 := fun w hw => by
    obtain ⟨u, hu, rfl⟩ := List.mem_map.mp hw
    have := vl u hu
    unfold rnm
    split <;> simp <;> omega
  have vq4 : (vs.map (rnm ['q'])).length ≤ 4 := by simpa using ov.1
  obtain ⟨f4, f5, osl2⟩ := And.intro R.f4 (And.intro R.f5 R.osl2)
  generalize vs.map (rnm ['q']) = vq at *
  unfold q12
  rw [step (L12 (scr := scr) (d := d) (by omega) wl vql ow.1 nρ b10 n5 _)]
  have p6 := set_at (v := some (svO (mk n ws m vq))) (show 6 < ρ9.length by omega)
  have po : ∀ j, 6 ≠ j → (ρ9.set 6 (some (svO (mk n ws m vq))))[j]? = ρ9[j]? := fun j hj => set_off hj
  have pρ : (ρ9.set 6 (some (svO (mk n ws m vq)))).length = 18 := by simp [nρ]
  generalize ρ9.set 6 (some (svO (mk n ws m vq))) = ρ10 at *
  rw [← po 10 (by decide)] at b10
  rw [← po 11 (by decide)] at b11
  rw [← po 12 (by decide)] at b12
  rw [← po 13 (by decide)] at b13
  rw [← po 5 (by decide)] at n5
  unfold q13
  rw [step (L13 (scr := scr) (d := d) (by omega) wl vql ow.1 vq4 pρ b10 n5 _)]
  have t7 := set_at (v := some (.t (.lst (avs (opens ws ++ opens vq))) false)) (show 7 < ρ10.length by omega)
  have to : ∀ j, 7 ≠ j → (ρ10.set 7 (some (.t (.lst (avs (opens ws ++ opens vq))) false)))[j]? = ρ10[j]? := fun j hj => set_off hj
  have tρ : (ρ10.set 7 (some (.t (.lst (avs (opens ws ++ opens vq))) false))).length = 18 := by simp [pρ]
  generalize ρ10.set 7 (some (.t (.lst (avs (opens ws ++ opens vq))) false)) = ρ11 at *
  rw [← to 10 (by decide)] at b10
  rw [← to 11 (by decide)] at b11
  rw [← to 12 (by decide)] at b12
  rw [← to 13 (by decide)] at b13
  rw [← to 5 (by decide)] at n5
  rw [← to 6 (by decide)] at p6
  obtain ⟨more2, ls3, c14, A14⟩ := L14 (scr := scr) (d := d) (by omega) ow.1 vq4 osl2 tρ b10 n5 t7 (st2 ++ more)
  unfold q14
  rw [step c14]
  have x8 := set_at (v := some (.t (.lst ls3) false)) (show 8 < ρ11.length by omega)
  have xo : ∀ j, 8 ≠ j → (ρ11.set 8 (some (.t (.lst ls3) false)))[j]? = ρ11[j]? := fun j hj => set_off hj
  have xρ : (ρ11.set 8 (some (.t (.lst ls3) false))).length = 18 := by simp [tρ]
  generalize ρ11.set 8 (some (.t (.lst ls3) false)) = ρ12 at *
  rw [← xo 10 (by decide)] at b10
  rw [← xo 11 (by decide)] at b11
  rw [← xo 12 (by decide)] at b12
  rw [← xo 13 (by decide)] at b13
  rw [← xo 5 (by decide)] at n5
  rw [← xo 6 (by decide)] at p6
  unfold q15
  rw [step (L15 (scr := scr) (d := d) p6 x8 (by rw [f4, ats_emp A14]) _)]
  have hsl : (sameL n ws m vq).length ≤ LIM := filt_lim (by
    have : gABC.length ^ (opens ws ++ opens vq).length ≤ 3 ^ 4 := Nat.pow_le_pow_right (by decide) osl2
    omega) _
  obtain ⟨ρ13, c16, yρ, yo⟩ := L16 (scr := scr) (d := d) (by omega) ow.1 vq4 xρ b10 n5 p6 x8 A14 hsl f5
  unfold q16
  rw [step c16]
  rw [← yo 10 (by decide)] at b10
  rw [← yo 11 (by decide)] at b11
  rw [← yo 12 (by decide)] at b12
  rw [← yo 13 (by decide)] at b13
  have onl : n.length ≤ 20 ∧ ∀ c ∈ n, c ∈ AL := by rcases on with rfl | rfl <;> decide +kernel
  have ofl : f.length ≤ 20 := by rcases of with rfl | rfl <;> decide
  have hrest := r_rest (scr := scr) (d := d) hd onl.1 onl.2 (fun w hw => gW4_al w (ow.2 w hw)) ow.1 ofl (okw_len gAB_len ou) R.osl R.ra R.rb R.rc R.rd R.re R.rf R.rg R.rcl ((st2 ++ more) ++ more2)
  unfold q17
  rw [step (L17 (scr := scr) (d := d) b10 b11 b12 b13 hrest)]
  obtain ⟨ρ14, c18, zρ⟩ := L18 (scr := scr) (d := d) (by omega) yρ ((st2 ++ more) ++ more2)
  unfold q18
  rw [step c18]
  unfold q19
  exact ⟨ρ14, _, x_ssNil _ _ _, zρ, fun k hk => di_more (di_more (di_ds d5 (di_ds d1 hk)))⟩
theorem law_run (H : ∀ n ws f us m vs s, Okn n → Okn f → Okn m → Okw gW4 ws → Okw gAB us → Okw gW4 vs → (s = [] ∨ ∃ g ∈ gAB, s = [(['X'], g)]) → RO n ws f us m vs s) (c : L2.V) (ns : List Int) (hs : scr c = some ns) : ∃ st', runF scr Tb (9 + 1) "law" [.v (.cst c)] [] = .ok (.v (.bool true)) st' := by
  rw [runF_lk (fd := ⟨1, 18, b_law⟩) (by rfl) rfl (by decide)]
  obtain ⟨cs, hne, hcs, hr⟩ := r_rounds (scr := scr) (d := 9) (by decide) hs
  have loop : ∀ (k n : Nat) (ρ : Sl) (st : Store), ρ.length = 18 → (∀ j, n ≤ j → j < n + k → Di st j) → ∃ ρ' st', forL .no (forB (.nm 1) fun ρ2 st2 => evalSs ⟨runF scr Tb 9, scr⟩ q1 ρ2 st2) (locs n k) ρ st = .nx ρ' st' ∧ ρ'.length = 18 := by
    intro k
    induction k with
    | zero => intro n ρ st hρ _; exact ⟨ρ, st, forL_nil rfl, hρ⟩
    | succ k ih =>
      intro n ρ st hρ hd
      obtain ⟨ρ1, st1, e1, e2, e3⟩ := round (scr := scr) (d := 9) (by decide) H (ρ := ρ.set 1 (some (.v (.loc n)))) (l := n) (st := st) (by simp [hρ]) (set_at (by omega)) (hd n (by omega) (by omega))
      obtain ⟨ρ2, st2, e4, e5⟩ := ih (n + 1) ρ1 st1 e2 (fun j h1 h2 => e3 j (hd j (by omega) (by omega)))
      refine ⟨ρ2, st2, ?_, e5⟩
      rw [show locs n (k + 1) = .loc n :: locs (n + 1) k from by unfold locs; rw [List.range'_succ]; rfl, forL_step (ρ' := ρ1) (st' := st1) rfl (.inl ?_), e4]
      unfold forB
      rw [show assignT (.nm 1) (.loc n) ρ = some (ρ.set 1 (some (.v (.loc n)))) from by simp only [assignT]; rw [if_pos (by omega)]]
      exact e1
  obtain ⟨ρ', st', e1, e2⟩ := loop cs.length 0 (startS [.v (.cst c)] 18) cs rfl (fun j _ h => by
    have hj : j < cs.length := by omega
    obtain ⟨x, y, z, e⟩ := hcs cs[j] (List.getElem_mem hj)
    exact ⟨x, y, z, by rw [List.getElem?_eq_getElem hj, e]⟩)
  have n1 := fun st => r_is_name (scr := scr) (d := 9) (by decide) (w := ['a', 'b', '1']) (by decide) st
  have n2 := fun st => r_is_name (scr := scr) (d := 9) (by decide) (w := ['1']) (by decide) st
  rw [show isName ['a', 'b', '1'] = true from by decide +kernel] at n1
  rw [show isName ['1'] = false from by decide +kernel] at n2
  have n3 := fun st => r_read_1 (scr := scr) (d := 9) (by decide) st
  have n4 := fun st => r_read_2 (scr := scr) (d := 9) (by decide) st
  have n5 : ∀ st, cop .isN (.v .non) (.v .non) st = .ok true st := fun st => rfl
  have hf : evalS ⟨runF scr Tb 9, scr⟩ (.for_ (.nm 1) (.seq (.call "_law_rounds" (.lend (.var 0) (.lend (.con (.int 4)) .nil)) [])) q1) (startS [.v (.cst c)] 18) [] = .nx ρ' st' := by
    rw [x_for]
    have e0 : (startS [.v (.cst c)] 18)[0]? = some (some (.v (.cst c))) := rfl
    simp only [x_seq, x_call, x_asLend, x_asNil, x_var, e0, x_con, slE_v, bnd_ok, argOf_v, List.map_nil, List.append_nil, hr, src_t, toR_ok, lockS]
    rw [map_no]
    exact e1
  show ∃ st', gc [] (resOf (evalSs ⟨runF scr Tb 9, scr⟩ b_law (startS [.v (.cst c)] 18) [])) = _
  rw [b_law_eq, step hf]
  have hb := gc_bool (st := []) (more := st') true
  refine ⟨[], ?_⟩
  simp [n1, n2, n3, n4, n5]
  simpa using hb
end
end K01


set_option Elab.async false
set_option linter.all false
set_option maxRecDepth 100000
set_option maxHeartbeats 4000000
/-! P1: k01: tables, lists of words: plain facts. -/
namespace K01
open D
theorem tget_nil (w : W) : tget [] w = none := rfl
theorem tget_cons (p : W × W) (t : T) (w : W) : tget (p :: t) w = if p.1 = w then some p.2 else tget t w := by
  unfold tget
  rw [List.find?_cons]
  by_cases h : p.1 = w
  · simp [h]
  · have hb : (p.1 == w) = false := beq_eq_false_iff_ne.mpr h
    simp [h, hb]
theorem tget_map (t : T) (k v w : W) : tget (t.map fun p => if p.1 == k then (p.1, v) else p) w = if k = w ∧ (t.any fun p => p.1 == k) = true then some v else tget t w := by
  induction t with
  | nil => simp [tget]
  | cons p r ih =>
    rw [List.map_cons, tget_cons, tget_cons, ih, List.any_cons]
    by_cases h1 : p.1 = k
    · by_cases h2 : k = w
      · subst h2; simp [h1]
      · have : ¬ p.1 = w := fun e => h2 (h1 ▸ e)
        simp [h1, h2]
    · have hb : (p.1 == k) = false := beq_eq_false_iff_ne.mpr h1
      rw [hb]
      simp only [Bool.false_or, Bool.false_eq_true, if_false]
      by_cases h2 : k = w
      · subst h2; simp [h1]
      · simp [h2]
theorem any_false {t : T} {k : W} (h : (t.any fun p => p.1 == k) = false) : tget t k = none := by
  induction t with
  | nil => rfl
  | cons p r ih =>
    rw [List.any_cons, Bool.or_eq_false_iff] at h
    rw [tget_cons, if_neg (by simpa using h.1), ih h.2]
theorem tget_put (t : T) (k v w : W) : tget (tput t k v) w = if k = w then some v else tget t w := by
  unfold tput
  cases h : t.any fun p => p.1 == k with
  | true =>
    rw [if_pos rfl, tget_map, h]
    simp
  | false =>
    rw [if_neg (by simp), tget_snoc]
    by_cases h2 : k = w
    · subst h2; rw [any_false h]; simp
    · simp [h2]
def keys (t : T) : List W := t.map (·.1)
theorem keys_put (t : T) (k v : W) : keys (tput t k v) = if k ∈ keys t then keys t else keys t ++ [k] := by
  have e : (t.any fun p => p.1 == k) = decide (k ∈ keys t) := by
    unfold keys
    induction t with
    | nil => simp
    | cons p r ih =>
      rw [List.any_cons, ih]
      by_cases h : p.1 = k
      · simp [h]
      · have h2 : ¬ k = p.1 := fun e => h e.symm
        have hb : (p.1 == k) = false := beq_eq_false_iff_ne.mpr h
        simp [hb, h2]
  unfold tput
  rw [e]
  by_cases h : k ∈ keys t
  · simp only [h, decide_true, if_true]
    unfold keys
    rw [List.map_map]
    apply List.map_congr_left
    intro p _
    simp only [Function.comp_apply]
    split <;> rfl
  · simp only [h, decide_false, if_false]
    simp [keys]
theorem nd_put {t : T} (k v : W) (h : (keys t).Nodup) : (keys (tput t k v)).Nodup := by
  rw [keys_put]
  split
  · exact h
  · rename_i h2
    rw [List.nodup_append]
    exact ⟨h, by simp, by intro a ha b hb e; simp at hb; subst hb; subst e; exact h2 ha⟩
theorem tget_key {t : T} {w : W} : (tget t w).isSome = true ↔ w ∈ keys t := by
  induction t with
  | nil => simp [tget, keys]
  | cons p r ih =>
    rw [tget_cons]
    by_cases h : p.1 = w
    · simp [h, keys]
    · have h2 : ¬ w = p.1 := fun e => h e.symm
      simp only [h, if_false, ih, keys, List.map_cons, List.mem_cons, h2, false_or]
theorem tget_in {t : T} (h : (keys t).Nodup) {p : W × W} (hp : p ∈ t) : tget t p.1 = some p.2 := by
  induction t with
  | nil => cases hp
  | cons q r ih =>
    rw [tget_cons]
    have h2 : q.1 ∉ keys r ∧ (keys r).Nodup := List.nodup_cons.mp h
    cases List.mem_cons.mp hp with
    | inl e => subst e; simp
    | inr e =>
      have : ¬ q.1 = p.1 := fun e2 => h2.1 (by rw [e2]; exact List.mem_map.mpr ⟨p, e, rfl⟩)
      rw [if_neg this, ih h2.2 e]
theorem nodup_sub {α : Type} [DecidableEq α] : ∀ {a b : List α}, a.Nodup → (∀ x ∈ a, x ∈ b) → a.length ≤ b.length
  | [], _, _, _ => by simp
  | x :: r, b, h, hs => by
    have h2 := List.nodup_cons.mp h
    have hx := hs x (by simp)
    have := nodup_sub (b := b.erase x) h2.2 fun y hy => (List.mem_erase_of_ne (by intro e; subst e; exact h2.1 hy)).mpr (hs y (List.mem_cons_of_mem _ hy))
    rw [List.length_erase_of_mem hx] at this
    have hp := List.length_pos_of_mem hx
    simp only [List.length_cons]
    omega
/-! opens -/
theorem opensF_mem (w : W) : ∀ (ws f : List W), w ∈ opensF f ws ↔ w ∈ f ∨ (w ∈ ws ∧ isOpen w = true)
  | [], f => by simp [opensF]
  | x :: r, f => by
    unfold opensF
    rw [opensF_mem w r]
    by_cases h1 : isOpen x = true
    · by_cases h2 : x ∈ f
      · simp [h1, h2]
        constructor
        · rintro (h | h)
          · exact .inl h
          · exact .inr ⟨.inr h.1, h.2⟩
        · rintro (h | ⟨rfl | h, h3⟩)
          · exact .inl h
          · exact .inl h2
          · exact .inr ⟨h, h3⟩
      · simp [h1, h2]
        constructor
        · rintro ((h | rfl) | h)
          · exact .inl h
          · exact .inr ⟨.inl rfl, h1⟩
          · exact .inr ⟨.inr h.1, h.2⟩
        · rintro (h | ⟨rfl | h, h3⟩)
          · exact .inl (.inl h)
          · exact .inl (.inr rfl)
          · exact .inr ⟨h, h3⟩
    · simp [h1]
      constructor
      · rintro (h | h)
        · exact .inl h
        · exact .inr ⟨.inr h.1, h.2⟩
      · rintro (h | ⟨rfl | h, h3⟩)
        · exact .inl h
        · exact absurd h3 h1
        · exact .inr ⟨h, h3⟩
theorem opens_mem {w : W} {ws : List W} : w ∈ opens ws ↔ w ∈ ws ∧ isOpen w = true := by
  unfold opens; rw [opensF_mem]; simp
theorem opensF_nd : ∀ (ws f : List W), f.Nodup → (opensF f ws).Nodup
  | [], f, h => h
  | x :: r, f, h => by
    unfold opensF
    refine opensF_nd r _ ?_
    split
    · rename_i h2
      simp at h2
      rw [List.nodup_append]
      exact ⟨h, by simp, by intro a ha b hb e; simp at hb; subst hb; subst e; exact h2.2 ha⟩
    · exact h
theorem opens_nd (ws : List W) : (opens ws).Nodup := opensF_nd ws [] List.nodup_nil
/-! tables made of a function -/
def fnT (os : List W) (σ : W → W) : T := os.map fun w => (w, σ w)
theorem tget_fn (os : List W) (σ : W → W) (w : W) : tget (fnT os σ) w = if w ∈ os then some (σ w) else none := by
  induction os with
  | nil => rfl
  | cons x r ih =>
    show tget ((x, σ x) :: fnT r σ) w = _
    rw [tget_cons, ih]
    by_cases h : x = w
    · subst h; simp
    · have h2 : ¬ w = x := fun e => h e.symm
      simp [h, h2]
theorem tget_all (os : List W) (σ : W → W) (t : T) (w : W) : tget (tall (fnT os σ) t) w = if w ∈ os then some (σ w) else tget t w := by
  induction os generalizing t with
  | nil => rfl
  | cons x r ih =>
    show tget (tall (fnT r σ) (tput t x (σ x))) w = _
    rw [ih, tget_put]
    by_cases h1 : w ∈ r
    · simp [h1]
    · by_cases h : x = w
      · subst h; simp [h1]
      · have h2 : ¬ w = x := fun e => h e.symm
        simp [h1, h, h2]
theorem nd_all (l t : T) (h : (keys t).Nodup) : (keys (tall l t)).Nodup := by
  induction l generalizing t with
  | nil => exact h
  | cons p r ih => exact ih _ (nd_put _ _ h)
theorem keys_fn {t : T} (h : (keys t).Nodup) : t = fnT (keys t) fun w => (tget t w).getD [] := by
  unfold fnT keys
  rw [List.map_map]
  conv => lhs; rw [← List.map_id t]
  apply List.map_congr_left
  intro p hp
  simp [tget_in h hp]
theorem tabsF_mem (gs : List W) : ∀ (os : List W) (ts : List T), os.Nodup → (∀ t0 ∈ ts, ∀ w ∈ os, w ∉ keys t0) → ∀ t, t ∈ tabsF gs ts os ↔ ∃ t0 ∈ ts, ∃ r : T, t = t0 ++ r ∧ keys r = os ∧ ∀ p ∈ r, p.2 ∈ gs
  | [], ts, _, _, t => by
    constructor
    · intro h
      exact ⟨t, h, [], by simp, rfl, by simp⟩
    · rintro ⟨t0, h, r, rfl, hk, _⟩
      have : r = [] := by simpa [keys] using hk
      subst this
      simpa [tabsF] using h
  | w :: os, ts, hn, hf, t => by
    have hn2 := List.nodup_cons.mp hn
    have e1 : ∀ t0 ∈ ts, ∀ g, tput t0 w g = t0 ++ [(w, g)] := fun t0 h0 g => tput_new (by
      have := hf t0 h0 w (by simp)
      rw [← tget_key] at this
      simpa using this)
    have hm : ∀ t1, t1 ∈ tabs1 gs w ts ↔ ∃ t0 ∈ ts, ∃ g ∈ gs, t1 = t0 ++ [(w, g)] := by
      intro t1
      unfold tabs1
      rw [List.mem_flatMap]
      constructor
      · rintro ⟨t0, h0, h1⟩
        obtain ⟨g, hg, rfl⟩ := List.mem_map.mp h1
        exact ⟨t0, h0, g, hg, e1 t0 h0 g⟩
      · rintro ⟨t0, h0, g, hg, rfl⟩
        exact ⟨t0, h0, List.mem_map.mpr ⟨g, hg, e1 t0 h0 g⟩⟩
    unfold tabsF
    rw [tabsF_mem gs os (tabs1 gs w ts) hn2.2 (by
      intro t1 h1 v hv
      obtain ⟨t0, h0, g, _, rfl⟩ := (hm t1).mp h1
      have := hf t0 h0 v (List.mem_cons_of_mem _ hv)
      simp only [keys, List.map_append, List.map_cons, List.map_nil, List.mem_append, List.mem_singleton]
      rintro (h | rfl)
      · exact this h
      · exact hn2.1 hv)]
    constructor
    · rintro ⟨t1, h1, r, rfl, hk, hr⟩
      obtain ⟨t0, h0, g, hg, rfl⟩ := (hm t1).mp h1
      refine ⟨t0, h0, (w, g) :: r, by simp, by simp [keys] at hk ⊢; exact hk, ?_⟩
      intro p hp
      cases List.mem_cons.mp hp with
      | inl e => subst e; exact hg
      | inr e => exact hr p e
    · rintro ⟨t0, h0, r, rfl, hk, hr⟩
      cases r with
      | nil => cases hk
      | cons p r =>
        simp only [keys, List.map_cons, List.cons.injEq] at hk
        refine ⟨t0 ++ [p], (hm _).mpr ⟨t0, h0, p.2, hr p (by simp), ?_⟩, r, by simp, hk.2, fun q hq => hr q (List.mem_cons_of_mem _ hq)⟩
        rw [← hk.1]
theorem tabs_mem {gs os : List W} (hn : os.Nodup) {t : T} : t ∈ tabs os gs ↔ keys t = os ∧ ∀ p ∈ t, p.2 ∈ gs := by
  unfold tabs
  rw [tabsF_mem gs os [[]] hn (by intro t0 h0; simp at h0; subst h0; simp [keys])]
  constructor
  · rintro ⟨t0, h0, r, rfl, hk, hr⟩
    simp at h0
    subst h0
    exact ⟨hk, hr⟩
  · rintro ⟨hk, hr⟩
    exact ⟨[], by simp, t, by simp, hk, hr⟩
end K01


set_option Elab.async false
set_option linter.all false
set_option maxRecDepth 100000
set_option maxHeartbeats 4000000
/-! P2: k01: fitting. -/
namespace K01
open D
theorem filter_one {α : Type} {p : α → Bool} {a : α} : ∀ {l : List α}, l.Nodup → a ∈ l → (∀ x ∈ l, p x = true ↔ x = a) → l.filter p = [a]
  | [], _, h, _ => by cases h
  | x :: r, hn, ha, hp => by
    have h2 := List.nodup_cons.mp hn
    by_cases e : x = a
    · subst e
      rw [List.filter_cons_of_pos ((hp x (by simp)).mpr rfl)]
      congr 1
      rw [List.filter_eq_nil_iff]
      intro y hy h3
      have := (hp y (List.mem_cons_of_mem _ hy)).mp h3
      subst this
      exact h2.1 hy
    · rw [List.filter_cons_of_neg (fun h => e ((hp x (by simp)).mp h))]
      have ha2 : a ∈ r := by
        cases List.mem_cons.mp ha with
        | inl h => exact absurd h.symm e
        | inr h => exact h
      exact filter_one h2.2 ha2 fun y hy => hp y (List.mem_cons_of_mem _ hy)
theorem tabs1_nd {gs : List W} (hg : gs.Nodup) (w : W) : ∀ {ts : List T}, ts.Nodup → (∀ t0 ∈ ts, w ∉ keys t0) → (tabs1 gs w ts).Nodup
  | [], _, _ => by simp [tabs1]
  | t0 :: ts, hn, hf => by
    have h2 := List.nodup_cons.mp hn
    have e1 : ∀ t0 : T, w ∉ keys t0 → ∀ g, tput t0 w g = t0 ++ [(w, g)] := fun t0 h0 g => tput_new (by
      rw [← tget_key] at h0
      simpa using h0)
    have ih := tabs1_nd hg w h2.2 fun t h => hf t (List.mem_cons_of_mem _ h)
    show (gs.map (fun g => tput t0 w g) ++ tabs1 gs w ts).Nodup
    rw [List.nodup_append]
    have h0 := hf t0 (by simp)
    refine ⟨?_, ih, ?_⟩
    · have : gs.map (fun g => tput t0 w g) = gs.map fun g => t0 ++ [(w, g)] := List.map_congr_left fun g _ => e1 t0 h0 g
      rw [this]
      clear ih this
      induction gs with
      | nil => simp
      | cons g r ihg =>
        have h3 := List.nodup_cons.mp hg
        rw [List.map_cons, List.nodup_cons]
        refine ⟨?_, ihg h3.2⟩
        intro hm
        obtain ⟨g2, hg2, e⟩ := List.mem_map.mp hm
        have := List.append_cancel_left e
        simp at this
        subst this
        exact h3.1 hg2
    · intro a ha b hb e
      subst e
      obtain ⟨g, _, rfl⟩ := List.mem_map.mp ha
      obtain ⟨t1, h1, h4⟩ := List.mem_flatMap.mp hb
      obtain ⟨g2, _, e2⟩ := List.mem_map.mp h4
      rw [e1 t0 h0, e1 t1 (hf t1 (List.mem_cons_of_mem _ h1))] at e2
      have := (List.append_inj' e2 rfl).1
      subst this
      exact h2.1 h1
theorem tabsF_nd {gs : List W} (hg : gs.Nodup) : ∀ {os : List W} {ts : List T}, os.Nodup → ts.Nodup → (∀ t0 ∈ ts, ∀ w ∈ os, w ∉ keys t0) → (tabsF gs ts os).Nodup
  | [], _, _, h, _ => h
  | w :: os, ts, hn, ht, hf => by
    have hn2 := List.nodup_cons.mp hn
    show (tabsF gs (tabs1 gs w ts) os).Nodup
    refine tabsF_nd hg hn2.2 (tabs1_nd hg w ht fun t h => hf t h w (by simp)) ?_
    intro t1 h1 v hv
    obtain ⟨t0, h0, h2⟩ := List.mem_flatMap.mp h1
    obtain ⟨g, _, rfl⟩ := List.mem_map.mp h2
    rw [keys_put]
    have := hf t0 h0 v (List.mem_cons_of_mem _ hv)
    split
    · exact this
    · simp only [List.mem_append, List.mem_singleton]
      rintro (h | rfl)
      · exact this h
      · exact hn2.1 hv
theorem tabs_nd {gs os : List W} (hg : gs.Nodup) (hn : os.Nodup) : (tabs os gs).Nodup :=
  tabsF_nd hg hn (by simp) (by intro t0 h0; simp at h0; subst h0; simp [keys])
/-! fitF -/
theorem fit_some : ∀ {zs : List (W × W)} {t t' : T}, fitF t zs = some t' → (∀ p ∈ zs, if isOpen p.1 then tget t' p.1 = some p.2 else p.1 = p.2) ∧ (∀ w v, tget t w = some v → tget t' w = some v) ∧ (∀ w, (isOpen w = true → ∀ g, (w, g) ∉ zs) → tget t' w = tget t w)
  | [], t, t', h => by
    cases h
    exact ⟨by simp, fun _ _ h => h, fun _ _ => rfl⟩
  | (w, g) :: r, t, t', h => by
    unfold fitF at h
    by_cases h1 : isOpen w = true
    · rw [if_pos h1] at h
      by_cases h2 : (tget t w).getD g = g
      · rw [if_pos h2] at h
        obtain ⟨a, b, c⟩ := fit_some h
        refine ⟨?_, ?_, ?_⟩
        · intro p hp
          cases List.mem_cons.mp hp with
          | inl e =>
            subst e
            rw [if_pos h1]
            exact b w g (by rw [tget_put, if_pos rfl])
          | inr e => exact a p e
        · intro x v hx
          refine b x v ?_
          rw [tget_put]
          by_cases e : w = x
          · subst e
            rw [hx] at h2
            simp only [Option.getD_some] at h2
            rw [if_pos rfl, h2]
          · rw [if_neg e, hx]
        · intro x hx
          rw [c x fun h g2 hm => hx h g2 (List.mem_cons_of_mem _ hm), tget_put]
          by_cases e : w = x
          · subst e; exact absurd (by simp) (hx h1 g)
          · rw [if_neg e]
      · rw [if_neg h2] at h; cases h
    · rw [if_neg h1] at h
      by_cases h2 : w = g
      · rw [if_pos h2] at h
        obtain ⟨a, b, c⟩ := fit_some h
        refine ⟨?_, b, fun x hx => c x fun h g2 hm => hx h g2 (List.mem_cons_of_mem _ hm)⟩
        intro p hp
        cases List.mem_cons.mp hp with
        | inl e => subst e; rw [if_neg h1]; exact h2
        | inr e => exact a p e
      · rw [if_neg h2] at h; cases h
theorem fit_nd : ∀ {zs : List (W × W)} {t t' : T}, (keys t).Nodup → fitF t zs = some t' → (keys t').Nodup
  | [], t, t', hn, h => by cases h; exact hn
  | (w, g) :: r, t, t', hn, h => by
    unfold fitF at h
    split at h
    · split at h
      · exact fit_nd (nd_put _ _ hn) h
      · cases h
    · split at h
      · exact fit_nd hn h
      · cases h
theorem fit_ex {σ : W → W} : ∀ {zs : List (W × W)} {t : T}, (∀ w v, tget t w = some v → σ w = v) → (∀ p ∈ zs, if isOpen p.1 then σ p.1 = p.2 else p.1 = p.2) → ∃ t', fitF t zs = some t'
  | [], t, _, _ => ⟨t, rfl⟩
  | (w, g) :: r, t, ht, hz => by
    have h0 := hz (w, g) (by simp)
    have hr := fun p hp => hz p (List.mem_cons_of_mem _ hp)
    unfold fitF
    by_cases h1 : isOpen w = true
    · have h0 : σ w = g := by simpa [h1] using h0
      rw [if_pos h1]
      have h2 : (tget t w).getD g = g := by
        cases e : tget t w with
        | none => rfl
        | some v => rw [← ht w v e, h0]; rfl
      rw [if_pos h2]
      refine fit_ex ?_ hr
      intro x v hx
      rw [tget_put] at hx
      by_cases e : w = x
      · subst e; rw [if_pos rfl] at hx; cases hx; exact h0
      · rw [if_neg e] at hx; exact ht x v hx
    · have h0 : w = g := by simpa [h1] using h0
      rw [if_neg h1, if_pos h0]
      exact fit_ex ht hr
/-! the tables that make one atom of the other -/
def goodG (gs : List W) (n : W) (ws : List W) (f : W) (us : List W) (s : T) : List T := ((tabs (opens ws) gs).filter fun t => n == f && ws.map (fill t) == us).filter fun t => keepP s t
theorem zip_left {ws us : List W} (hl : ws.length = us.length) {w : W} (h : w ∈ ws) : ∃ u ∈ us, (w, u) ∈ ws.zip us := by
  induction ws generalizing us with
  | nil => cases h
  | cons x r ih =>
    cases us with
    | nil => cases hl
    | cons y q =>
      cases List.mem_cons.mp h with
      | inl e => subst e; exact ⟨y, by simp, by simp⟩
      | inr e =>
        obtain ⟨u, h1, h2⟩ := ih (by simpa using hl) e
        exact ⟨u, List.mem_cons_of_mem _ h1, by simp [h2]⟩
theorem map_zip {ws us : List W} (hl : ws.length = us.length) (φ : W → W) : ws.map φ = us ↔ ∀ p ∈ ws.zip us, φ p.1 = p.2 := by
  induction ws generalizing us with
  | nil => cases us with
    | nil => simp
    | cons y q => cases hl
  | cons x r ih =>
    cases us with
    | nil => cases hl
    | cons y q =>
      have := ih (us := q) (by simpa using hl)
      simp [this]
theorem keepP_iff {s t : T} : keepP s t = true ↔ ∀ w v, tget s w = some v → (tget t w).getD v = v := by
  unfold keepP
  rw [List.all_eq_true]
  constructor
  · intro h w v hv
    have := h w (tget_key.mp (by rw [hv]; rfl))
    rw [hv] at this
    simpa using this
  · intro h w hw
    have := tget_key.mpr hw
    cases e : tget s w with
    | none => rw [e] at this; cases this
    | some v =>
      have := h w v e
      simpa using this
theorem fit_good {gs : List W} (hg : gs.Nodup) {n f : W} {ws us : List W} {s : T} (hs : (keys s).Nodup) (hu : ∀ u ∈ us, u ∈ gs) :
    (∀ t, fit n ws f us s = some t → ∃ g, goodG gs n ws f us s = [g] ∧ g.length = (opens ws).length ∧ ceq (.dict (tv t)) (.dict (tv (tall g s))) = some true) ∧ (fit n ws f us s = none → goodG gs n ws f us s = []) := by
  have hon := opens_nd ws
  constructor
  · intro t ht
    unfold fit at ht
    split at ht
    · rename_i hc
      obtain ⟨rfl, hl⟩ := hc
      obtain ⟨a, b, c⟩ := fit_some ht
      have hnd := fit_nd hs ht
      -- what stands at an open word
      have hop : ∀ w ∈ opens ws, ∃ u ∈ us, tget t w = some u ∧ (w, u) ∈ ws.zip us := by
        intro w hw
        obtain ⟨h1, h2⟩ := opens_mem.mp hw
        obtain ⟨u, hu1, hz⟩ := zip_left hl h1
        have := a _ hz
        rw [if_pos h2] at this
        exact ⟨u, hu1, this, hz⟩
      let σ : W → W := fun w => (tget t w).getD w
      have hσ : ∀ w ∈ opens ws, tget t w = some (σ w) := by
        intro w hw
        obtain ⟨u, _, h1, _⟩ := hop w hw
        show tget t w = some ((tget t w).getD w)
        rw [h1]; rfl
      have hfill : ∀ p ∈ ws.zip us, fill (fnT (opens ws) σ) p.1 = p.2 := by
        intro p hp
        unfold fill
        rw [tget_fn]
        have hpa := a p hp
        by_cases h1 : isOpen p.1 = true
        · have hm : p.1 ∈ opens ws := opens_mem.mpr ⟨(List.of_mem_zip hp).1, h1⟩
          rw [if_pos h1] at hpa
          rw [if_pos hm]
          have := hσ _ hm
          rw [hpa] at this
          exact (Option.some.inj this).symm
        · rw [if_neg h1] at hpa
          rw [if_neg (fun h => h1 (opens_mem.mp h).2)]
          exact hpa
      have hin : fnT (opens ws) σ ∈ tabs (opens ws) gs := by
        rw [tabs_mem hon]
        refine ⟨by simp [keys, fnT, Function.comp_def], ?_⟩
        intro p hp
        obtain ⟨w, hw, rfl⟩ := List.mem_map.mp hp
        obtain ⟨u, hu1, h1, _⟩ := hop w hw
        show (tget t w).getD w ∈ gs
        rw [h1]
        exact hu u hu1
      refine ⟨fnT (opens ws) σ, ?_, by simp [fnT], ?_⟩
      · unfold goodG
        rw [List.filter_filter]
        refine filter_one (tabs_nd hg hon) hin ?_
        intro x hx
        obtain ⟨hk, _⟩ := (tabs_mem hon).mp hx
        simp only [Bool.and_eq_true, beq_self_eq_true, true_and, beq_iff_eq]
        constructor
        · rintro ⟨_, h2⟩
          have h3 := (map_zip hl _).mp h2
          have hkn : (keys x).Nodup := by rw [hk]; exact hon
          rw [keys_fn hkn, hk]
          unfold fnT
          apply List.map_congr_left
          intro w hw
          obtain ⟨u, _, h4, h5⟩ := hop w hw
          have h6 := h3 _ h5
          have h7 : (tget x w).isSome = true := tget_key.mpr (by rw [hk]; exact hw)
          cases e : tget x w with
          | none => rw [e] at h7; cases h7
          | some v =>
            unfold fill at h6
            rw [e] at h6
            simp only [Option.getD_some] at h6
            show (w, (tget x w).getD []) = (w, (tget t w).getD w)
            rw [e, h4, ← h6]; rfl
        · rintro rfl
          refine ⟨?_, (map_zip hl _).mpr hfill⟩
          rw [keepP_iff]
          intro w v hv
          rw [tget_fn]
          by_cases hm : w ∈ opens ws
          · rw [if_pos hm]
            have := hσ w hm
            rw [b w v hv] at this
            exact (Option.some.inj this).symm
          · rw [if_neg hm]; rfl
      · -- the two dicts are one
        have hnd2 := nd_all (fnT (opens ws) σ) s hs
        have hsame : ∀ w, tget (tall (fnT (opens ws) σ) s) w = tget t w := by
          intro w
          rw [tget_all]
          by_cases hm : w ∈ opens ws
          · rw [if_pos hm, hσ w hm]
          · rw [if_neg hm]
            refine (c w ?_).symm
            intro h1 g hz
            exact hm (opens_mem.mpr ⟨(List.of_mem_zip hz).1, h1⟩)
        have hle : t.length = (tall (fnT (opens ws) σ) s).length := by
          have hk : ∀ w, w ∈ keys t ↔ w ∈ keys (tall (fnT (opens ws) σ) s) := fun w => by rw [← tget_key, ← tget_key, hsame]
          have h1 := nodup_sub hnd fun w h => (hk w).mp h
          have h2 := nodup_sub hnd2 fun w h => (hk w).mpr h
          simp only [keys, List.length_map] at h1 h2
          omega
        generalize tall (fnT (opens ws) σ) s = b at *
        have hp1 : ∀ t : T, ((tv t).all fun kv => kv.2.pure) = true := fun t => by simp [tv]
        have hlen : ((tv t).length == (tv b).length) = true := by simp [hle]
        have hall : ((tv t).all fun kv => match dlook (tv b) kv.1 with | none => false | some v => kv.2.eqv v) = true := by
          rw [List.all_eq_true]
          intro kv hkv
          obtain ⟨p, hp, rfl⟩ := List.mem_map.mp hkv
          simp only [dlook_tv, hsame, tget_in hnd hp, Option.map_some, Val.eqv, beq_self_eq_true]
        unfold ceq
        simp only [hom_tv, notTup_tv, hp1, hlen, Bool.and_self, if_true]
        refine congrArg some ?_
        rw [Bool.true_and]
        exact hall
    · cases ht
  · intro hnone
    unfold goodG
    rw [List.filter_filter, List.filter_eq_nil_iff]
    intro x hx hp
    simp only [Bool.and_eq_true, beq_iff_eq] at hp
    obtain ⟨h1, rfl, h2⟩ := hp
    obtain ⟨hk, _⟩ := (tabs_mem hon).mp hx
    have hl : ws.length = us.length := by rw [← h2]; simp
    unfold fit at hnone
    rw [if_pos ⟨rfl, hl⟩] at hnone
    have h3 := (map_zip hl _).mp h2
    rw [keepP_iff] at h1
    have hkey : ∀ w, w ∈ opens ws → ∃ v, tget x w = some v := fun w hw => by
      have h7 : (tget x w).isSome = true := tget_key.mpr (by rw [hk]; exact hw)
      exact Option.isSome_iff_exists.mp h7
    obtain ⟨t', e⟩ := fit_ex (σ := fun w => (tget x w).getD ((tget s w).getD w)) (zs := ws.zip us) (t := s) (by
      intro w v hv
      have := h1 w v hv
      show (tget x w).getD ((tget s w).getD w) = v
      rw [hv]
      exact this) (by
      intro p hp
      have h4 := h3 p hp
      unfold fill at h4
      by_cases ho : isOpen p.1 = true
      · rw [if_pos ho]
        obtain ⟨v, e⟩ := hkey _ (opens_mem.mpr ⟨(List.of_mem_zip hp).1, ho⟩)
        rw [e] at h4
        simp only [Option.getD_some] at h4
        show (tget x p.1).getD ((tget s p.1).getD p.1) = p.2
        rw [e]; exact h4
      · rw [if_neg ho]
        have : tget x p.1 = none := by
          have : ¬ (tget x p.1).isSome = true := by rw [tget_key, hk]; exact fun h => ho (opens_mem.mp h).2
          simpa using this
        rw [this] at h4
        exact h4)
    rw [hnone] at e
    cases e
end K01


set_option Elab.async false
set_option linter.all false
set_option maxRecDepth 100000
set_option maxHeartbeats 4000000
/-! P3: k01: made one. -/
namespace K01
open D
theorem mkF_spec : ∀ {zs : List (W × W)} {t t' : T}, Good t → (∀ w, isOpen w = false → root t w = w) → mkF t zs = some t' →
    (∀ w v, root t w = root t v → root t' w = root t' v) ∧ (∀ p ∈ zs, root t' p.1 = root t' p.2) ∧ (∀ w, isOpen w = false → root t' w = w) ∧ (∀ P : W → Prop, (∀ p ∈ zs, P p.1 ∧ P p.2) → (∀ w, P w → P (root t w)) → ∀ w, P w → P (root t' w)) ∧ (∀ g : W → W, (∀ p ∈ zs, g p.1 = g p.2) → (∀ w, g (root t w) = g w) → ∀ w, g (root t' w) = g w)
  | [], t, t', hg, hN, h => by
    cases h
    exact ⟨fun _ _ h => h, by simp, hN, fun _ _ h => h, fun _ _ h => h⟩
  | (w0, g0) :: r, t, t', hg, hN, h => by
    have key : ∀ (a b : W) (x y : W), a = root t x → b = root t y → a ≠ b → isOpen a = true → ((x, y) = (w0, g0) ∨ (y, x) = (w0, g0)) → mkF (t ++ [(a, b)]) r = some t' →
        (∀ w v, root t w = root t v → root t' w = root t' v) ∧ (∀ p ∈ (w0, g0) :: r, root t' p.1 = root t' p.2) ∧ (∀ w, isOpen w = false → root t' w = w) ∧ (∀ P : W → Prop, (∀ p ∈ (w0, g0) :: r, P p.1 ∧ P p.2) → (∀ w, P w → P (root t w)) → ∀ w, P w → P (root t' w)) ∧ (∀ g : W → W, (∀ p ∈ (w0, g0) :: r, g p.1 = g p.2) → (∀ w, g (root t w) = g w) → ∀ w, g (root t' w) = g w) := by
      intro a b x y ha hb hab hao hxy hm
      have na : tget t a = none := by rw [ha]; exact root_none hg x
      have nb : tget t b = none := by rw [hb]; exact root_none hg y
      have rp := root_put hg na nb hab
      have hN2 : ∀ w, isOpen w = false → root (t ++ [(a, b)]) w = w := by
        intro w hw
        rw [rp, hN w hw]
        rw [if_neg]
        intro e
        rw [e, hao] at hw
        cases hw
      obtain ⟨i1, i2, i3, i4, i5⟩ := mkF_spec (good_put hg na nb hab) hN2 hm
      have e0 : root (t ++ [(a, b)]) x = root (t ++ [(a, b)]) y := by
        rw [rp, rp, ← ha, ← hb, if_pos rfl, if_neg (fun e => hab e.symm)]
      refine ⟨?_, ?_, i3, ?_, ?_⟩
      · intro w v e
        exact i1 w v (by rw [rp, rp, e])
      · intro p hp
        cases List.mem_cons.mp hp with
        | inl e =>
          subst e
          rcases hxy with e | e
          · cases e; exact i1 _ _ e0
          · cases e; exact i1 _ _ e0.symm
        | inr e => exact i2 p e
      · intro P hP hr w hw
        refine i4 P (fun p hp => hP p (List.mem_cons_of_mem _ hp)) ?_ w hw
        intro v hv
        rw [rp]
        split
        · rw [hb]
          refine hr y ?_
          have := hP (w0, g0) (by simp)
          rcases hxy with e | e
          · cases e; exact this.2
          · cases e; exact this.1
        · exact hr v hv
      · intro g hz hr w
        refine i5 g (fun p hp => hz p (List.mem_cons_of_mem _ hp)) ?_ w
        intro v
        rw [rp]
        split
        · rename_i e
          have h1 : g x = g y := by
            have := hz (w0, g0) (by simp)
            rcases hxy with e | e
            · cases e; exact this
            · cases e; exact this.symm
          rw [hb, hr, ← h1, ← hr x, ← ha, ← e, hr]
        · exact hr v
    unfold mkF at h
    split at h
    · rename_i e
      obtain ⟨i1, i2, i3, i4, i5⟩ := mkF_spec hg hN h
      refine ⟨i1, ?_, i3, ?_, ?_⟩
      · intro p hp
        cases List.mem_cons.mp hp with
        | inl e2 => subst e2; exact i1 _ _ e
        | inr e2 => exact i2 p e2
      · intro P hP; exact i4 P fun p hp => hP p (List.mem_cons_of_mem _ hp)
      · intro g hz; exact i5 g fun p hp => hz p (List.mem_cons_of_mem _ hp)
    · rename_i e
      split at h
      · rename_i ho
        exact key _ _ w0 g0 rfl rfl e ho (.inl rfl) h
      · split at h
        · rename_i ho
          exact key _ _ g0 w0 rfl rfl (fun e2 => e e2.symm) ho (.inr rfl) h
        · cases h
theorem mkF_none {g : W → W} (hgo : ∀ w, isOpen w = false → g w = w) : ∀ {zs : List (W × W)} {t : T}, Good t → (∀ p ∈ zs, g p.1 = g p.2) → (∀ w, g (root t w) = g w) → mkF t zs ≠ none
  | [], t, _, _, _ => by unfold mkF; simp
  | (w0, g0) :: r, t, hg, hz, hr => by
    have h0 : g w0 = g g0 := hz (w0, g0) (by simp)
    have hz2 := fun p hp => hz p (List.mem_cons_of_mem _ hp)
    have n1 := root_none hg w0
    have n2 := root_none hg g0
    have e1 : g (root t w0) = g (root t g0) := by rw [hr, hr, h0]
    unfold mkF
    split
    · exact mkF_none hgo hg hz2 hr
    · rename_i e
      split
      · refine mkF_none hgo (good_put hg n1 n2 e) hz2 ?_
        intro v
        rw [root_put hg n1 n2 e]
        split
        · rename_i e2; rw [← e1, ← e2, hr]
        · exact hr v
      · rename_i o1
        split
        · refine mkF_none hgo (good_put hg n2 n1 fun e2 => e e2.symm) hz2 ?_
          intro v
          rw [root_put hg n2 n1 fun e2 => e e2.symm]
          split
          · rename_i e2; rw [e1, ← e2, hr]
          · exact hr v
        · rename_i o2
          exfalso
          rw [hgo _ (by simpa using o1), hgo _ (by simpa using o2)] at e1
          exact e e1
theorem root_nil (w : W) : root [] w = w := by
  unfold root; rw [lastN_at rfl]; rfl
theorem fill_rooted {t : T} (hg : Good t) (w : W) : fill (rooted t) w = root t w := by
  have e : (t.map fun p => (p.1, root t p.1)) = fnT (keys t) (root t) := by
    unfold fnT keys
    rw [List.map_map]
    rfl
  unfold fill rooted
  rw [e, tget_all]
  by_cases h : w ∈ keys t
  · rw [if_pos h]; rfl
  · rw [if_neg h]
    have : tget t w = none := by
      rw [← tget_key] at h
      simpa using h
    show w = root t w
    unfold root
    rw [lastN_at this]; rfl
theorem zip_sw : ∀ {a b : List W} {q : W × W}, q ∈ a.zip b → (q.2, q.1) ∈ b.zip a
  | x :: r, y :: s, q, h => by
    cases List.mem_cons.mp h with
    | inl e => subst e; simp
    | inr e => exact List.mem_cons_of_mem _ (zip_sw e)
  | [], _, _, h => by simp at h
  | _ :: _, [], _, h => by simp at h
def gQ : List W := [['X', 'q'], ['Y', 'q'], ['a'], ['b']]
def gAll : List W := [['X'], ['Y'], ['a'], ['b'], ['X', 'q'], ['Y', 'q']]
theorem rn_q : ∀ w ∈ gW4, rnm ['q'] w ∈ gQ := by decide +kernel
theorem all_W : ∀ w ∈ gW4, w ∈ gAll := by decide
theorem all_Q : ∀ w ∈ gQ, w ∈ gAll := by decide
theorem all_ground : ∀ w ∈ gAll, isOpen w = false → w ∈ gABC := by decide +kernel
theorem all_len : ∀ w ∈ gAll, w.length ≤ 30 := by decide
theorem W_notQ : ∀ w ∈ gW4, isOpen w = true → w ∉ gQ := by decide +kernel
theorem open_o : ∀ w ∈ gAll, isOpen w = true → w ∈ [['X'], ['Y'], ['X', 'q'], ['Y', 'q']] := by decide +kernel
theorem open_W : ∀ w ∈ gW4, isOpen w = true → w ∈ gXY := by decide +kernel
theorem osl_W {ws : List W} (hw : ∀ w ∈ ws, w ∈ gW4) : (opens ws).length ≤ 4 := by
  have := nodup_sub (opens_nd ws) (b := gXY) fun w h => open_W w (hw w (opens_mem.mp h).1) (opens_mem.mp h).2
  simp [gXY] at this
  omega
section
variable {n m : W} {ws vq : List W} (hw : ∀ w ∈ ws, w ∈ gW4) (hv : ∀ w ∈ vq, w ∈ gQ)
include hw hv
theorem os_nd : (opens ws ++ opens vq).Nodup := by
  rw [List.nodup_append]
  refine ⟨opens_nd _, opens_nd _, ?_⟩
  intro a ha b hb e
  subst e
  obtain ⟨h1, h2⟩ := opens_mem.mp ha
  exact W_notQ a (hw a h1) h2 (hv a (opens_mem.mp hb).1)
theorem os_len : (opens ws ++ opens vq).length ≤ 4 := by
  refine nodup_sub (os_nd hw hv) (b := [['X'], ['Y'], ['X', 'q'], ['Y', 'q']]) ?_
  intro x hx
  cases List.mem_append.mp hx with
  | inl h => exact open_o x (all_W x (hw x (opens_mem.mp h).1)) (opens_mem.mp h).2
  | inr h => exact open_o x (all_Q x (hv x (opens_mem.mp h).1)) (opens_mem.mp h).2
theorem os_open {x : W} (hx : x ∈ opens ws ++ opens vq) : isOpen x = true := by
  cases List.mem_append.mp hx with
  | inl h => exact (opens_mem.mp h).2
  | inr h => exact (opens_mem.mp h).2
theorem fill_ground {τ : T} (hτ : τ ∈ tabs (opens ws ++ opens vq) gABC) (x : W) (hx : isOpen x = false) : fill τ x = x := by
  have hk := ((tabs_mem (os_nd hw hv)).mp hτ).1
  unfold fill
  cases e : tget τ x with
  | none => rfl
  | some v =>
    exfalso
    have h1 : x ∈ keys τ := tget_key.mp (by rw [e]; rfl)
    rw [hk] at h1
    have := os_open hw hv h1
    rw [hx] at this
    cases this
theorem mk_all : (mk n ws m vq).isNone = (sameL n ws m vq).isEmpty ∧ ∀ t, mk n ws m vq = some t → n = m ∧ vq.map (fill t) = ws.map (fill t) ∧ (∀ w ∈ ws.map (fill t), w.length ≤ 30) ∧ ∀ τ ∈ sameL n ws m vq, (fit n (ws.map (fill t)) n (ws.map (fill τ)) []).isSome = true := by
  have hun : ∀ τ ∈ sameL n ws m vq, n = m ∧ ws.length = vq.length ∧ (∀ p ∈ ws.zip vq, fill τ p.1 = fill τ p.2) ∧ τ ∈ tabs (opens ws ++ opens vq) gABC := by
    intro τ hτ
    obtain ⟨h1, h2⟩ := List.mem_filter.mp hτ
    simp only [Bool.and_eq_true, beq_iff_eq] at h2
    have hl : ws.length = vq.length := by
      have := congrArg List.length h2.2
      simpa using this
    refine ⟨h2.1, hl, ?_, h1⟩
    intro p hp
    have h3 := (map_zip (us := vq.map (fill τ)) (by simpa using hl) (fill τ)).mp h2.2 (p.1, fill τ p.2) (by
      rw [List.zip_map_right]
      exact List.mem_map.mpr ⟨p, hp, rfl⟩)
    exact h3
  cases hmk : mk n ws m vq with
  | none =>
    refine ⟨?_, by intro t h; cases h⟩
    have : sameL n ws m vq = [] := by
      rw [List.eq_nil_iff_forall_not_mem]
      intro τ hτ
      obtain ⟨h1, h2, h3, h4⟩ := hun τ hτ
      unfold mk at hmk
      rw [if_pos ⟨h1, h2⟩] at hmk
      refine mkF_none (g := fill τ) (fill_ground hw hv h4) good_nil h3 (fun w => by rw [root_nil]) ?_
      simpa using hmk
    rw [this]
    rfl
  | some t =>
    unfold mk at hmk
    split at hmk
    · rename_i hc
      obtain ⟨hnm, hl⟩ := hc
      cases hF : mkF [] (ws.zip vq) with
      | none => rw [hF] at hmk; cases hmk
      | some t0 =>
        rw [hF] at hmk
        have ht : rooted t0 = t := Option.some.inj hmk
        subst ht
        have hg := mkF_good good_nil hF
        obtain ⟨i1, i2, i3, i4, i5⟩ := mkF_spec good_nil (fun w _ => root_nil w) hF
        have hP := i4 (fun w => w ∈ gAll) (fun p hp => ⟨all_W _ (hw _ (List.of_mem_zip hp).1), all_Q _ (hv _ (List.of_mem_zip hp).2)⟩) (fun w hw => by rw [root_nil]; exact hw)
        have hfr : ∀ w, fill (rooted t0) w = root t0 w := fill_rooted hg
        constructor
        · -- some table makes both one
          let σ : W → W := fun w => if isOpen (root t0 w) = true then ['a'] else root t0 w
          have hon := os_nd hw hv
          have hin : fnT (opens ws ++ opens vq) σ ∈ tabs (opens ws ++ opens vq) gABC := by
            rw [tabs_mem hon]
            refine ⟨by simp [keys, fnT, Function.comp_def], ?_⟩
            intro p hp
            obtain ⟨w, hw2, rfl⟩ := List.mem_map.mp hp
            show (if isOpen (root t0 w) = true then ['a'] else root t0 w) ∈ gABC
            split
            · simp [gABC]
            · rename_i ho
              refine all_ground _ (hP w ?_) (by simpa using ho)
              cases List.mem_append.mp hw2 with
              | inl h => exact all_W _ (hw _ (opens_mem.mp h).1)
              | inr h => exact all_Q _ (hv _ (opens_mem.mp h).1)
          have hfill : ∀ w, (isOpen w = true → w ∈ opens ws ++ opens vq) → fill (fnT (opens ws ++ opens vq) σ) w = σ w := by
            intro w hwo
            unfold fill
            rw [tget_fn]
            by_cases h : w ∈ opens ws ++ opens vq
            · rw [if_pos h]; rfl
            · rw [if_neg h]
              have ho : isOpen w = false := by
                cases e : isOpen w with
                | false => rfl
                | true => exact absurd (hwo e) h
              show w = if isOpen (root t0 w) = true then ['a'] else root t0 w
              rw [i3 w ho, if_neg (by rw [ho]; simp)]
          have hmem : fnT (opens ws ++ opens vq) σ ∈ sameL n ws m vq := by
            refine List.mem_filter.mpr ⟨hin, ?_⟩
            simp only [Bool.and_eq_true, beq_iff_eq]
            refine ⟨hnm, ?_⟩
            rw [map_zip (by simpa using hl)]
            intro p hp
            rw [List.zip_map_right] at hp
            obtain ⟨q, hq, rfl⟩ := List.mem_map.mp hp
            have hq1 := (List.of_mem_zip hq).1
            have hq2 := (List.of_mem_zip hq).2
            show fill _ q.1 = fill _ q.2
            rw [hfill q.1 fun h => List.mem_append.mpr (.inl (opens_mem.mpr ⟨hq1, h⟩)), hfill q.2 fun h => List.mem_append.mpr (.inr (opens_mem.mpr ⟨hq2, h⟩))]
            show (if isOpen (root t0 q.1) = true then ['a'] else root t0 q.1) = if isOpen (root t0 q.2) = true then ['a'] else root t0 q.2
            rw [i2 q hq]
          cases hs : sameL n ws m vq with
          | nil => rw [hs] at hmem; cases hmem
          | cons x r => rfl
        · intro t ht
          cases ht
          refine ⟨hnm, ?_, ?_, ?_⟩
          · refine (map_zip (us := ws.map (fill (rooted t0))) (by simpa using hl.symm) _).mpr ?_
            intro p hp
            rw [List.zip_map_right] at hp
            obtain ⟨q, hq, rfl⟩ := List.mem_map.mp hp
            show fill _ q.1 = fill _ q.2
            rw [hfr, hfr]
            refine (i2 (q.2, q.1) ?_).symm
            exact zip_sw hq
          · intro w hw2
            obtain ⟨x, hx, rfl⟩ := List.mem_map.mp hw2
            rw [hfr]
            exact all_len _ (hP x (all_W x (hw x hx)))
          · intro τ hτ
            obtain ⟨h1, h2, h3, h4⟩ := hun τ hτ
            have hgr := fill_ground hw hv h4
            have h5 := i5 (fill τ) h3 fun w => by rw [root_nil]
            unfold fit
            rw [if_pos ⟨rfl, by simp⟩]
            obtain ⟨t', e⟩ := fit_ex (σ := fill τ) (zs := (ws.map (fill (rooted t0))).zip (ws.map (fill τ))) (t := []) (fun w v h => by cases h) (by
              intro p hp
              rw [List.zip_map'] at hp
              obtain ⟨x, hx, rfl⟩ := List.mem_map.mp hp
              show if isOpen (fill (rooted t0) x) = true then fill τ (fill (rooted t0) x) = fill τ x else fill (rooted t0) x = fill τ x
              rw [hfr]
              split
              · exact h5 x
              · rename_i ho
                rw [← h5 x, hgr _ (by simpa using ho)])
            rw [e]; rfl
    · cases hmk
end
end K01


set_option Elab.async false
set_option linter.all false
set_option maxRecDepth 100000
set_option maxHeartbeats 4000000
/-! P4: k01: what a round needs, from the words. -/
namespace K01
open D
def exL (g : List W) : Nat → List (List W)
  | 0 => [[]]
  | k + 1 => (exL g k).flatMap fun r => g.map fun w => w :: r
theorem exL_mem {g : List W} : ∀ {ws : List W}, (∀ w ∈ ws, w ∈ g) → ws ∈ exL g ws.length
  | [], _ => by simp [exL]
  | w :: r, h => by
    have ih := exL_mem (g := g) (ws := r) fun x hx => h x (List.mem_cons_of_mem _ hx)
    show (w :: r) ∈ (exL g r.length).flatMap fun r => g.map fun w => w :: r
    exact List.mem_flatMap.mpr ⟨r, ih, List.mem_map.mpr ⟨w, h w (by simp), rfl⟩⟩
def chkW (ws : List W) : Bool :=
  (opens ws == firsts (ws.filter fun w => gXY.contains w)) && (canon (ws.map (rnm ['z', '9'])) == canon ws) && (canon ws).all (fun w => decide (w.length ≤ 20)) && (fitF [] (ws.zip (canon ws))).isSome && (fitF [] ((canon ws).zip ws)).isSome && ws.all isWord && (ws.any isOpen == !(opens ws).isEmpty)
theorem chk0 : (exL gW4 0).all chkW = true := by decide +kernel
theorem chk1 : (exL gW4 1).all chkW = true := by decide +kernel
theorem chk2 : (exL gW4 2).all chkW = true := by decide +kernel
theorem chk3 : (exL gW4 3).all chkW = true := by decide +kernel
theorem chk4 : (exL gW4 4).all chkW = true := by decide +kernel
theorem chk {ws : List W} (h : Okw gW4 ws) : chkW ws = true := by
  have hm := exL_mem h.2
  have hl := h.1
  have : ws.length = 0 ∨ ws.length = 1 ∨ ws.length = 2 ∨ ws.length = 3 ∨ ws.length = 4 := by omega
  rcases this with e | e | e | e | e <;> rw [e] at hm
  · exact List.all_eq_true.mp chk0 ws hm
  · exact List.all_eq_true.mp chk1 ws hm
  · exact List.all_eq_true.mp chk2 ws hm
  · exact List.all_eq_true.mp chk3 ws hm
  · exact List.all_eq_true.mp chk4 ws hm
theorem wordAB : ∀ w ∈ gAB, isWord w = true ∧ isOpen w = false := by decide +kernel
theorem nameOk {n : W} (h : Okn n) : isName n = true := by rcases h with rfl | rfl <;> decide +kernel
theorem ro (n ws f us m vs s) (hn : Okn n) (hf : Okn f) (hm : Okn m) (hw : Okw gW4 ws) (hu : Okw gAB us) (hv : Okw gW4 vs) (hs : s = [] ∨ ∃ g ∈ gAB, s = [(['X'], g)]) : RO n ws f us m vs s := by
  have hc := chk hw
  unfold chkW at hc
  simp only [Bool.and_eq_true, beq_iff_eq, List.all_eq_true, decide_eq_true_eq] at hc
  obtain ⟨⟨⟨⟨⟨⟨c1, c2⟩, c3⟩, c4⟩, c5⟩, c6⟩, c7⟩ := hc
  have hvq : ∀ w ∈ vs.map (rnm ['q']), w ∈ gQ := fun w h => by
    obtain ⟨x, hx, rfl⟩ := List.mem_map.mp h
    exact rn_q x (hv.2 x hx)
  have hsk : (keys s).Nodup := by rcases hs with rfl | ⟨g, _, rfl⟩ <;> simp [keys]
  have osl := osl_W hw.2
  have A := fit_good (gs := gAB) (by decide) (n := n) (f := f) (ws := ws) (us := us) (s := s) hsk hu.2
  have B := fit_good (gs := g4) (by decide) (n := n) (f := m) (ws := ws) (us := vs) (s := []) (by simp [keys]) (fun u h => by
    have : ∀ w ∈ gW4, w ∈ g4 := by decide
    exact this u (hv.2 u h))
  have C := mk_all (n := n) (m := m) hw.2 hvq
  have hat : isAtom n ws = true := by
    unfold isAtom
    rw [nameOk hn, decide_eq_true (by have := hw.1; omega)]
    simp only [Bool.true_and]
    exact List.all_eq_true.mpr c6
  refine ⟨osl, c1, ?_, ?_, os_len hw.2 hvq, C.1, C.2, ?_, c2, ?_, ?_, hat, ?_, ?_, c3⟩
  · show _ = (goodG gAB n ws f us s).isEmpty
    cases e : fit n ws f us s with
    | none => rw [A.2 e]; rfl
    | some t =>
      obtain ⟨g, h1, _⟩ := A.1 t e
      rw [h1]; rfl
  · intro t e
    obtain ⟨g, h1, h2, h3⟩ := A.1 t e
    exact ⟨g, h1, by omega, h3⟩
  · have hk : goodG g4 n ws m vs [] = (tabs (opens ws) g4).filter fun t => n == m && ws.map (fill t) == vs := by
      unfold goodG
      exact List.filter_eq_self.mpr fun t _ => rfl
    rw [← hk]
    cases e : fit n ws m vs [] with
    | none => rw [B.2 e]; rfl
    | some t =>
      obtain ⟨g, h1, _⟩ := B.1 t e
      rw [h1]; rfl
  · unfold fit
    rw [if_pos ⟨rfl, by simp [canon]⟩]
    exact c4
  · unfold fit
    rw [if_pos ⟨rfl, by simp [canon]⟩]
    exact c5
  · unfold isFact
    rw [hat, c7]
    cases opens ws <;> simp
  · unfold isFact isAtom
    rw [nameOk hf, decide_eq_true (by have := hu.1; omega), List.all_eq_true.mpr fun w h => (wordAB w (hu.2 w h)).1]
    have : us.any isOpen = false := by
      rw [List.any_eq_false]
      intro w h
      rw [(wordAB w (hu.2 w h)).2]
      simp
    rw [this]
    rfl
theorem hrun' : ∀ (c : L2.V) (ns : List Int) (scr : L2.V → Option (List Int)), scr c = some ns → ∃ st', runF scr (tabF L) (9 + 1) "law" [.v (.cst c)] [] = .ok (.v (.bool true)) st' :=
  fun c ns scr h => law_run (scr := scr) ro c ns h
end K01


set_option Elab.async false
set_option linter.all false
set_option maxRecDepth 100000
set_option maxHeartbeats 0
namespace K01
open D PySem PySem.Spec PyProof.Rows L2
abbrev l : PySem.W.OpenLaw := PySem.Challenge.rw_factbase_k01_atoms_and_what_they_fit
def fn : List He.DefD := fnOfP l.prog
def tf : List He.Defn := tfOf tfN
def fa : List He.Fa := faOf G L
abbrev hk : PySem.W.Hook := He.hookX 5 fa fn [] tf (ieB G)
def ob (s : PySem.W.SharedT) : He.AlX := He.obsX 5 fa fn [] tf (ieB G) (HandSHeadRun.getT s)
theorem ob_eq (s : PySem.W.SharedT) : ob s = hk.obs s.abs := He.obsX_eq (HandSHeadRun.getT_eq s)
def loose : List Str := ["__name__", "BaseFault", "BadFact", "SMALL", "GREAT", "FIGURES", "is_word", "is_open", "is_name", "is_atom", "is_fact", "check_facts", "open_words", "filled", "matched", "last_word", "made_one", "renamed", "canonical", "is_wider", "told", "read_at", "word_at", "_law_dice", "_law_roll", "_law_rounds", "_law_refused", "_law_atom", "_law_tables", "_law_rest"]
theorem run (w : World) : HandSHeadRun.RunEq l.row (PySem.W.view l.row.prog [32]) hk ob 3000 loose w := by
  intro os
  kernel_rfl
theorem ho : HeadOk G L fa fn tf 3 200 := head_ok (by decide +kernel) (by decide +kernel) (by decide +kernel) (by decide)
theorem holds_of (D : Nat) (hD : D ≤ 40) (hrun : ∀ (c : V) (ns : List Int) (scr : V → Option (List Int)), scr c = some ns → ns.length ≤ 63 → (∀ z ∈ ns, Builtin.Int.intBits z ≤ 1048576) → ∃ st', runF scr (tabF L) (D + 1) "law" [.v (.cst c)] [] = .ok (.v (.bool true)) st')
    {w : World} {mg : Str → Option Value} {f : Addr} {h : Heap} (Y : hk.says w h) (hns : h.Ns mainGlobals mg) (hmg : mg ("law" : Str) = some (.ref f)) : ∃ K : PySem.W.Frag, K.In h ∧ LamX.LawAtS l w K (L2.CX l.prog w) (4 * (D + 1)) 63 "script" mg f h := by
  obtain ⟨K, KX, c⟩ := Y
  obtain ⟨e, he, hn, hp⟩ : ∃ e ∈ L, e.name = "law" ∧ e.Ns.take e.np = [("script" : Str)] := ⟨L[24], by simp [L], by rfl, by decide +kernel⟩
  exact ⟨K, KX, law_at rfl ho he hn hp hrun KX hns hmg c⟩
theorem hrun : ∀ (c : V) (ns : List Int) (scr : V → Option (List Int)), scr c = some ns → ns.length ≤ 63 → (∀ z ∈ ns, Builtin.Int.intBits z ≤ 1048576) → ∃ st', runF scr (tabF L) (9 + 1) "law" [.v (.cst c)] [] = .ok (.v (.bool true)) st' := fun c ns scr h _ _ => hrun' c ns scr h
end K01
open PySem PySem.W PySem.Calls PyProof.Rows
theorem PySem.Challenge.cw_factbase_k01_atoms_and_what_they_fit_holds : PySem.Challenge.rw_factbase_k01_atoms_and_what_they_fit.Holds := by
  w_on; o_law
  refine HandSHeadRun.head_any (r := OpenLaw.row PySem.Challenge.rw_factbase_k01_atoms_and_what_they_fit) (q := view (OpenLaw.row PySem.Challenge.rw_factbase_k01_atoms_and_what_they_fit).prog [32]) (H := K01.hk) (ob := K01.ob) (M := 3000) (loose := K01.loose) (d := HandSHeadRun.topDef (OpenLaw.row PySem.Challenge.rw_factbase_k01_atoms_and_what_they_fit).prog 32) (kwd := []) K01.ob_eq
    (by kernel_rfl) (fun s => by kernel_rfl) K01.run (by kernel_rfl) (by kernel_rfl) (by kernel_rfl) (by rfl) (by first | assumption | decide +kernel) (by decide +kernel) ⟨rfl, rfl, rfl, rfl, rfl, by decide +kernel⟩ ?hw ?hc
  case hw => w_witness2
  case hc =>
    refine LamX.walk_ofTsE (l := PySem.Challenge.rw_factbase_k01_atoms_and_what_they_fit) (n := 63) (k := 40) (x := "script") (CX := fun w => L2.CX PySem.Challenge.rw_factbase_k01_atoms_and_what_they_fit.prog w) rfl (by decide) (by kernel_rfl) ⟨rfl, by decide, by decide⟩ ?F (fun w H s e s' h => by obtain ⟨_, _, _, _, _, _, _, _, _, _, _, _, z⟩ := h; exact z)
    intro w mg fa h Y G hmg0
    have hmg : mg ("law" : PySem.Str) = some (.ref fa) := by
      have e : (HandSHeadRun.topDef (OpenLaw.row PySem.Challenge.rw_factbase_k01_atoms_and_what_they_fit).prog 32).name = ("law" : PySem.Str) := by kernel_rfl
      rw [← e]
      exact hmg0
    exact K01.holds_of 9 (by decide) K01.hrun Y G hmg


