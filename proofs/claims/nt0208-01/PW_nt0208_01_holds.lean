import PyProof.Rows.All
import Wide.All
import OpenK.AllK
import Wide.FinOn
import Lean
import PySem.Challenge.RW_nt0208_01
set_option Elab.async false
set_option maxRecDepth 100000
section
open PySem PySem.W PyProof.Rows
set_option Elab.async false
set_option maxRecDepth 100000
namespace Mine

/-! ## abstract values -/
inductive PV where
  | none
  | bool (b : Bool)
  | int (i : Int)
  | str (s : Str)
  | gl (v : Value)
  | tup (xs : List PV)
  | lst (xs : List PV)
  | obj (c : Nat) (fs : List PV)
  | rng (lo hi st : Int)

/-- what a name or a field holds: a frozen value, a mutable thing's number, a bound method of a mutable thing -/
inductive XV where
  | p (v : PV)
  | c (i : Nat)
  | bm (f : Nat) (i : Nat)

inductive Cell where
  | list (xs : List PV)
  | dict (f : Int → Option PV) (n : Nat)
  | inst (c : Nat) (fs : List XV)

noncomputable abbrev Sig := List Cell
noncomputable abbrev Locs := List (Option XV)

/-! ## the small language -/
inductive BOp where
  | add | sub | mul | fdiv | mod | pow

inductive COp where
  | eq | ne | lt | le | gt | ge | is | isnot | isin | notin


mutual
inductive Ex where
  | none | bool (b : Bool) | int (i : Int) | str (s : Str)
  | glob (i : Nat)
  | var (i : Nat)
  | attr (e : Ex) (a : Nat)
  | bin (o : BOp) (l r : Ex)
  | addC (l r : Ex)
  | cmp (o : COp) (l r : Ex)
  | not (e : Ex)
  | neg (i : Int)
  | and (es : Exs)
  | or (es : Exs)
  | ite (c a b : Ex)
  | sub (e i : Ex)
  | slcTo (e n : Ex)
  | slcFrom (e n : Ex)
  | slcRev (e : Ex)
  | slcTwo (e : Ex)
  | list (es : Exs)
  | listC (es : Exs)
  | tuple (es : Exs)
  | dictC
  | comp (slot : Nat) (elt iter : Ex)
  | compIf (slot : Nat) (elt iter cond : Ex)
  | len (e : Ex)
  | range1 (e : Ex)
  | range3 (a b c : Ex)
  | isi (e : Ex) (cs : List Nat)
  | abs (e : Ex)
  | listOf (e : Ex)
  | tupleOf (e : Ex)
  | mk (c : Nat) (es : Exs)
  | new (c : Nat)
  | call (f : Nat) (es : Exs)
  | callv (i : Nat) (es : Exs)
  | meth (o : Ex) (a : Nat) (es : Exs)
  | append (o e : Ex)
  | pop (o : Ex)
  | pop0 (o : Ex)
  | get (o k d : Ex)
inductive Exs where
  | nil
  | cons (e : Ex) (r : Exs)
end

mutual
inductive Sm where
  | assign (i : Nat) (e : Ex)
  | reslice (i : Nat) (n : Ex)
  | astore (o : Ex) (a : Nat) (e : Ex)
  | sstore (o i e : Ex)
  | unpack (is : List Nat) (e : Ex)
  | multi (is : List Nat) (es : Exs)
  | expr (e : Ex)
  | ret (e : Ex)
  | ifs (c : Ex) (a b : Sms)
  | while (c : Ex) (b : Sms)
  | for (i : Nat) (iter : Ex) (b : Sms)
inductive Sms where
  | nil
  | cons (s : Sm) (r : Sms)
end
end Mine
end
section
open PySem PySem.W PyProof.Rows
set_option Elab.async false
set_option maxRecDepth 100000
namespace Mine

inductive AttrR where
  | field (i : Nat) | const (v : PV) | meth (f : Nat) | no

/-! ## numbers of classes, attributes, defs -/
/-- the number of fields of a node class -/
noncomputable def arity (c : Nat) : Nat := (([1, 1, 1, 2, 2, 3, 4, 2, 1, 2, 3, 2, 5, 2, 2] : List Nat)[c]?).getD 0

noncomputable def attrTab : List (List (Nat × AttrR)) := [
  [(0, .const (.int 0)), (1, .field 0), (30, .meth 30)],
  [(0, .const (.int 1)), (2, .field 0), (30, .meth 30)],
  [(0, .const (.int 2)), (3, .field 0), (30, .meth 30)],
  [(0, .const (.int 3)), (2, .field 0), (1, .field 1), (30, .meth 31), (31, .meth 32)],
  [(0, .const (.int 4)), (3, .field 0), (1, .field 1), (30, .meth 33), (31, .meth 34)],
  [(0, .const (.int 6)), (4, .field 0), (5, .field 1), (6, .field 2), (30, .meth 35), (31, .meth 36)],
  [(0, .const (.int 7)), (7, .field 0), (8, .field 1), (9, .field 2), (10, .field 3), (30, .meth 37), (31, .meth 38), (32, .meth 39)],
  [(0, .const (.int 8)), (11, .field 0), (12, .field 1), (30, .meth 40), (31, .meth 41)],
  [(0, .const (.int 9)), (13, .field 0), (30, .meth 42), (31, .meth 43)],
  [(0, .const (.int 10)), (14, .field 0), (12, .field 1), (30, .meth 44), (31, .meth 45)],
  [(0, .const (.int 11)), (15, .field 0), (16, .field 1), (10, .field 2), (30, .meth 46), (31, .meth 47)],
  [(17, .field 0), (18, .field 1), (33, .meth 49), (7, .meth 50), (35, .meth 51)],
  [(21, .field 0), (22, .field 1), (23, .field 2), (24, .field 3), (25, .field 4), (36, .meth 57), (39, .meth 58), (40, .meth 59)],
  [(19, .field 0), (20, .field 1)],
  [(26, .field 0), (27, .field 1), (37, .meth 54), (38, .meth 55)]]
noncomputable def attrOf (c a : Nat) : AttrR := (((attrTab[c]?).getD []).lookup a).getD .no

/-- the number of the __init__ of a class whose things change -/
noncomputable def initOf : Nat → Option Nat
  | 11 => some 48 | 13 => some 52 | 14 => some 53 | 12 => some 56 | _ => none

/-- ints that stand at the top -/
noncomputable def gconst (i : Nat) : Option Int := ([0, 1, 2, 3, 4, 5, 6, 7, 8, 9, 10, 11, 46] : List Int)[i]?

/-! ## the meaning of the parts -/
noncomputable def br : Bool → Prop → Prop → Prop
  | true, t, _ => t
  | false, _, e => e

noncomputable def asB : XV → (Bool → Prop) → Prop
  | .p (.bool b), k => k b
  | _, _ => False
noncomputable def asI : PV → (Int → Prop) → Prop
  | .int i, k => k i
  | _, _ => False
noncomputable def asL : PV → (List PV → Prop) → Prop
  | .lst xs, k => k xs
  | _, _ => False
noncomputable def asT : PV → (List PV → Prop) → Prop
  | .tup xs, k => k xs
  | _, _ => False
noncomputable def asS : PV → (Str → Prop) → Prop
  | .str x, k => k x
  | _, _ => False
noncomputable def asBv : PV → (Bool → Prop) → Prop
  | .bool x, k => k x
  | _, _ => False
noncomputable def asP : XV → (PV → Prop) → Prop
  | .p v, k => k v
  | _, _ => False
noncomputable def asPs : List XV → (List PV → Prop) → Prop
  | [], k => k []
  | x :: r, k => asP x fun v => asPs r fun vs => k (v :: vs)

noncomputable def someP {α : Type} : Option α → (α → Prop) → Prop
  | some a, k => k a
  | none, _ => False

/-- a list's place reads as the list that it holds -/
noncomputable def look : XV → Sig → (PV → Prop) → Prop
  | .p v, _, k => k v
  | .c i, σ, k => match σ[i]? with
    | some (.list xs) => k (.lst xs)
    | _ => False
  | _, _, _ => False

noncomputable def onList : XV → Sig → (Nat → List PV → Prop) → Prop
  | .c i, σ, k => match σ[i]? with
    | some (.list xs) => k i xs
    | _ => False
  | _, _, _ => False
noncomputable def onDict : XV → Sig → (Nat → (Int → Option PV) → Nat → Prop) → Prop
  | .c i, σ, k => match σ[i]? with
    | some (.dict f n) => k i f n
    | _ => False
  | _, _, _ => False
noncomputable def onInst : XV → Sig → (Nat → Nat → List XV → Prop) → Prop
  | .c i, σ, k => match σ[i]? with
    | some (.inst c fs) => k i c fs
    | _ => False
  | _, _, _ => False

/-- sizes: no list, no dict grows beyond it -/
noncomputable def lim : Nat := 2 ^ 20

noncomputable def binP (o : BOp) (a b : PV) (k : PV → Prop) : Prop :=
  match o with
  | .add => (match a with
    | .int x => asI b fun y => k (.int (x + y))
    | .lst xs => asL b fun ys => xs.length + ys.length ≤ lim ∧ k (.lst (xs ++ ys))
    | .tup xs => asT b fun ys => xs.length + ys.length ≤ lim ∧ k (.tup (xs ++ ys))
    | _ => False)
  | .sub => asI a fun x => asI b fun y => k (.int (x - y))
  | .fdiv => asI a fun x => asI b fun y => (0 < y ∧ y ≤ lim) ∧ k (.int (x.fdiv y))
  | .mod => asI a fun x => asI b fun y => y ≠ 0 ∧ k (.int (x.fmod y))
  | .pow => asI a fun x => asI b fun y => (x = 10 ∧ y = 60) ∧ k (.int (10 ^ 60))
  | .mul => asS a fun x => asI b fun n => (x.length = 1 ∧ 0 ≤ n ∧ n ≤ 1000) ∧ k (.str (Txt.mul x n))

/-- plain data of it -/
noncomputable def toPy : PV → Option PyData
  | .none => some .none
  | .bool b => some (.bool b)
  | .int i => some (.int i)
  | .str x => some (.str x)
  | .tup xs => (toPys xs).map .tuple
  | .lst xs => (toPys xs).map .list
  | .gl _ => none
  | .obj _ _ => none
  | .rng _ _ _ => none
where toPys : List PV → Option (List PyData)
  | [] => some []
  | x :: r => match toPy x, toPys r with
    | some d, some ds => some (d :: ds)
    | _, _ => none

noncomputable def datP (a b : PV) (k : Bool → Prop) : Prop :=
  ∃ da db, ((toPy a = some da ∧ toPy b = some db) ∧ PySem.SeqAt.shaped da = true ∧ PySem.SeqAt.shaped db = true) ∧ k (PyData.eqv da db)

noncomputable def eqLP (xs : List PV) (k : Bool → Prop) : List PV → Prop
  | [] => k xs.isEmpty
  | y :: ys => datP (.lst xs) (.lst (y :: ys)) k
noncomputable def eqP (a b : PV) (k : Bool → Prop) : Prop :=
  match a with
  | .int x => asI b fun y => k (decide (x = y))
  | .bool x => asBv b fun y => k (x == y)
  | .str x => asS b fun y => k (decide (x = y))
  | .lst xs => asL b fun ys => eqLP xs k ys
  | .tup xs => asT b fun ys => datP (.tup xs) (.tup ys) k
  | _ => False

noncomputable def isP (a b : PV) (k : Bool → Prop) : Prop :=
  match b with
  | .none => (match a with
    | .none => k true
    | .int _ => k false | .bool _ => k false | .str _ => k false | .tup _ => k false | .lst _ => k false | .obj _ _ => k false
    | _ => False)
  | .obj _ _ => (match a with
    | .obj _ _ => ∀ t, (t = true → a = b) → k t
    | _ => False)
  | _ => False

noncomputable def toInts : List PV → Option (List Int)
  | [] => some []
  | .int i :: r => (toInts r).map (i :: ·)
  | _ :: _ => none

noncomputable def inP (a : PV) (b : XV) (σ : Sig) (k : Bool → Prop) : Prop :=
  asI a fun n => match b with
    | .p (.tup xs) => someP (toInts xs) fun ns => k (decide (n ∈ ns))
    | .p (.lst xs) => someP (toInts xs) fun ns => k (decide (n ∈ ns))
    | .c i => (match σ[i]? with
      | some (.dict f _) => k (f n).isSome
      | _ => False)
    | _ => False

noncomputable def cmpP (o : COp) (a b : XV) (σ : Sig) (k : Bool → Prop) : Prop :=
  match o with
  | .eq => look a σ fun x => look b σ fun y => eqP x y k
  | .ne => look a σ fun x => look b σ fun y => eqP x y fun t => k (!t)
  | .lt => asP a fun x => asP b fun y => asI x fun i => asI y fun j => k (decide (i < j))
  | .le => asP a fun x => asP b fun y => asI x fun i => asI y fun j => k (decide (i ≤ j))
  | .gt => asP a fun x => asP b fun y => asI x fun i => asI y fun j => k (decide (j < i))
  | .ge => asP a fun x => asP b fun y => asI x fun i => asI y fun j => k (decide (j ≤ i))
  | .is => asP a fun x => asP b fun y => isP x y k
  | .isnot => asP a fun x => asP b fun y => isP x y fun t => k (!t)
  | .isin => asP a fun x => inP x b σ k
  | .notin => asP a fun x => inP x b σ fun t => k (!t)

noncomputable def idx (xs : List PV) : Int → Option PV
  | .ofNat n => xs[n]?
  | .negSucc n => if n < xs.length then xs[xs.length - 1 - n]? else none

noncomputable def subP (a b : XV) (σ : Sig) (k : PV → Prop) : Prop :=
  match a with
  | .c i => (match σ[i]? with
    | some (.list xs) => asP b fun y => asI y fun n => n.natAbs ≤ lim ∧ someP (idx xs n) k
    | some (.dict f _) => asP b fun y => asI y fun n => someP (f n) k
    | _ => False)
  | .p (.lst xs) => asP b fun y => asI y fun n => n.natAbs ≤ lim ∧ someP (idx xs n) k
  | .p (.tup xs) => asP b fun y => asI y fun n => n.natAbs ≤ lim ∧ someP (idx xs n) k
  | _ => False

noncomputable def slTo (xs : List PV) : Int → List PV
  | .ofNat n => xs.take n
  | .negSucc n => xs.take (xs.length - (n + 1))

noncomputable def everyTwo {α : Type} : List α → List α
  | [] => []
  | [x] => [x]
  | x :: _ :: r => x :: everyTwo r

noncomputable def rangeL (lo hi st : Int) : List PV :=
  if st = 1 then (List.range (hi - lo).toNat).map fun (i : Nat) => PV.int (lo + (i : Int))
  else (List.range (lo - hi).toNat).map fun (i : Nat) => PV.int (lo - (i : Int))

noncomputable def items : XV → (List PV → Prop) → Prop
  | .p (.lst xs), k => k xs
  | .p (.tup xs), k => k xs
  | .p (.rng lo hi st), k => ((st = 1 ∨ st = -1) ∧ lo.natAbs ≤ lim ∧ hi.natAbs ≤ lim) ∧ k (rangeL lo hi st)
  | _, _ => False

noncomputable def attrP (v : XV) (a : Nat) (σ : Sig) (k : XV → Prop) : Prop :=
  match v with
  | .p (.obj c fs) => (match attrOf c a with
    | .field i => someP fs[i]? fun x => k (.p x)
    | .const x => k (.p x)
    | _ => False)
  | .c i => (match σ[i]? with
    | some (.inst c fs) => (match attrOf c a with
      | .field j => someP fs[j]? k
      | .meth f => k (.bm f i)
      | _ => False)
    | _ => False)
  | _ => False

noncomputable def methP (v : XV) (a : Nat) (σ : Sig) (k : Nat → Prop) : Prop :=
  match v with
  | .p (.obj c _) => (match attrOf c a with | .meth f => k f | _ => False)
  | .c i => (match σ[i]? with
    | some (.inst c _) => (match attrOf c a with | .meth f => k f | _ => False)
    | _ => False)
  | _ => False

/-- isinstance of a frozen value: the numbers 0 .. 26 are own classes, 27 is bool -/
noncomputable def isiF (v : PV) (c : Nat) : Option Bool :=
  match v with
  | .obj c' _ => if c = 27 then some false else some (c' == c)
  | .int _ => some false
  | .bool _ => some (c == 27)
  | .none => some false
  | .str _ => none
  | .gl _ => none
  | .tup _ => none
  | .lst _ => none
  | .rng _ _ _ => none

noncomputable def isiP (v : XV) : List Nat → (Bool → Prop) → Prop
  | [], k => k false
  | c :: r, k => asP v fun x => someP (isiF x c) fun t => br t (k true) (isiP v r k)

noncomputable abbrev CP := Nat → List XV → Sig → (XV → Sig → Prop) → Prop

noncomputable def compP (body : PV → Sig → (PV → Sig → Prop) → Prop) : List PV → Sig → (List PV → Sig → Prop) → Prop
  | [], σ, k => k [] σ
  | x :: xs, σ, k => body x σ fun y σ₁ => compP body xs σ₁ fun ys σ₂ => k (y :: ys) σ₂
noncomputable def compIfP (test : PV → Sig → (Bool → Sig → Prop) → Prop) (body : PV → Sig → (PV → Sig → Prop) → Prop) : List PV → Sig → (List PV → Sig → Prop) → Prop
  | [], σ, k => k [] σ
  | x :: xs, σ, k => test x σ fun t σ₁ => br t (body x σ₁ fun y σ₂ => compIfP test body xs σ₂ fun ys σ₃ => k (y :: ys) σ₃) (compIfP test body xs σ₁ k)

noncomputable abbrev EP := Sig → (XV → Sig → Prop) → Prop
noncomputable abbrev KX := XV → Sig → Prop
noncomputable abbrev KXs := List XV → Sig → Prop
inductive Fl where
  | next
  | ret (v : XV)
noncomputable abbrev KF := Fl → Locs → Sig → Prop
noncomputable def seqK (r : Locs → Sig → KF → Prop) (k : KF) : KF := fun f L₁ σ₁ => match f with
  | .next => r L₁ σ₁ k
  | .ret v => k (.ret v) L₁ σ₁

noncomputable def uniq (i c : Nat) (L : Locs) (σ : Sig) : Bool :=
  ((L.zipIdx).all fun x => x.2 == i || (match x.1 with
    | some (.c j) => j != c
    | some (.bm _ j) => j != c
    | _ => true)) &&
  (σ.all fun x => match x with
    | .inst _ fs => fs.all fun y => (match y with
      | .c j => j != c
      | .bm _ j => j != c
      | _ => true)
    | _ => true)

noncomputable def setAll : List Nat → List XV → Locs → (Locs → Prop) → Prop
  | [], [], L, k => k L
  | i :: is, v :: vs, L, k => setAll is vs (L.set i (some v)) k
  | _, _, _, _ => False

noncomputable def whileP (test : Locs → Sig → (XV → Sig → Prop) → Prop) (body : Locs → Sig → (Fl → Locs → Sig → Prop) → Prop) : Nat → Locs → Sig → (Fl → Locs → Sig → Prop) → Prop
  | 0, _, _, _ => False
  | n + 1, L, σ, k => test L σ fun v σ₁ => asB v fun t => br t
      (body L σ₁ (seqK (whileP test body n) k))
      (k .next L σ₁)
noncomputable def forP (i : Nat) (body : Locs → Sig → (Fl → Locs → Sig → Prop) → Prop) : List PV → Locs → Sig → (Fl → Locs → Sig → Prop) → Prop
  | [], L, σ, k => k .next L σ
  | x :: xs, L, σ, k => body (L.set i (some (.p x))) σ (seqK (forP i body xs) k)

/-- a value that may be dropped -/
noncomputable def dropOk : XV → Prop
  | .p .none => True | .p (.int _) => True | .p (.bool _) => True | .p (.str _) => True
  | _ => False

/-! what goes on behind a part -/
noncomputable def attrK (a : Nat) (k : KX) : KX := fun v σ₁ => attrP v a σ₁ fun x => k x σ₁
noncomputable def binK2 (o : BOp) (a : XV) (k : KX) : KX := fun b σ₂ => asP a fun x => asP b fun y => binP o x y fun v => k (.p v) σ₂
noncomputable def binK (r : EP) (o : BOp) (k : KX) : KX := fun a σ₁ => r σ₁ (binK2 o a k)
noncomputable def cmpK2 (o : COp) (a : XV) (k : KX) : KX := fun b σ₂ => cmpP o a b σ₂ fun t => k (.p (.bool t)) σ₂
noncomputable def cmpK (r : EP) (o : COp) (k : KX) : KX := fun a σ₁ => r σ₁ (cmpK2 o a k)
noncomputable def notK (k : KX) : KX := fun v σ₁ => asB v fun t => k (.p (.bool (!t))) σ₁
noncomputable def iteK (a b : EP) (k : KX) : KX := fun v σ₁ => asB v fun t => br t (a σ₁ k) (b σ₁ k)
noncomputable def subK2 (a : XV) (k : KX) : KX := fun b σ₂ => subP a b σ₂ fun v => k (.p v) σ₂
noncomputable def subK (i : EP) (k : KX) : KX := fun a σ₁ => i σ₁ (subK2 a k)
noncomputable def listK (k : KX) : KXs := fun vs σ₁ => asPs vs fun xs => k (.p (.lst xs)) σ₁
noncomputable def listCK (k : KX) : KXs := fun vs σ₁ => asPs vs fun xs => k (.c σ₁.length) (σ₁ ++ [.list xs])
noncomputable def tupK (k : KX) : KXs := fun vs σ₁ => asPs vs fun xs => k (.p (.tup xs)) σ₁
noncomputable def mkK (c : Nat) (k : KX) : KXs := fun vs σ₁ => asPs vs fun xs => (c < 11 ∧ xs.length = arity c) ∧ k (.p (.obj c xs)) σ₁
noncomputable def newK (n : Nat) (k : KX) : KX := fun v σ₁ => v = .p .none ∧ k (.c n) σ₁
noncomputable def callK (cp : CP) (f : Nat) (k : KX) : KXs := fun vs σ₁ => cp f vs σ₁ k
noncomputable def callvK (cp : CP) (f j : Nat) (k : KX) : KXs := fun vs σ₁ => cp f (.c j :: vs) σ₁ k
noncomputable def methK2 (cp : CP) (f : Nat) (v : XV) (k : KX) : KXs := fun vs σ₂ => cp f (v :: vs) σ₂ k
noncomputable def methK (cp : CP) (es : Sig → KXs → Prop) (a : Nat) (k : KX) : KX := fun v σ₁ => methP v a σ₁ fun f => es σ₁ (methK2 cp f v k)
noncomputable def isiK (cs : List Nat) (k : KX) : KX := fun v σ₁ => isiP v cs fun t => k (.p (.bool t)) σ₁
noncomputable def appK2 (v : XV) (k : KX) : KX := fun a σ₂ => asP a fun x => onList v σ₂ fun i xs => xs.length ≤ lim ∧ k (.p .none) (σ₂.set i (.list (xs ++ [x])))
noncomputable def appK (e : EP) (k : KX) : KX := fun v σ₁ => onList v σ₁ fun _ _ => e σ₁ (appK2 v k)
noncomputable def popK (k : KX) : KX := fun v σ₁ => onList v σ₁ fun i xs => xs.length ≤ lim ∧ ∃ ys y, xs = ys ++ [y] ∧ k (.p y) (σ₁.set i (.list ys))
noncomputable def getK3 (v a : XV) (k : KX) : KX := fun b σ₃ => asP a fun x => asI x fun n => asP b fun y => onDict v σ₃ fun _ f _ => k (.p ((f n).getD y)) σ₃
noncomputable def getK2 (d : EP) (v : XV) (k : KX) : KX := fun a σ₂ => d σ₂ (getK3 v a k)
noncomputable def getK (e d : EP) (k : KX) : KX := fun v σ₁ => onDict v σ₁ fun _ _ _ => e σ₁ (getK2 d v k)
noncomputable def bothK (k : KX) : KX := fun v σ₁ => asB v fun t => k (.p (.bool t)) σ₁
noncomputable def andK (r : EP) (k : KX) : KX := fun v σ₁ => asB v fun t => br t (r σ₁ k) (k (.p (.bool false)) σ₁)
noncomputable def orK (r : EP) (k : KX) : KX := fun v σ₁ => asB v fun t => br t (k (.p (.bool true)) σ₁) (r σ₁ k)
noncomputable def consK (v : XV) (k : KXs) : KXs := fun vs σ₂ => k (v :: vs) σ₂
noncomputable def argK (r : Sig → KXs → Prop) (k : KXs) : KX := fun v σ₁ => r σ₁ (consK v k)
noncomputable def asgK (i : Nat) (L : Locs) (k : KF) : KX := fun v σ₁ => k .next (L.set i (some v)) σ₁
noncomputable def expK (L : Locs) (k : KF) : KX := fun v σ₁ => dropOk v ∧ k .next L σ₁
noncomputable def retK' (L : Locs) (k : KF) : KX := fun v σ₁ => k (.ret v) L σ₁
noncomputable def ifsK (a b : Locs → Sig → KF → Prop) (L : Locs) (k : KF) : KX := fun v σ₁ => asB v fun t => br t (a L σ₁ k) (b L σ₁ k)
noncomputable def multiK (is : List Nat) (L : Locs) (k : KF) : KXs := fun vs σ₁ => setAll is vs L fun L₁ => k .next L₁ σ₁

mutual
noncomputable def vcE (cp : CP) : Ex → Locs → Sig → (XV → Sig → Prop) → Prop
  | .none, _, σ, k => k (.p .none) σ
  | .bool b, _, σ, k => k (.p (.bool b)) σ
  | .int i, _, σ, k => k (.p (.int i)) σ
  | .neg i, _, σ, k => k (.p (.int (-i))) σ
  | .str s, _, σ, k => k (.p (.str s)) σ
  | .glob i, _, σ, k => someP (gconst i) fun n => k (.p (.int n)) σ
  | .var i, L, σ, k => match L[i]? with
    | some (some v) => k v σ
    | _ => False
  | .attr e a, L, σ, k => vcE cp e L σ (attrK a k)
  | .bin o l r, L, σ, k => vcE cp l L σ (binK (vcE cp r L) o k)
  | .addC l r, L, σ, k => vcE cp l L σ fun a σ₁ => vcE cp r L σ₁ fun b σ₂ => asP a fun x => asP b fun y => asL x fun xs => asL y fun ys => xs.length + ys.length ≤ lim ∧ k (.c σ₂.length) (σ₂ ++ [.list (xs ++ ys)])
  | .cmp o l r, L, σ, k => vcE cp l L σ (cmpK (vcE cp r L) o k)
  | .not e, L, σ, k => vcE cp e L σ (notK k)
  | .and es, L, σ, k => vcAnd cp es L σ k
  | .or es, L, σ, k => vcOr cp es L σ k
  | .ite c a b, L, σ, k => vcE cp c L σ (iteK (vcE cp a L) (vcE cp b L) k)
  | .sub e i, L, σ, k => vcE cp e L σ (subK (vcE cp i L) k)
  | .slcTo e n, L, σ, k => vcE cp e L σ fun a σ₁ => vcE cp n L σ₁ fun b σ₂ => look a σ₂ fun x => asP b fun y => asI y fun i => asL x fun xs => xs.length ≤ lim ∧ k (.p (.lst (slTo xs i))) σ₂
  | .slcFrom e n, L, σ, k => vcE cp e L σ fun a σ₁ => vcE cp n L σ₁ fun b σ₂ => look a σ₂ fun x => asP b fun y => asI y fun i => match x, i with
    | .lst xs, .ofNat j => xs.length ≤ lim ∧ k (.p (.lst (xs.drop j))) σ₂
    | _, _ => False
  | .slcRev e, L, σ, k => vcE cp e L σ fun a σ₁ => look a σ₁ fun x => asL x fun xs => xs.length ≤ lim ∧ k (.p (.lst xs.reverse)) σ₁
  | .slcTwo e, L, σ, k => vcE cp e L σ fun a σ₁ => look a σ₁ fun x => asL x fun xs => xs.length ≤ lim ∧ k (.p (.lst (everyTwo xs))) σ₁
  | .list es, L, σ, k => vcEs cp es L σ (listK k)
  | .listC es, L, σ, k => vcEs cp es L σ (listCK k)
  | .tuple es, L, σ, k => vcEs cp es L σ (tupK k)
  | .dictC, _, σ, k => k (.c σ.length) (σ ++ [.dict (fun _ => none) 0])
  | .comp slot elt iter, L, σ, k => vcE cp iter L σ fun v σ₁ => items v fun xs => xs.length ≤ lim ∧
      compP (fun x σ k => vcE cp elt (L.set slot (some (.p x))) σ fun y σ' => asP y fun w => k w σ') xs σ₁ fun ys σ₂ => k (.p (.lst ys)) σ₂
  | .compIf slot elt iter cond, L, σ, k => vcE cp iter L σ fun v σ₁ => items v fun xs => xs.length ≤ lim ∧
      compIfP (fun x σ k => vcE cp cond (L.set slot (some (.p x))) σ fun y σ' => asB y fun t => k t σ')
        (fun x σ k => vcE cp elt (L.set slot (some (.p x))) σ fun y σ' => asP y fun w => k w σ') xs σ₁ fun ys σ₂ => k (.p (.lst ys)) σ₂
  | .len e, L, σ, k => vcE cp e L σ fun a σ₁ => look a σ₁ fun x => match x with
    | .lst xs => xs.length ≤ lim ∧ k (.p (.int xs.length)) σ₁
    | .tup xs => xs.length ≤ lim ∧ k (.p (.int xs.length)) σ₁
    | _ => False
  | .range1 e, L, σ, k => vcE cp e L σ fun a σ₁ => asP a fun x => asI x fun n => n ≤ lim ∧ k (.p (.rng 0 n 1)) σ₁
  | .range3 a b c, L, σ, k => vcE cp a L σ fun u σ₁ => vcE cp b L σ₁ fun v σ₂ => vcE cp c L σ₂ fun w σ₃ => asP u fun x => asP v fun y => asP w fun z =>
      asI x fun i => asI y fun j => asI z fun l => (j = -1 ∧ l = -1 ∧ -1 ≤ i ∧ i ≤ lim) ∧ k (.p (.rng i j l)) σ₃
  | .isi e cs, L, σ, k => vcE cp e L σ (isiK cs k)
  | .abs e, L, σ, k => vcE cp e L σ fun a σ₁ => asP a fun x => asI x fun n => k (.p (.int n.natAbs)) σ₁
  | .listOf e, L, σ, k => vcE cp e L σ fun a σ₁ => asP a fun x => match x with
    | .lst xs => xs.length ≤ lim ∧ k (.p (.lst xs)) σ₁
    | .tup xs => xs.length ≤ lim ∧ k (.p (.lst xs)) σ₁
    | _ => False
  | .tupleOf e, L, σ, k => vcE cp e L σ fun a σ₁ => asP a fun x => asL x fun xs => xs.length ≤ lim ∧ k (.p (.tup xs)) σ₁
  | .mk c es, L, σ, k => vcEs cp es L σ (mkK c k)
  | .new c, _, σ, k => someP (initOf c) fun f => cp f [.c σ.length] (σ ++ [.inst c []]) (newK σ.length k)
  | .call f es, L, σ, k => vcEs cp es L σ (callK cp f k)
  | .callv i es, L, σ, k => match L[i]? with
    | some (some (.bm f j)) => f < 60 ∧ vcEs cp es L σ (callvK cp f j k)
    | _ => False
  | .meth o a es, L, σ, k => vcE cp o L σ (methK cp (vcEs cp es L) a k)
  | .append o e, L, σ, k => vcE cp o L σ (appK (vcE cp e L) k)
  | .pop o, L, σ, k => vcE cp o L σ (popK k)
  | .pop0 o, L, σ, k => vcE cp o L σ fun v σ₁ => onList v σ₁ fun i xs => match xs with
    | y :: ys => xs.length ≤ lim ∧ k (.p y) (σ₁.set i (.list ys))
    | [] => False
  | .get o e d, L, σ, k => vcE cp o L σ (getK (vcE cp e L) (vcE cp d L) k)
noncomputable def vcAnd (cp : CP) : Exs → Locs → Sig → (XV → Sig → Prop) → Prop
  | .nil, _, _, _ => False
  | .cons e .nil, L, σ, k => vcE cp e L σ (bothK k)
  | .cons e (.cons e' r), L, σ, k => vcE cp e L σ (andK (vcAnd cp (.cons e' r) L) k)
noncomputable def vcOr (cp : CP) : Exs → Locs → Sig → (XV → Sig → Prop) → Prop
  | .nil, _, _, _ => False
  | .cons e .nil, L, σ, k => vcE cp e L σ (bothK k)
  | .cons e (.cons e' r), L, σ, k => vcE cp e L σ (orK (vcOr cp (.cons e' r) L) k)
noncomputable def vcEs (cp : CP) : Exs → Locs → Sig → (List XV → Sig → Prop) → Prop
  | .nil, _, σ, k => k [] σ
  | .cons e r, L, σ, k => vcE cp e L σ (argK (vcEs cp r L) k)
end

mutual
noncomputable def vcS (cp : CP) (n₀ : Nat) : Sm → Locs → Sig → (Fl → Locs → Sig → Prop) → Prop
  | .assign i e, L, σ, k => vcE cp e L σ (asgK i L k)
  | .reslice i n, L, σ, k => match L[i]? with
    | some (some (.c c)) => vcE cp n L σ fun b σ₁ => asP b fun y => asI y fun m => (n₀ ≤ c ∧ uniq i c L σ₁ = true) ∧ onList (.c c) σ₁ fun _ xs => xs.length ≤ lim ∧ k .next L (σ₁.set c (.list (slTo xs m)))
    | _ => False
  | .astore o a e, L, σ, k => vcE cp e L σ fun v σ₁ => vcE cp o L σ₁ fun u σ₂ => onInst u σ₂ fun i c fs => match attrOf c a with
    | .field j => j ≤ fs.length ∧ k .next L (σ₂.set i (.inst c (if j < fs.length then fs.set j v else fs ++ [v])))
    | _ => False
  | .sstore o i e, L, σ, k => vcE cp e L σ fun v σ₁ => vcE cp o L σ₁ fun u σ₂ => vcE cp i L σ₂ fun b σ₃ => asP v fun x => asP b fun y => asI y fun n => match u with
    | .c c => (match σ₃[c]? with
      | some (.list xs) => (match n with
        | .ofNat m => (m < xs.length ∧ m ≤ lim) ∧ k .next L (σ₃.set c (.list (xs.set m x)))
        | _ => False)
      | some (.dict f sz) => sz ≤ lim ∧ k .next L (σ₃.set c (.dict (fun z => if z = n then some x else f z) (sz + 1)))
      | _ => False)
    | _ => False
  | .unpack is e, L, σ, k => vcE cp e L σ fun v σ₁ => asP v fun y => asT y fun xs => setAll is (xs.map .p) L fun L₁ => k .next L₁ σ₁
  | .multi is es, L, σ, k => vcEs cp es L σ (multiK is L k)
  | .expr e, L, σ, k => vcE cp e L σ (expK L k)
  | .ret e, L, σ, k => vcE cp e L σ (retK' L k)
  | .ifs c a b, L, σ, k => vcE cp c L σ (ifsK (vcSs cp n₀ a) (vcSs cp n₀ b) L k)
  | .while c b, L, σ, k => ∃ n, whileP (vcE cp c) (vcSs cp n₀ b) n L σ k
  | .for i iter b, L, σ, k => vcE cp iter L σ fun v σ₁ => items v fun xs => xs.length ≤ lim ∧ forP i (vcSs cp n₀ b) xs L σ₁ k
noncomputable def vcSs (cp : CP) (n₀ : Nat) : Sms → Locs → Sig → (Fl → Locs → Sig → Prop) → Prop
  | .nil, L, σ, k => k .next L σ
  | .cons s r, L, σ, k => vcS cp n₀ s L σ (seqK (vcSs cp n₀ r) k)
end
end Mine
end
section
open PySem PySem.W PyProof.Rows
set_option Elab.async false
set_option maxRecDepth 100000
namespace Mine

/-! ## addresses and names of the text's own things -/
noncomputable def clsTab : List (String × Addr) := [("Const", 66), ("Local", 85), ("Global", 104), ("SetLocal", 137), ("SetGlobal", 170), ("If", 203), ("Lambda", 250), ("Call", 283), ("Seq", 316), ("Prim", 349), ("Fix", 382),
  ("Renaming", 448), ("Names", 966), ("SymbolTable", 560), ("Likeness", 868),
  ("Pair", 581), ("Symbol", 497), ("Special", 476), ("Char", 602), ("Text", 623), ("Vector", 644), ("Procedure", 728), ("Promise", 686), ("Box", 665), ("PortRef", 707), ("Real", 756), ("Ratio", 784)]
noncomputable def clsAddr (c : Nat) : Addr := ((clsTab[c]?).map (·.2)).getD 0
noncomputable def clsName (c : Nat) : Str := Str.ofString (((clsTab[c]?).map (·.1)).getD "")

noncomputable def fnTab : List (String × Addr) := [
  ("_law_draw", 977), ("_law_deck_of", 982), ("_law_one", 989), ("_law_new", 996), ("_law_lam", 1001), ("_law_node_of", 1006), ("_law_shape", 1011), ("_law_numbers_in", 1018), ("_law_bare", 1023), ("_law_is_pairing", 1030),
  ("_law_are_same", 1037), ("_law_bound_in", 1044), ("_law_otherwise", 1051), ("law", 1056),
  ("binders_of", 391), ("are_same_list", 398), ("rebuilt", 405), ("all_nodes", 412), ("renumbered", 459), ("kind_word", 739), ("is_inexact", 816), ("same_number", 823), ("is_equal_exact", 809), ("top_of", 795), ("bottom_of", 802),
  ("are_same_atoms", 830), ("same_datum", 837), ("heads_alike", 879), ("same_core", 886), ("same_real", 767),
  ("Node.parts", 35), ("SetLocal.parts", 127), ("SetLocal.with_parts", 134), ("SetGlobal.parts", 160), ("SetGlobal.with_parts", 167), ("If.parts", 193), ("If.with_parts", 200), ("Lambda.parts", 226), ("Lambda.with_parts", 233), ("Lambda.binders", 240),
  ("Call.parts", 273), ("Call.with_parts", 280), ("Seq.parts", 306), ("Seq.with_parts", 313), ("Prim.parts", 339), ("Prim.with_parts", 346), ("Fix.parts", 372), ("Fix.with_parts", 379),
  ("Renaming.__init__", 426), ("Renaming.local", 433), ("Renaming.label", 440), ("Renaming.turned", 445), ("SymbolTable.__init__", 515), ("Likeness.__init__", 851), ("Likeness.goes", 858), ("Likeness.all_go", 865),
  ("Names.__init__", 900), ("Names.fresh", 907), ("Names.set_title", 935), ("Names.title_of", 942),
  ("Const.__init__", 63), ("Local.__init__", 82), ("Global.__init__", 101), ("SetLocal.__init__", 120), ("SetGlobal.__init__", 153), ("If.__init__", 186), ("Lambda.__init__", 219), ("Call.__init__", 266), ("Seq.__init__", 299), ("Prim.__init__", 332), ("Fix.__init__", 365)]
noncomputable def fnAddr (f : Nat) : Addr := ((fnTab[f]?).map (·.2)).getD 0
noncomputable def fnName (f : Nat) : Str := Str.ofString (((fnTab[f]?).map (·.1)).getD "")

noncomputable def fldNames : Nat → List Str
  | 0 => [Str.ofString "value"]
  | 1 => [Str.ofString "number"]
  | 2 => [Str.ofString "symbol"]
  | 3 => [Str.ofString "number", Str.ofString "value"]
  | 4 => [Str.ofString "symbol", Str.ofString "value"]
  | 5 => [Str.ofString "test", Str.ofString "yes", Str.ofString "no"]
  | 6 => [Str.ofString "label", Str.ofString "params", Str.ofString "rest", Str.ofString "body"]
  | 7 => [Str.ofString "operator", Str.ofString "operands"]
  | 8 => [Str.ofString "items"]
  | 9 => [Str.ofString "op", Str.ofString "operands"]
  | 10 => [Str.ofString "numbers", Str.ofString "lambdas", Str.ofString "body"]
  | 11 => [Str.ofString "locals", Str.ofString "labels"]
  | 12 => [Str.ofString "table", Str.ofString "last", Str.ofString "titles", Str.ofString "ops", Str.ofString "root"]
  | 13 => [Str.ofString "rows", Str.ofString "by_text"]
  | 14 => [Str.ofString "there", Str.ofString "back"]
  | _ => []

noncomputable def attrNames : List String := ["kind", "value", "number", "symbol", "test", "yes", "no", "label", "params", "rest", "body", "operator", "operands", "items", "op", "numbers", "lambdas", "locals", "labels", "rows", "by_text", "table", "last", "titles", "ops", "root", "there", "back", "", "", "parts", "with_parts", "binders", "local", "", "turned", "fresh", "goes", "all_go", "set_title", "title_of", "", "", "", "", "", "", "", "", "", "mantissa", "exponent", "car", "cdr", "things", "codes", "title", "top", "bottom", "code"]
noncomputable def attrName (a : Nat) : Str := Str.ofString ((attrNames[a]?).getD "")

noncomputable def gname (i : Nat) : Str := Str.ofString ((["CONST", "LOCAL", "GLOBAL", "SET_LOCAL", "SET_GLOBAL", "DEFINE", "IF", "LAMBDA", "CALL", "SEQ", "PRIM", "FIX", "LIST"][i]?).getD "")

/-! ## how a heap bears abstract things -/
noncomputable abbrev Fz := Addr → Option Obj
noncomputable abbrev Rh := List (Addr × Addr)

inductive Ents : List Str → List DictEntry → List Value → Prop
  | nil : Ents [] [] []
  | cons {n ns h t v es vs} : Ents ns es vs → Ents (n :: ns) (⟨h, .str n t, v⟩ :: es) (v :: vs)

mutual
inductive RV (φ : Fz) : PV → Value → Prop
  | none : RV φ .none .none
  | bool (b) : RV φ (.bool b) (.bool b)
  | int (i t) : RV φ (.int i) (.int i t)
  | str (x t) : RV φ (.str x) (.str x t)
  | tup {xs vs a n} : φ a = some { cls := .type "tuple", data := .seq vs n } → RVs φ xs vs.toList → RV φ (.tup xs) (.ref a)
  | lst {xs vs a n} : φ a = some { cls := .type "list", data := .seq vs n } → RVs φ xs vs.toList → RV φ (.lst xs) (.ref a)
  | obj {c fs a d es n vs} : c < 11 → φ a = some (instObj (clsAddr c) d) → φ d = some (dictOf es n) → Ents (fldNames c) es vs → RVs φ fs vs → RV φ (.obj c fs) (.ref a)
  | rng {lo hi st a t u v} : φ a = some { cls := .type "range", dict := Option.none, data := .fields #[.int lo t, .int hi u, .int st v], slots := #[] } → RV φ (.rng lo hi st) (.ref a)
inductive RVs (φ : Fz) : List PV → List Value → Prop
  | nil : RVs φ [] []
  | cons {x xs v vs} : RV φ x v → RVs φ xs vs → RVs φ (x :: xs) (v :: vs)
end

noncomputable def FzLe (φ φ' : Fz) : Prop := ∀ a o, φ a = some o → φ' a = some o
theorem FzLe.refl (φ : Fz) : FzLe φ φ := fun _ _ h => h
theorem FzLe.trans {φ₁ φ₂ φ₃ : Fz} (h : FzLe φ₁ φ₂) (k : FzLe φ₂ φ₃) : FzLe φ₁ φ₃ := fun a o e => k a o (h a o e)

theorem RV.mono {φ φ' : Fz} (k : FzLe φ φ') {x v} (h : RV φ x v) : RV φ' x v :=
  RV.rec (motive_1 := fun x v _ => RV φ' x v) (motive_2 := fun xs vs _ => RVs φ' xs vs) .none .bool .int .str (fun h _ r => .tup (k _ _ h) r) (fun h _ r => .lst (k _ _ h) r)
    (fun h0 h1 h2 h3 _ r => .obj h0 (k _ _ h1) (k _ _ h2) h3 r) (fun h => .rng (k _ _ h)) .nil (fun _ _ a b => .cons a b) h
/-- lists of values, by their items -/
theorem RVs.ind {φ : Fz} {M : List PV → List Value → Prop} (n : M [] []) (c : ∀ {x xs v vs}, RV φ x v → RVs φ xs vs → M xs vs → M (x :: xs) (v :: vs)) {x v} (h : RVs φ x v) : M x v :=
  RVs.rec (motive_1 := fun _ _ _ => True) (motive_2 := fun xs vs _ => M xs vs) trivial (fun _ => trivial) (fun _ _ => trivial) (fun _ _ => trivial) (fun _ _ _ => trivial) (fun _ _ _ => trivial) (fun _ _ _ _ _ _ => trivial) (fun _ => trivial)
    n (fun a b _ i => c a b i) h
theorem RVs.mono {φ φ' : Fz} (k : FzLe φ φ') {x v} (h : RVs φ x v) : RVs φ' x v := RVs.ind (M := fun xs vs => RVs φ' xs vs) .nil (fun a _ i => .cons (a.mono k) i) h
theorem clsAddr_inj' : ∀ c, c < 11 → ∀ c', c' < 11 → clsAddr c = clsAddr c' → c = c' := by decide
theorem clsAddr_inj {c c' : Nat} (h : c < 11) (h' : c' < 11) (e : clsAddr c = clsAddr c') : c = c' := clsAddr_inj' c h c' h' e
theorem Ents.inv {ns es vs} (h : Ents ns es vs) : match es with
    | [] => vs = []
    | e :: r => ∃ n nr vs', ns = n :: nr ∧ vs = e.val :: vs' ∧ Ents nr r vs' := by
  cases h with
  | nil => rfl
  | cons a => exact ⟨_, _, _, rfl, rfl, a⟩
theorem Ents.func {ns es vs} (h : Ents ns es vs) : ∀ {ws}, Ents ns es ws → vs = ws := by
  induction h with
  | nil => intro ws k; exact k.inv.symm
  | cons _ ih =>
    intro ws k
    obtain ⟨_, _, _, e, rfl, b⟩ := k.inv
    rw [← (List.cons.inj e).2] at b
    rw [ih b]

/-! ## lists side by side -/
inductive All2 {α β : Type} (P : α → β → Prop) : List α → List β → Prop
  | nil : All2 P [] []
  | cons {x xs v vs} : P x v → All2 P xs vs → All2 P (x :: xs) (v :: vs)
section
variable {α β : Type} {P Q : α → β → Prop} {xs ys : List α} {vs ws : List β}
theorem All2.length (h : All2 P xs vs) : xs.length = vs.length := by
  induction h with
  | nil => rfl
  | cons _ _ ih => exact congrArg (· + 1) ih
theorem All2.mono (k : ∀ x v, P x v → Q x v) (h : All2 P xs vs) : All2 Q xs vs := by
  induction h with
  | nil => exact .nil
  | cons a _ ih => exact .cons (k _ _ a) ih
theorem All2.get (h : All2 P xs vs) : ∀ {i : Nat} {x : α}, xs[i]? = some x → ∃ v, vs[i]? = some v ∧ P x v := by
  induction h with
  | nil => intro i x e; cases e
  | cons a _ ih =>
    intro i x e
    cases i with
    | zero => cases e; exact ⟨_, rfl, a⟩
    | succ i => exact ih (i := i) e
theorem All2.append (h : All2 P xs vs) (k : All2 P ys ws) : All2 P (xs ++ ys) (vs ++ ws) := by
  induction h with
  | nil => exact k
  | cons a _ ih => exact .cons a ih
theorem All2.snoc {x : α} {v : β} (h : All2 P xs vs) (k : P x v) : All2 P (xs ++ [x]) (vs ++ [v]) := h.append (.cons k .nil)
theorem All2.take (h : All2 P xs vs) : ∀ n, All2 P (xs.take n) (vs.take n) := by
  induction h with
  | nil => intro n; rw [List.take_nil, List.take_nil]; exact .nil
  | cons a _ ih => intro n; cases n with
    | zero => exact .nil
    | succ n => exact .cons a (ih n)
theorem All2.drop (h : All2 P xs vs) : ∀ n, All2 P (xs.drop n) (vs.drop n) := by
  induction h with
  | nil => intro n; rw [List.drop_nil, List.drop_nil]; exact .nil
  | cons a r ih => intro n; cases n with
    | zero => exact .cons a r
    | succ n => exact ih n
theorem All2.reverse (h : All2 P xs vs) : All2 P xs.reverse vs.reverse := by
  induction h with
  | nil => exact .nil
  | cons a _ ih => rw [List.reverse_cons, List.reverse_cons]; exact ih.snoc a
theorem All2.set (h : All2 P xs vs) : ∀ n {x v}, P x v → All2 P (xs.set n x) (vs.set n v) := by
  induction h with
  | nil => intro n x v _; exact .nil
  | cons a r ih => intro n x v k; cases n with
    | zero => exact .cons k r
    | succ n => exact .cons a (ih n k)
theorem All2.split : ∀ {xs ys : List α} {vs : List β}, All2 P (xs ++ ys) vs → ∃ us ws, vs = us ++ ws ∧ All2 P xs us ∧ All2 P ys ws := by
  intro xs
  induction xs with
  | nil => intro ys vs h; exact ⟨[], vs, rfl, .nil, h⟩
  | cons x xs ih =>
    intro ys vs h
    cases h with
    | cons a r =>
      obtain ⟨us, ws, rfl, h1, h2⟩ := ih r
      exact ⟨_ :: us, ws, rfl, .cons a h1, h2⟩
theorem All2.everyTwo (h : All2 P xs vs) : All2 P (everyTwo xs) (everyTwo vs) ∧ ∀ x v, P x v → All2 P (Mine.everyTwo (x :: xs)) (Mine.everyTwo (v :: vs)) := by
  induction h with
  | nil => exact ⟨.nil, fun x v k => .cons k .nil⟩
  | cons a _ ih => exact ⟨ih.2 _ _ a, fun x v k => .cons k ih.1⟩
end
/-- what kind of thing it is -/
noncomputable def ckO (o : Obj) : String := match o.cls with
  | .type x => x
  | _ => ""
theorem ck_eq {φ : Fz} {a : Addr} {o o' : Obj} (h : φ a = some o) (h' : φ a = some o') : o = o' := Option.some.inj (h.symm.trans h')
theorem clash {φ : Fz} {a : Addr} {o o' : Obj} (h : φ a = some o) (h' : φ a = some o') {M : Prop} (e : (ckO o == ckO o') = false) : M := absurd (congrArg ckO (ck_eq h h')) (beq_eq_false_iff_ne.mp e)
noncomputable def seqO (o : Obj) : List Value := match o.data with
  | .seq vs _ => vs.toList
  | _ => []
noncomputable def dictO (o : Obj) : Option Addr := o.dict
noncomputable def entsO (o : Obj) : List DictEntry := match o.data with
  | .dict es _ => es.toList
  | _ => []
noncomputable def clsO (o : Obj) : Addr := match o.cls with
  | .ref x => x
  | _ => 0
noncomputable def rngO (o : Obj) : List Int := match o.data with
  | .fields vs => vs.toList.map fun v => match v with
    | .int i _ => i
    | _ => 0
  | _ => []
theorem seq_to {φ : Fz} {c d : Value} {vs us : Array Value} {n m : Nat} {ys : List PV} (e : ({ cls := c, data := .seq vs n } : Obj) = { cls := d, data := .seq us m }) (r : RVs φ ys us.toList) : RVs φ ys vs.toList := by cases e; exact r
theorem rng3 {a b c x y z : Int} (e : [a, b, c] = [x, y, z]) : PV.rng a b c = PV.rng x y z := by cases e; rfl
theorem RVs.nil_of {φ : Fz} {ys : List PV} (h : RVs φ ys []) : ys = [] := by cases h; rfl
theorem RVs.cons_of {φ : Fz} {ys : List PV} {v : Value} {vs : List Value} (h : RVs φ ys (v :: vs)) : ∃ y r, ys = y :: r ∧ RV φ y v ∧ RVs φ r vs := by cases h with | cons a b => exact ⟨_, _, rfl, a, b⟩
/-- what stands for a value, by the value -/
noncomputable def RefIs (φ : Fz) (a : Addr) (y : PV) : Prop := ∀ M : PV → Prop,
  (∀ xs vs n, φ a = some { cls := .type "tuple", data := .seq vs n } → RVs φ xs vs.toList → M (.tup xs)) →
  (∀ xs vs n, φ a = some { cls := .type "list", data := .seq vs n } → RVs φ xs vs.toList → M (.lst xs)) →
  (∀ c fs d es n vs, c < 11 → φ a = some (instObj (clsAddr c) d) → φ d = some (dictOf es n) → Ents (fldNames c) es vs → RVs φ fs vs → M (.obj c fs)) →
  (∀ lo hi st t u v, φ a = some { cls := .type "range", dict := Option.none, data := .fields #[.int lo t, .int hi u, .int st v], slots := #[] } → M (.rng lo hi st)) → M y
theorem RV.inv {φ : Fz} {y : PV} {v : Value} (h : RV φ y v) : match v with
    | .none => y = .none
    | .bool b => y = .bool b
    | .int i _ => y = .int i
    | .str x _ => y = .str x
    | .ref a => RefIs φ a y
    | _ => True := by
  cases h with
  | tup a b => exact fun _ k _ _ _ => k _ _ _ a b
  | lst a b => exact fun _ _ k _ _ => k _ _ _ a b
  | obj a b c d e => exact fun _ _ _ k _ => k _ _ _ _ _ _ a b c d e
  | rng a => exact fun _ _ _ _ k => k _ _ _ _ _ _ a
  | _ => rfl
/-- what a value looks like, by what it stands for -/
noncomputable def ValIs (φ : Fz) : PV → (Value → Prop) → Prop
  | .none, M => M .none
  | .bool b, M => M (.bool b)
  | .int i, M => ∀ t, M (.int i t)
  | .str x, M => ∀ t, M (.str x t)
  | .tup xs, M => ∀ a vs n, φ a = some { cls := .type "tuple", data := .seq vs n } → RVs φ xs vs.toList → M (.ref a)
  | .lst xs, M => ∀ a vs n, φ a = some { cls := .type "list", data := .seq vs n } → RVs φ xs vs.toList → M (.ref a)
  | .obj c fs, M => ∀ a d es n vs, c < 11 → φ a = some (instObj (clsAddr c) d) → φ d = some (dictOf es n) → Ents (fldNames c) es vs → RVs φ fs vs → M (.ref a)
  | .rng lo hi st, M => ∀ a t u v, φ a = some { cls := .type "range", dict := Option.none, data := .fields #[.int lo t, .int hi u, .int st v], slots := #[] } → M (.ref a)
  | .gl _, _ => True
theorem RV.look {φ : Fz} {y : PV} {v : Value} (h : RV φ y v) {M : Value → Prop} (k : ValIs φ y M) : M v := by
  cases h with
  | none => exact k
  | bool => exact k
  | int i t => exact k t
  | str x t => exact k t
  | tup a b => exact k _ _ _ a b
  | lst a b => exact k _ _ _ a b
  | obj a b c d e => exact k _ _ _ _ _ a b c d e
  | rng a => exact k _ _ _ _ a
section
variable {φ : Fz} {v : Value} {M : Value → Prop}
@[elab_as_elim] theorem RV.int_of {i : Int} (h : RV φ (.int i) v) (k : ∀ t, M (.int i t)) : M v := h.look k
@[elab_as_elim] theorem RV.bool_of {b : Bool} (h : RV φ (.bool b) v) (k : M (.bool b)) : M v := h.look k
@[elab_as_elim] theorem RV.str_of {x : Str} (h : RV φ (.str x) v) (k : ∀ t, M (.str x t)) : M v := h.look k
@[elab_as_elim] theorem RV.none_of (h : RV φ .none v) (k : M .none) : M v := h.look k
@[elab_as_elim] theorem RV.tup_of {xs : List PV} (h : RV φ (.tup xs) v) (k : ∀ a vs n, φ a = some { cls := .type "tuple", data := .seq vs n } → RVs φ xs vs.toList → M (.ref a)) : M v := h.look k
@[elab_as_elim] theorem RV.lst_of {xs : List PV} (h : RV φ (.lst xs) v) (k : ∀ a vs n, φ a = some { cls := .type "list", data := .seq vs n } → RVs φ xs vs.toList → M (.ref a)) : M v := h.look k
@[elab_as_elim] theorem RV.obj_of {c : Nat} {fs : List PV} (h : RV φ (.obj c fs) v)
    (k : ∀ a d es n vs, c < 11 → φ a = some (instObj (clsAddr c) d) → φ d = some (dictOf es n) → Ents (fldNames c) es vs → RVs φ fs vs → M (.ref a)) : M v := h.look k
@[elab_as_elim] theorem RV.rng_of {lo hi st : Int} (h : RV φ (.rng lo hi st) v) (k : ∀ a t u v, φ a = some { cls := .type "range", dict := Option.none, data := .fields #[.int lo t, .int hi u, .int st v], slots := #[] } → M (.ref a)) : M v := h.look k
end
/-- what a value stands for is one thing -/
theorem RV.func {φ : Fz} {x v} (h : RV φ x v) : ∀ {y}, RV φ y v → x = y :=
  RV.rec (motive_1 := fun x v _ => ∀ {y}, RV φ y v → x = y) (motive_2 := fun xs vs _ => ∀ {ys}, RVs φ ys vs → xs = ys)
    (fun k => k.inv.symm) (fun _ _ k => k.inv.symm) (fun _ _ _ k => k.inv.symm) (fun _ _ _ k => k.inv.symm)
    (fun h _ i _ k => k.inv (fun y => PV.tup _ = y) (fun _ _ _ h' r' => congrArg PV.tup (i (seq_to (ck_eq h h') r'))) (fun _ _ _ h' _ => clash h h' rfl) (fun _ _ _ _ _ _ _ h' _ _ _ => clash h h' rfl) (fun _ _ _ _ _ _ h' => clash h h' rfl))
    (fun h _ i _ k => k.inv (fun y => PV.lst _ = y) (fun _ _ _ h' _ => clash h h' rfl) (fun _ _ _ h' r' => congrArg PV.lst (i (seq_to (ck_eq h h') r'))) (fun _ _ _ _ _ _ _ h' _ _ _ => clash h h' rfl) (fun _ _ _ _ _ _ h' => clash h h' rfl))
    (fun h0 h1 h2 h3 _ i _ k => k.inv (fun y => PV.obj _ _ = y) (fun _ _ _ h' _ => clash h1 h' rfl) (fun _ _ _ h' _ => clash h1 h' rfl)
      (fun _ _ _ _ _ _ k0 k1 k2 k3 r' => by
        cases clsAddr_inj h0 k0 (congrArg clsO (ck_eq h1 k1))
        cases Option.some.inj (congrArg dictO (ck_eq h1 k1))
        cases (congrArg entsO (ck_eq h2 k2) : _ = _)
        cases Ents.func h3 k3
        exact congrArg _ (i r')) (fun _ _ _ _ _ _ h' => clash h1 h' rfl))
    (fun h _ k => k.inv (fun y => PV.rng _ _ _ = y) (fun _ _ _ h' _ => clash h h' rfl) (fun _ _ _ h' _ => clash h h' rfl) (fun _ _ _ _ _ _ _ h' _ _ _ => clash h h' rfl)
      (fun _ _ _ _ _ _ h' => rng3 (congrArg rngO (ck_eq h h'))))
    (fun k => (RVs.nil_of k).symm) (fun _ _ i j _ k => by obtain ⟨y, r, rfl, a, b⟩ := k.cons_of; rw [i a, j b]) h
theorem RVs.to {φ : Fz} {xs vs} (h : RVs φ xs vs) : All2 (RV φ) xs vs := RVs.ind (M := fun xs vs => All2 (RV φ) xs vs) .nil (fun a _ i => .cons a i) h
theorem RVs.of {φ : Fz} {xs vs} (h : All2 (RV φ) xs vs) : RVs φ xs vs := by
  induction h with
  | nil => exact .nil
  | cons a _ ih => exact .cons a ih
section
variable {φ : Fz} {xs ys : List PV} {vs ws : List Value}
theorem RVs.length (h : RVs φ xs vs) : xs.length = vs.length := h.to.length
theorem RVs.get (h : RVs φ xs vs) {i : Nat} {x : PV} (e : xs[i]? = some x) : ∃ v, vs[i]? = some v ∧ RV φ x v := h.to.get e
theorem RVs.append (h : RVs φ xs vs) {ys ws} (k : RVs φ ys ws) : RVs φ (xs ++ ys) (vs ++ ws) := .of (h.to.append k.to)
theorem RVs.snoc {x v} (h : RVs φ xs vs) (k : RV φ x v) : RVs φ (xs ++ [x]) (vs ++ [v]) := h.append (.cons k .nil)
theorem RVs.take (h : RVs φ xs vs) (n) : RVs φ (xs.take n) (vs.take n) := .of (h.to.take n)
theorem RVs.drop (h : RVs φ xs vs) (n) : RVs φ (xs.drop n) (vs.drop n) := .of (h.to.drop n)
theorem RVs.reverse (h : RVs φ xs vs) : RVs φ xs.reverse vs.reverse := .of h.to.reverse
theorem RVs.set (h : RVs φ xs vs) (n) {x v} (k : RV φ x v) : RVs φ (xs.set n x) (vs.set n v) := .of (h.to.set n k)
theorem RVs.split {vs} (h : RVs φ (xs ++ ys) vs) : ∃ us ws, vs = us ++ ws ∧ RVs φ xs us ∧ RVs φ ys ws := by
  obtain ⟨us, ws, e, h1, h2⟩ := h.to.split
  exact ⟨us, ws, e, .of h1, .of h2⟩
theorem RVs.everyTwo (h : RVs φ xs vs) : RVs φ (Mine.everyTwo xs) (Mine.everyTwo vs) := .of h.to.everyTwo.1
end

inductive RX (φ : Fz) (ρ : Rh) : XV → Value → Prop
  | p {v w} : RV φ v w → RX φ ρ (.p v) w
  | c {i a m} : ρ[i]? = some (a, m) → RX φ ρ (.c i) (.ref a)
  | bm {f i a m q} : ρ[i]? = some (a, m) → φ q = some (methodObj (.ref (fnAddr f)) (.ref a)) → RX φ ρ (.bm f i) (.ref q)

noncomputable abbrev RXs (φ : Fz) (ρ : Rh) : List XV → List Value → Prop := All2 (RX φ ρ)

/-- what a value looks like, by what a name holds -/
noncomputable def XIs (φ : Fz) (ρ : Rh) : XV → (Value → Prop) → Prop
  | .p x, M => ∀ u, RV φ x u → M u
  | .c i, M => ∀ a m, ρ[i]? = some (a, m) → M (.ref a)
  | .bm f i, M => ∀ q a m, ρ[i]? = some (a, m) → φ q = some (methodObj (.ref (fnAddr f)) (.ref a)) → M (.ref q)
theorem RX.look {φ : Fz} {ρ : Rh} {x : XV} {v : Value} (h : RX φ ρ x v) {M : Value → Prop} (k : XIs φ ρ x M) : M v := by
  cases h with
  | p a => exact k _ a
  | c e => exact k _ _ e
  | bm e q => exact k _ _ _ e q
section
variable {φ : Fz} {ρ : Rh} {v : Value} {M : Value → Prop}
theorem RX.p_of {x : PV} (h : RX φ ρ (.p x) v) : RV φ x v := h.look (M := fun v => RV φ x v) fun _ a => a
@[elab_as_elim] theorem RX.c_of {i : Nat} (h : RX φ ρ (.c i) v) (k : ∀ a m, ρ[i]? = some (a, m) → M (.ref a)) : M v := h.look k
@[elab_as_elim] theorem RX.bm_of {f i : Nat} (h : RX φ ρ (.bm f i) v) (k : ∀ q a m, ρ[i]? = some (a, m) → φ q = some (methodObj (.ref (fnAddr f)) (.ref a)) → M (.ref q)) : M v := h.look k
end

/-- places only added behind -/
noncomputable def RhLe (ρ ρ' : Rh) : Prop := ∀ (i : Nat) (p : Addr × Addr), ρ[i]? = some p → ρ'[i]? = some p
theorem RhLe.refl (ρ : Rh) : RhLe ρ ρ := fun _ _ h => h
theorem RhLe.append (ρ ρ₂ : Rh) : RhLe ρ (ρ ++ ρ₂) := fun i p e => by
  rw [List.getElem?_append_left]
  · exact e
  · exact (List.getElem?_eq_some_iff.mp e).1

theorem RX.mono {φ φ' : Fz} {ρ ρ' : Rh} (k : FzLe φ φ') (r : RhLe ρ ρ') {x v} (h : RX φ ρ x v) : RX φ' ρ' x v :=
  RX.rec (motive := fun x v _ => RX φ' ρ' x v) (fun h => .p (h.mono k)) (fun h => .c (r _ _ h)) (fun h q => .bm (r _ _ h) (k _ _ q)) h
theorem RXs.mono {φ φ' : Fz} {ρ ρ' : Rh} (k : FzLe φ φ') (r : RhLe ρ ρ') {x v} (h : RXs φ ρ x v) : RXs φ' ρ' x v := All2.mono (fun _ _ a => a.mono k r) h
section
variable {φ : Fz} {ρ : Rh} {xs : List XV} {vs : List Value}
theorem RXs.length (h : RXs φ ρ xs vs) : xs.length = vs.length := All2.length h
theorem RXs.get (h : RXs φ ρ xs vs) {i : Nat} {x : XV} (e : xs[i]? = some x) : ∃ v, vs[i]? = some v ∧ RX φ ρ x v := All2.get h e
theorem RXs.set (h : RXs φ ρ xs vs) (n) {x v} (k : RX φ ρ x v) : RXs φ ρ (xs.set n x) (vs.set n v) := All2.set h n k
theorem RXs.snoc {x v} (h : RXs φ ρ xs vs) (k : RX φ ρ x v) : RXs φ ρ (xs ++ [x]) (vs ++ [v]) := All2.snoc h k
end
theorem asPs_of {φ : Fz} {ρ : Rh} {k : List PV → Prop} {xs vs} (h : RXs φ ρ xs vs) (hk : asPs xs k) : ∃ ys, RVs φ ys vs ∧ k ys := by
  induction h generalizing k with
  | nil => exact ⟨[], .nil, hk⟩
  | cons a _ ih =>
    cases a with
    | @p v _ a =>
      obtain ⟨ys, h1, h2⟩ := ih (k := fun vs => k (v :: vs)) hk
      exact ⟨v :: ys, .cons a h1, h2⟩
    | c _ => exact hk.elim
    | bm _ _ => exact hk.elim

theorem asPs_el {φ : Fz} {ρ : Rh} {k : List PV → Prop} {xs vs} {G : Prop} (h : RXs φ ρ xs vs) (hk : asPs xs k) (g : ∀ ys, RVs φ ys vs → k ys → G) : G := by
  obtain ⟨ys, a, b⟩ := asPs_of h hk
  exact g ys a b

noncomputable def DictRel (φ : Fz) (f : Int → Option PV) (g : Int → Option Value) : Prop := ∀ k, match f k with
  | none => g k = none
  | some x => ∃ v, g k = some v ∧ RV φ x v

/-- the map of an int-keyed dict object and its size -/
noncomputable abbrev MapAt (w : World) (h : Heap) (m : Addr) (g : Int → Option Value) : Prop := h.MapOf (intKind PySem.Challenge.pw_nt0208_01 w) m g

noncomputable def CellAt (w : World) (φ : Fz) (ρ : Rh) (h : Heap) (c : Cell) (p : Addr × Addr) : Prop :=
  match c with
  | .list xs => p.1 = p.2 ∧ ∃ vs n, h.get? p.2 = some { cls := .type "list", data := .seq vs n } ∧ RVs φ xs vs.toList
  | .dict f n => p.1 = p.2 ∧ ∃ kvs, h.DictOf (intKind PySem.Challenge.pw_nt0208_01 w) p.2 kvs ∧ kvs.length ≤ n ∧ DictRel φ f (valueAt kvs)
  | .inst c fs => φ p.1 = some (instObj (clsAddr c) p.2) ∧ ∃ es n vs, h.get? p.2 = some (dictOf es n) ∧ fs.length ≤ (fldNames c).length ∧ Ents ((fldNames c).take fs.length) es vs ∧ RXs φ ρ fs vs

structure Rel (w : World) (B : Shared) (σ : Sig) (φ : Fz) (ρ : Rh) (s : Shared) : Prop where
  rest : ∃ h tk, s = { B with heap := h, toks := tk }
  base : ∀ a o, B.heap.get? a = some o → φ a = some o
  sub : ∀ a o, φ a = some o → s.heap.get? a = some o
  len : ρ.length = σ.length
  cells : ∀ (i : Nat) (p : Addr × Addr) (c : Cell), ρ[i]? = some p → σ[i]? = some c → CellAt w φ ρ s.heap c p
  off : ∀ p ∈ ρ, φ p.2 = none
  apart : ρ.Pairwise fun x y => x.2 ≠ y.2

structure Ext (φ : Fz) (ρ : Rh) (h : Heap) (φ' : Fz) (ρ' : Rh) (h' : Heap) : Prop where
  live : ∀ a o, h.get? a = some o → ∃ o', h'.get? a = some o'
  keep : ∀ a o, h.get? a = some o → (∀ p ∈ ρ, a ≠ p.2) → h'.get? a = some o
  fz : ∀ a o, h.get? a = some o → φ' a = φ a
  pre : ∃ ρ₂, ρ' = ρ ++ ρ₂ ∧ ∀ p ∈ ρ₂, h.get? p.2 = none

theorem none_of_size {h : Heap} {a : Addr} (ha : h.objs.size ≤ a) : h.get? a = none := by
  cases e : h.get? a with
  | none => rfl
  | some o => exact absurd (Heap.lt_size e) (Nat.not_lt.mpr ha)
theorem Ext.refl (φ : Fz) (ρ : Rh) (h : Heap) : Ext φ ρ h φ ρ h := ⟨fun _ _ e => ⟨_, e⟩, fun _ _ e _ => e, fun _ _ _ => rfl, [], by simp, by simp⟩
theorem Ext.trans {φ φ₁ φ₂ : Fz} {ρ ρ₁ ρ₂ : Rh} {h h₁ h₂ : Heap} (x : Ext φ ρ h φ₁ ρ₁ h₁) (y : Ext φ₁ ρ₁ h₁ φ₂ ρ₂ h₂) : Ext φ ρ h φ₂ ρ₂ h₂ := by
  obtain ⟨r1, e1, p1⟩ := x.pre
  obtain ⟨r2, e2, p2⟩ := y.pre
  refine ⟨fun a o e => let ⟨o', e'⟩ := x.live a o e; y.live a o' e', fun a o e n => y.keep a o (x.keep a o e n) fun p hp => ?_, fun a o e => ?_, r1 ++ r2, by rw [e2, e1, List.append_assoc], fun p hp => ?_⟩
  · rw [e1] at hp
    rcases List.mem_append.mp hp with hp | hp
    · exact n p hp
    · rintro rfl; rw [p1 p hp] at e; cases e
  · obtain ⟨o', e'⟩ := x.live a o e
    rw [y.fz a o' e', x.fz a o e]
  · rcases List.mem_append.mp hp with hp | hp
    · exact p1 p hp
    · cases e : h.get? p.2 with
      | none => rfl
      | some o => obtain ⟨o', e'⟩ := x.live _ _ e; rw [p2 p hp] at e'; cases e'
theorem Ext.rh {φ φ₁ : Fz} {ρ ρ₁ : Rh} {h h₁ : Heap} (x : Ext φ ρ h φ₁ ρ₁ h₁) : RhLe ρ ρ₁ := by
  obtain ⟨r1, rfl, _⟩ := x.pre; exact RhLe.append _ _

section
variable {w : World} {B : Shared} {σ σ₁ : Sig} {φ φ₁ : Fz} {ρ ρ₁ : Rh} {s s₁ : Shared}
theorem Rel.lt (R : Rel w B σ φ ρ s) {a : Addr} {o : Obj} (e : φ a = some o) : a < s.heap.objs.size := Heap.lt_size (R.sub a o e)
theorem Ext.le (R : Rel w B σ φ ρ s) {h₁ : Heap} (x : Ext φ ρ s.heap φ₁ ρ₁ h₁) : FzLe φ φ₁ := fun a o e => (x.fz a o (R.sub a o e)).trans e
theorem Rel.keepB (R : Rel w B σ φ ρ s) : ∀ a o, B.heap.get? a = some o → s.heap.get? a = some o := fun a o e => R.sub a o (R.base a o e)
theorem Rel.live (R : Rel w B σ φ ρ s) {i : Nat} {p : Addr × Addr} (e : ρ[i]? = some p) : ∃ o, s.heap.get? p.2 = some o := by
  have hi : i < σ.length := R.len ▸ (List.getElem?_eq_some_iff.mp e).1
  have hc : σ[i]? = some σ[i] := List.getElem?_eq_getElem hi
  have := R.cells i p _ e hc
  generalize σ[i] = c at this
  cases c with
  | list xs => obtain ⟨_, vs, n, h, _⟩ := this; exact ⟨_, h⟩
  | dict f n => obtain ⟨_, kvs, ⟨o, _, _, h, _⟩, _⟩ := this; exact ⟨_, h⟩
  | inst c fs => obtain ⟨_, es, n, vs, h, _⟩ := this; exact ⟨_, h⟩
theorem Rel.ltR (R : Rel w B σ φ ρ s) {p : Addr × Addr} (hp : p ∈ ρ) : p.2 < s.heap.objs.size := by
  obtain ⟨i, hi, rfl⟩ := List.mem_iff_getElem.mp hp
  obtain ⟨o, ho⟩ := R.live (List.getElem?_eq_getElem hi)
  exact Heap.lt_size ho
theorem Rel.tok (R : Rel w B σ φ ρ s) (t : Nat) : Rel w B σ φ ρ { s with toks := t } := by
  obtain ⟨⟨h, tk, rfl⟩, b, c, d, e, f, g⟩ := R
  exact ⟨⟨h, t, rfl⟩, b, c, d, e, f, g⟩

/-- a cell's look hangs on its own place alone -/
theorem CellAt.mono {h h' : Heap} {c : Cell} {p : Addr × Addr} (x : CellAt w φ ρ h c p) (k : FzLe φ φ₁) (r : RhLe ρ ρ₁) (e : ∀ o, h.get? p.2 = some o → h'.get? p.2 = some o) : CellAt w φ₁ ρ₁ h' c p := by
  cases c with
  | list xs => obtain ⟨h0, vs, n, h, r'⟩ := x; exact ⟨h0, vs, n, e _ h, r'.mono k⟩
  | dict f n =>
    obtain ⟨h0, kvs, ⟨o, es, ep, ho, r1⟩, dl, dr⟩ := x
    refine ⟨h0, kvs, ⟨o, es, ep, e _ ho, r1⟩, dl, fun z => ?_⟩
    have := dr z
    split
    · rename_i q; rw [q] at this; exact this
    · rename_i q; rw [q] at this; obtain ⟨v, a, b⟩ := this; exact ⟨v, a, b.mono k⟩
  | inst c fs => obtain ⟨h0, es, n, vs, h1, h2, h3, h4⟩ := x; exact ⟨k _ _ h0, es, n, vs, e _ h1, h2, h3, h4.mono k r⟩
end
end Mine
end
section
open PySem PySem.W PyProof.Rows
set_option Elab.async false
set_option maxRecDepth 100000
namespace Mine

noncomputable def Fz.put (φ : Fz) (a : Addr) (o : Obj) : Fz := fun x => if x = a then some o else φ x
theorem Fz.put_self (φ : Fz) (a : Addr) (o : Obj) : φ.put a o a = some o := by simp [Fz.put]
theorem Fz.put_ne (φ : Fz) {a b : Addr} (o : Obj) (h : b ≠ a) : φ.put a o b = φ b := by simp [Fz.put, h]

section
variable {w : World} {B : Shared} {σ σ₁ : Sig} {φ φ₁ : Fz} {ρ ρ₁ : Rh} {s s₁ : Shared}

theorem Rel.fresh (R : Rel w B σ φ ρ s) : φ s.heap.objs.size = none := by
  cases e : φ s.heap.objs.size with
  | none => rfl
  | some o => exact absurd (R.lt e) (Nat.lt_irrefl _)
theorem Rel.fresh' (R : Rel w B σ φ ρ s) {a : Addr} (ha : s.heap.objs.size ≤ a) : φ a = none := by
  cases e : φ a with
  | none => rfl
  | some o => exact absurd (R.lt e) (Nat.not_lt.mpr ha)
theorem Rel.mem_ne (R : Rel w B σ φ ρ s) {a : Addr} (ha : s.heap.objs.size ≤ a) : ∀ p ∈ ρ, a ≠ p.2 := fun p hp q => Nat.lt_irrefl _ (Nat.lt_of_lt_of_le (R.ltR hp) (q ▸ ha))

/-- what is neither frozen nor a place may change -/
theorem Rel.heap (R : Rel w B σ φ ρ s) {h' : Heap} {tk : Nat} (hk : ∀ a o, s.heap.get? a = some o → (φ a = some o ∨ ∃ p ∈ ρ, p.2 = a) → h'.get? a = some o) : Rel w B σ φ ρ { s with heap := h', toks := tk } := by
  obtain ⟨⟨h, t, rfl⟩, b, c, d, e, f, g⟩ := R
  refine ⟨⟨h', tk, rfl⟩, b, fun a o q => hk a o (c a o q) (.inl q), d, fun i p c q1 q2 => ?_, f, g⟩
  exact (e i p c q1 q2).mono (FzLe.refl _) (RhLe.refl _) fun o ho => hk _ o ho (.inr ⟨p, List.mem_of_getElem? q1, rfl⟩)
theorem Rel.same (R : Rel w B σ φ ρ s) {h' : Heap} {tk : Nat} {b : Addr} (hs : Heap.ExtBut b s.heap h') (h1 : φ b = none) (h2 : ∀ p ∈ ρ, b ≠ p.2) : Rel w B σ φ ρ { s with heap := h', toks := tk } :=
  R.heap fun a o e q => hs a o (by
    rintro rfl
    rcases q with q | ⟨p, hp, q⟩
    · rw [h1] at q; cases q
    · exact h2 p hp q.symm) e
theorem Rel.keeps (R : Rel w B σ φ ρ s) {h' : Heap} {tk : Nat} (hk : ∀ a o, s.heap.get? a = some o → h'.get? a = some o) : Rel w B σ φ ρ { s with heap := h', toks := tk } :=
  R.heap fun a o e _ => hk a o e

theorem Ext.keeps {h h' : Heap} (hk : ∀ a o, h.get? a = some o → h'.get? a = some o) : Ext φ ρ h φ ρ h' :=
  ⟨fun a o e => ⟨_, hk a o e⟩, fun a o e _ => hk a o e, fun _ _ _ => rfl, [], by simp, by simp⟩
theorem Ext.push (h : Heap) (o : Obj) : Ext φ ρ h φ ρ (h.push o) := Ext.keeps fun _ _ e => Heap.get?_push_of_some _ e

/-- a new thing that is frozen from the start -/
theorem Rel.freeze (R : Rel w B σ φ ρ s) {a : Addr} {o : Obj} (ho : s.heap.get? a = some o) (h1 : φ a = none) (h2 : ∀ p ∈ ρ, a ≠ p.2) : Rel w B σ (φ.put a o) ρ s := by
  have le : FzLe φ (φ.put a o) := fun x o' e => by
    rw [Fz.put_ne _ _ (by rintro rfl; rw [h1] at e; cases e)]; exact e
  refine ⟨R.rest, fun x o' e => le _ _ (R.base x o' e), fun x o' e => ?_, R.len, fun i p c q1 q2 => (R.cells i p c q1 q2).mono le (RhLe.refl _) fun _ e => e, fun p hp => ?_, R.apart⟩
  · by_cases q : x = a
    · subst q; rw [Fz.put_self] at e; cases e; exact ho
    · rw [Fz.put_ne _ _ q] at e; exact R.sub x o' e
  · rw [Fz.put_ne _ _ (Ne.symm (h2 p hp))]; exact R.off p hp
theorem Fz.le_put {a : Addr} {o : Obj} (h1 : φ a = none) : FzLe φ (φ.put a o) := fun x o' e => by
  rw [Fz.put_ne _ _ (by rintro rfl; rw [h1] at e; cases e)]; exact e

theorem Rel.push (R : Rel w B σ φ ρ s) (o : Obj) (tk : Nat) : Rel w B σ φ ρ { s with heap := s.heap.push o, toks := tk } := R.keeps fun _ _ e => Heap.get?_push_of_some _ e
theorem Rel.pushF (R : Rel w B σ φ ρ s) {o : Obj} (hf : o.isFreed = false) (tk : Nat) : Rel w B σ (φ.put s.heap.objs.size o) ρ { s with heap := s.heap.push o, toks := tk } :=
  (R.push o tk).freeze (Heap.get?_push_size _ hf) R.fresh (R.mem_ne (Nat.le_refl _))
theorem Ext.put {h h' : Heap} (x : Ext φ ρ h φ₁ ρ₁ h') {a : Addr} {o : Obj} (ha : h.get? a = none) : Ext φ ρ h (φ₁.put a o) ρ₁ h' :=
  ⟨x.live, x.keep, fun b ob hb => (Fz.put_ne _ _ (by rintro rfl; rw [ha] at hb; cases hb)).trans (x.fz b ob hb), x.pre⟩
theorem Ext.pushF {h : Heap} {o : Obj} : Ext φ ρ h (φ.put h.objs.size o) ρ (h.push o) := (Ext.push h o).put (none_of_size (Nat.le_refl _))

/-- a new place -/
theorem Rel.addCell (R : Rel w B σ φ ρ s) {p : Addr × Addr} {c : Cell} (hc : CellAt w φ (ρ ++ [p]) s.heap c p) (h1 : φ p.2 = none) (h2 : ∀ q ∈ ρ, q.2 ≠ p.2) : Rel w B (σ ++ [c]) φ (ρ ++ [p]) s := by
  refine ⟨R.rest, R.base, R.sub, by simp [R.len], fun i q c' e1 e2 => ?_, fun q hq => ?_, ?_⟩
  · by_cases hi : i < ρ.length
    · rw [List.getElem?_append_left hi] at e1
      rw [List.getElem?_append_left (R.len ▸ hi)] at e2
      exact (R.cells i q c' e1 e2).mono (FzLe.refl _) (RhLe.append _ _) fun _ e => e
    · rw [List.getElem?_append_right (Nat.not_lt.mp hi)] at e1
      rw [List.getElem?_append_right (R.len ▸ Nat.not_lt.mp hi), ← R.len] at e2
      cases q0 : i - ρ.length with
      | zero => rw [q0] at e1 e2; cases e1; cases e2; exact hc
      | succ n => rw [q0] at e1; simp at e1
  · rcases List.mem_append.mp hq with hq | hq
    · exact R.off q hq
    · rw [List.mem_singleton.mp hq]; exact h1
  · exact List.pairwise_append.mpr ⟨R.apart, List.pairwise_singleton _ _, fun a ha b hb => by rw [List.mem_singleton.mp hb]; exact h2 a ha⟩
theorem Ext.addCell {h h' : Heap} (x : Ext φ ρ h φ₁ ρ₁ h') {p : Addr × Addr} (hp : h.get? p.2 = none) : Ext φ ρ h φ₁ (ρ₁ ++ [p]) h' := by
  obtain ⟨r, rfl, hr⟩ := x.pre
  refine ⟨x.live, x.keep, x.fz, r ++ [p], by rw [List.append_assoc], fun q hq => ?_⟩
  rcases List.mem_append.mp hq with hq | hq
  · exact hr q hq
  · rw [List.mem_singleton.mp hq]; exact hp

/-- a place changes -/
theorem Rel.setCell (R : Rel w B σ φ ρ s) {i : Nat} {p : Addr × Addr} {c' : Cell} {h' : Heap} {tk : Nat} (hi : ρ[i]? = some p) (hs : Heap.SameBut p.2 s.heap h') (hc : CellAt w φ ρ h' c' p) :
    Rel w B (σ.set i c') φ ρ { s with heap := h', toks := tk } := by
  have hmem := List.mem_of_getElem? hi
  have base : Rel w B σ φ ρ s := R
  obtain ⟨⟨h, t, rfl⟩, b, c, d, e, f, g⟩ := R
  refine ⟨⟨h', tk, rfl⟩, b, fun a o q => ?_, by simpa using d, fun j q c q1 q2 => ?_, f, g⟩
  · exact hs.extBut a o (by rintro rfl; rw [f p hmem] at q; cases q) (c a o q)
  · by_cases hj : i = j
    · subst hj
      rw [hi] at q1; cases q1
      rw [List.getElem?_set_self (d ▸ (List.getElem?_eq_some_iff.mp hi).1)] at q2
      cases q2; exact hc
    · rw [List.getElem?_set_ne hj] at q2
      refine (e j q c q1 q2).mono (FzLe.refl _) (RhLe.refl _) fun o ho => hs.extBut _ o ?_ ho
      intro z
      obtain ⟨hi1, hi2⟩ := List.getElem?_eq_some_iff.mp hi
      obtain ⟨hj1, hj2⟩ := List.getElem?_eq_some_iff.mp q1
      have := List.pairwise_iff_getElem.mp g
      rcases Nat.lt_or_gt_of_ne hj with l | l
      · exact this i j hi1 hj1 l (by rw [hi2, hj2, z])
      · exact this j i hj1 hi1 l (by rw [hi2, hj2, z])
theorem Ext.setCell {h h' : Heap} {p : Addr × Addr} (hp : p ∈ ρ) (hs : Heap.SameBut p.2 h h') (hl : ∃ o, h'.get? p.2 = some o) : Ext φ ρ h φ ρ h' :=
  ⟨fun a o e => by
    by_cases q : a = p.2
    · subst q; exact hl
    · exact ⟨_, hs.extBut a o q e⟩, fun a o e n => hs.extBut a o (n p hp) e, fun _ _ _ => rfl, [], by simp, by simp⟩

/-- the last places are let go -/
theorem Rel.take {σ₂ τ : Sig} (R : Rel w B (σ₂ ++ τ) φ (ρ ++ ρ₁) s) (hl : ρ.length = σ₂.length) (hx : ∀ c ∈ σ₂, match c with | .inst _ fs => ∀ x ∈ fs, (match x with | .p _ => True | .c i => i < ρ.length | .bm _ i => i < ρ.length) | _ => True) : Rel w B σ₂ φ ρ s := by
  refine ⟨R.rest, R.base, R.sub, hl, fun i p c q1 q2 => ?_, fun p hp => R.off p (List.mem_append_left _ hp), (List.pairwise_append.mp R.apart).1⟩
  have hi : i < ρ.length := (List.getElem?_eq_some_iff.mp q1).1
  have hC := R.cells i p c (by rw [List.getElem?_append_left hi]; exact q1) (by rw [List.getElem?_append_left (hl ▸ hi)]; exact q2)
  cases c with
  | list xs => exact hC
  | dict f n => exact hC
  | inst c fs =>
    have hm := hx _ (List.mem_of_getElem? q2)
    dsimp only at hm
    obtain ⟨h0, es, n, vs, h1, h2, h3, h4⟩ := hC
    refine ⟨h0, es, n, vs, h1, h2, h3, ?_⟩
    clear h1 h2 h3 h0 q2
    induction h4 with
    | nil => exact .nil
    | @cons x xs v vs a r ih =>
      have hx0 := hm x (.head _)
      refine .cons ?_ (ih fun y hy => hm y (.tail _ hy))
      cases a with
      | p a => exact .p a
      | c a => exact .c (by rwa [List.getElem?_append_left hx0] at a)
      | bm a b => exact .bm (by rwa [List.getElem?_append_left hx0] at a) b
end
end Mine
end
section
open PySem PySem.W PyProof.Rows
set_option Elab.async false
set_option maxRecDepth 100000
namespace Mine

/-! ## the small text stands for the given one -/
structure CE where
  slots : List (Str × (Nat × Bool))
  globs : List Str

noncomputable def bopOf : BOp → Operator
  | .add => .Add | .sub => .Sub | .mul => .Mult | .fdiv => .FloorDiv | .mod => .Mod | .pow => .Pow
noncomputable def copOf : COp → CmpOp
  | .eq => .Eq | .ne => .NotEq | .lt => .Lt | .le => .LtE | .gt => .Gt | .ge => .GtE | .is => .Is | .isnot => .IsNot | .isin => .In | .notin => .NotIn

noncomputable def notDebug (x : Str) : Bool := !(x == ("__debug__" : Str))
noncomputable def isGlob (ce : CE) (x : Str) : Bool := ce.globs.contains x && notDebug x
noncomputable def slotIs (ce : CE) (x : Str) (i : Nat) : Bool := (match ce.slots.lookup x with | some (j, _) => i == j | none => false) && notDebug x
noncomputable def takeE (e : Expr) (k0 : Const → Nat → Pos → Bool) (k1 : UnaryOp → Expr → Pos → Bool) (k2 : Str → Pos → Bool) (k3 : Expr → Str → Pos → Bool) (k4 : Expr → Operator → Expr → Pos → Bool) (k5 : Expr → List CmpOp → List Expr → Pos → Bool) (k6 : BoolOp → List Expr → Pos → Bool) (k7 : Expr → Expr → Expr → Pos → Bool) (k8 : Expr → Expr → Pos → Bool) (k9 : Option Expr → Option Expr → Option Expr → Pos → Bool) (k10 : List Expr → Pos → Bool) (k11 : List Expr → Nat → Pos → Bool) (k12 : List (Option Expr) → List Expr → Pos → Bool) (k13 : Expr → List Comprehension → Scope → Pos → Bool) (k14 : Expr → List Expr → List Keyword → Pos → Bool) (k15 : List Expr → Nat → Pos → Bool) (k16 : Expr → Pos → Bool) (k17 : Expr → List Comprehension → Scope → Pos → Bool) (k18 : Expr → Expr → List Comprehension → Scope → Pos → Bool) : Bool := match e with
  | .Constant a0 a1 a2 => k0 a0 a1 a2
  | .UnaryOp a0 a1 a2 => k1 a0 a1 a2
  | .Name a0 a1 => k2 a0 a1
  | .Attribute a0 a1 a2 => k3 a0 a1 a2
  | .BinOp a0 a1 a2 a3 => k4 a0 a1 a2 a3
  | .Compare a0 a1 a2 a3 => k5 a0 a1 a2 a3
  | .BoolOp a0 a1 a2 => k6 a0 a1 a2
  | .IfExp a0 a1 a2 a3 => k7 a0 a1 a2 a3
  | .Subscript a0 a1 a2 => k8 a0 a1 a2
  | .Slice a0 a1 a2 a3 => k9 a0 a1 a2 a3
  | .List a0 a1 => k10 a0 a1
  | .Tuple a0 a1 a2 => k11 a0 a1 a2
  | .Dict a0 a1 a2 => k12 a0 a1 a2
  | .ListComp a0 a1 a2 a3 => k13 a0 a1 a2 a3
  | .Call a0 a1 a2 a3 => k14 a0 a1 a2 a3
  | .Set a0 a1 a2 => k15 a0 a1 a2
  | .Starred a0 a1 => k16 a0 a1
  | .SetComp a0 a1 a2 a3 => k17 a0 a1 a2 a3
  | .DictComp a0 a1 a2 a3 a4 => k18 a0 a1 a2 a3 a4
  | _ => false
noncomputable def takeS (e : Stmt) (k0 : List Expr → Expr → Pos → Bool) (k1 : Expr → Pos → Bool) (k2 : Option Expr → Pos → Bool) (k3 : Expr → List Stmt → List Stmt → Pos → Bool) (k4 : Expr → List Stmt → List Stmt → Pos → Bool) (k5 : Expr → Expr → List Stmt → List Stmt → Pos → Bool) : Bool := match e with
  | .Assign a0 a1 a2 => k0 a0 a1 a2
  | .Expr a0 a1 => k1 a0 a1
  | .Return a0 a1 => k2 a0 a1
  | .If a0 a1 a2 a3 => k3 a0 a1 a2 a3
  | .While a0 a1 a2 a3 => k4 a0 a1 a2 a3
  | .For a0 a1 a2 a3 a4 => k5 a0 a1 a2 a3 a4
  | _ => false
noncomputable def baseNA (e : Expr) : Bool := takeE e (fun _ _ _ => false) (fun _ _ _ => false) (fun _ _ => true) (fun _ _ _ => true) (fun _ _ _ _ => false) (fun _ _ _ _ => false) (fun _ _ _ => false) (fun _ _ _ _ => false) (fun _ _ _ => false) (fun _ _ _ _ => false) (fun _ _ => false) (fun _ _ _ => false) (fun _ _ _ => false) (fun _ _ _ _ => false) (fun _ _ _ _ => false) (fun _ _ _ => false) (fun _ _ => false) (fun _ _ _ _ => false) (fun _ _ _ _ _ => false)
noncomputable def notSlice (e : Expr) : Bool := !(takeE e (fun _ _ _ => false) (fun _ _ _ => false) (fun _ _ => false) (fun _ _ _ => false) (fun _ _ _ _ => false) (fun _ _ _ _ => false) (fun _ _ _ => false) (fun _ _ _ _ => false) (fun _ _ _ => false) (fun _ _ _ _ => true) (fun _ _ => false) (fun _ _ _ => false) (fun _ _ _ => false) (fun _ _ _ _ => false) (fun _ _ _ _ => false) (fun _ _ _ => false) (fun _ _ => false) (fun _ _ _ _ => false) (fun _ _ _ _ _ => false))
noncomputable def notSet (e : Expr) : Bool := !(takeE e (fun _ _ _ => false) (fun _ _ _ => false) (fun _ _ => false) (fun _ _ _ => false) (fun _ _ _ _ => false) (fun _ _ _ _ => false) (fun _ _ _ => false) (fun _ _ _ _ => false) (fun _ _ _ => false) (fun _ _ _ _ => false) (fun _ _ => false) (fun _ _ _ => false) (fun _ _ _ => false) (fun _ _ _ _ => false) (fun _ _ _ _ => false) (fun _ _ _ => true) (fun _ _ => false) (fun _ _ _ _ => false) (fun _ _ _ _ _ => false))
noncomputable def notStar (e : Expr) : Bool := !(takeE e (fun _ _ _ => false) (fun _ _ _ => false) (fun _ _ => false) (fun _ _ _ => false) (fun _ _ _ _ => false) (fun _ _ _ _ => false) (fun _ _ _ => false) (fun _ _ _ _ => false) (fun _ _ _ => false) (fun _ _ _ _ => false) (fun _ _ => false) (fun _ _ _ => false) (fun _ _ _ => false) (fun _ _ _ _ => false) (fun _ _ _ _ => false) (fun _ _ _ => false) (fun _ _ => true) (fun _ _ _ _ => false) (fun _ _ _ _ _ => false))
noncomputable def isACall (e : Expr) : Bool := takeE e (fun _ _ _ => false) (fun _ _ _ => false) (fun _ _ => false) (fun _ _ _ => false) (fun _ _ _ _ => false) (fun _ _ _ _ => false) (fun _ _ _ => false) (fun _ _ _ _ => false) (fun _ _ _ => false) (fun _ _ _ _ => false) (fun _ _ => false) (fun _ _ _ => false) (fun _ _ _ => false) (fun _ _ _ _ => false) (fun _ _ _ _ => true) (fun _ _ _ => false) (fun _ _ => false) (fun _ _ _ _ => false) (fun _ _ _ _ _ => false)
noncomputable def isComp (e : Expr) : Bool := takeE e (fun _ _ _ => false) (fun _ _ _ => false) (fun _ _ => false) (fun _ _ _ => false) (fun _ _ _ _ => false) (fun _ _ _ _ => false) (fun _ _ _ => false) (fun _ _ _ _ => false) (fun _ _ _ => false) (fun _ _ _ _ => false) (fun _ _ => false) (fun _ _ _ => false) (fun _ _ _ => false) (fun _ _ _ _ => true) (fun _ _ _ _ => false) (fun _ _ _ => false) (fun _ _ => false) (fun _ _ _ _ => true) (fun _ _ _ _ _ => true)

noncomputable def isiName (c : Nat) : Str := if c = 27 then Str.ofString "bool" else clsName c
/-! takers: one constructor each -/
noncomputable def xNil {α : Type} (l : List α) (k : Bool) : Bool := match l with | [] => k | _ :: _ => false
noncomputable def xCons {α : Type} (l : List α) (k : α → List α → Bool) : Bool := match l with | a :: r => k a r | [] => false
noncomputable def xNone {α : Type} (l : Option α) (k : Bool) : Bool := match l with | Option.none => k | some _ => false
noncomputable def xSome {α : Type} (l : Option α) (k : α → Bool) : Bool := match l with | some a => k a | Option.none => false
noncomputable def xComp (v : Comprehension) (k : Expr → Expr → List Expr → Int → Bool) : Bool := match v with | ⟨a, b, c, d⟩ => k a b c d
noncomputable def xE_Constant (e : Expr) (k : Const → Nat → Pos → Bool) : Bool := takeE e k (fun _ _ _ => false) (fun _ _ => false) (fun _ _ _ => false) (fun _ _ _ _ => false) (fun _ _ _ _ => false) (fun _ _ _ => false) (fun _ _ _ _ => false) (fun _ _ _ => false) (fun _ _ _ _ => false) (fun _ _ => false) (fun _ _ _ => false) (fun _ _ _ => false) (fun _ _ _ _ => false) (fun _ _ _ _ => false) (fun _ _ _ => false) (fun _ _ => false) (fun _ _ _ _ => false) (fun _ _ _ _ _ => false)
noncomputable def xC_none (e : Const) (k : Bool) : Bool := match e with | .none => k  | _ => false
noncomputable def xC_bool (e : Const) (k : Bool → Bool) : Bool := match e with | .bool a0 => k a0 | _ => false
noncomputable def xC_int (e : Const) (k : Int → Bool) : Bool := match e with | .int a0 => k a0 | _ => false
noncomputable def xE_UnaryOp (e : Expr) (k : UnaryOp → Expr → Pos → Bool) : Bool := takeE e (fun _ _ _ => false) k (fun _ _ => false) (fun _ _ _ => false) (fun _ _ _ _ => false) (fun _ _ _ _ => false) (fun _ _ _ => false) (fun _ _ _ _ => false) (fun _ _ _ => false) (fun _ _ _ _ => false) (fun _ _ => false) (fun _ _ _ => false) (fun _ _ _ => false) (fun _ _ _ _ => false) (fun _ _ _ _ => false) (fun _ _ _ => false) (fun _ _ => false) (fun _ _ _ _ => false) (fun _ _ _ _ _ => false)
noncomputable def xU_USub (e : UnaryOp) (k : Bool) : Bool := match e with | .USub => k  | _ => false
noncomputable def xC_str (e : Const) (k : Str → Bool) : Bool := match e with | .str a0 => k a0 | _ => false
noncomputable def xE_Name (e : Expr) (k : Str → Pos → Bool) : Bool := takeE e (fun _ _ _ => false) (fun _ _ _ => false) k (fun _ _ _ => false) (fun _ _ _ _ => false) (fun _ _ _ _ => false) (fun _ _ _ => false) (fun _ _ _ _ => false) (fun _ _ _ => false) (fun _ _ _ _ => false) (fun _ _ => false) (fun _ _ _ => false) (fun _ _ _ => false) (fun _ _ _ _ => false) (fun _ _ _ _ => false) (fun _ _ _ => false) (fun _ _ => false) (fun _ _ _ _ => false) (fun _ _ _ _ _ => false)
noncomputable def xE_Attribute (e : Expr) (k : Expr → Str → Pos → Bool) : Bool := takeE e (fun _ _ _ => false) (fun _ _ _ => false) (fun _ _ => false) k (fun _ _ _ _ => false) (fun _ _ _ _ => false) (fun _ _ _ => false) (fun _ _ _ _ => false) (fun _ _ _ => false) (fun _ _ _ _ => false) (fun _ _ => false) (fun _ _ _ => false) (fun _ _ _ => false) (fun _ _ _ _ => false) (fun _ _ _ _ => false) (fun _ _ _ => false) (fun _ _ => false) (fun _ _ _ _ => false) (fun _ _ _ _ _ => false)
noncomputable def xE_BinOp (e : Expr) (k : Expr → Operator → Expr → Pos → Bool) : Bool := takeE e (fun _ _ _ => false) (fun _ _ _ => false) (fun _ _ => false) (fun _ _ _ => false) k (fun _ _ _ _ => false) (fun _ _ _ => false) (fun _ _ _ _ => false) (fun _ _ _ => false) (fun _ _ _ _ => false) (fun _ _ => false) (fun _ _ _ => false) (fun _ _ _ => false) (fun _ _ _ _ => false) (fun _ _ _ _ => false) (fun _ _ _ => false) (fun _ _ => false) (fun _ _ _ _ => false) (fun _ _ _ _ _ => false)
noncomputable def xE_Compare (e : Expr) (k : Expr → List CmpOp → List Expr → Pos → Bool) : Bool := takeE e (fun _ _ _ => false) (fun _ _ _ => false) (fun _ _ => false) (fun _ _ _ => false) (fun _ _ _ _ => false) k (fun _ _ _ => false) (fun _ _ _ _ => false) (fun _ _ _ => false) (fun _ _ _ _ => false) (fun _ _ => false) (fun _ _ _ => false) (fun _ _ _ => false) (fun _ _ _ _ => false) (fun _ _ _ _ => false) (fun _ _ _ => false) (fun _ _ => false) (fun _ _ _ _ => false) (fun _ _ _ _ _ => false)
noncomputable def xU_Not (e : UnaryOp) (k : Bool) : Bool := match e with | .Not => k  | _ => false
noncomputable def xE_BoolOp (e : Expr) (k : BoolOp → List Expr → Pos → Bool) : Bool := takeE e (fun _ _ _ => false) (fun _ _ _ => false) (fun _ _ => false) (fun _ _ _ => false) (fun _ _ _ _ => false) (fun _ _ _ _ => false) k (fun _ _ _ _ => false) (fun _ _ _ => false) (fun _ _ _ _ => false) (fun _ _ => false) (fun _ _ _ => false) (fun _ _ _ => false) (fun _ _ _ _ => false) (fun _ _ _ _ => false) (fun _ _ _ => false) (fun _ _ => false) (fun _ _ _ _ => false) (fun _ _ _ _ _ => false)
noncomputable def xB_And (e : BoolOp) (k : Bool) : Bool := match e with | .And => k  | _ => false
noncomputable def xB_Or (e : BoolOp) (k : Bool) : Bool := match e with | .Or => k  | _ => false
noncomputable def xE_IfExp (e : Expr) (k : Expr → Expr → Expr → Pos → Bool) : Bool := takeE e (fun _ _ _ => false) (fun _ _ _ => false) (fun _ _ => false) (fun _ _ _ => false) (fun _ _ _ _ => false) (fun _ _ _ _ => false) (fun _ _ _ => false) k (fun _ _ _ => false) (fun _ _ _ _ => false) (fun _ _ => false) (fun _ _ _ => false) (fun _ _ _ => false) (fun _ _ _ _ => false) (fun _ _ _ _ => false) (fun _ _ _ => false) (fun _ _ => false) (fun _ _ _ _ => false) (fun _ _ _ _ _ => false)
noncomputable def xE_Subscript (e : Expr) (k : Expr → Expr → Pos → Bool) : Bool := takeE e (fun _ _ _ => false) (fun _ _ _ => false) (fun _ _ => false) (fun _ _ _ => false) (fun _ _ _ _ => false) (fun _ _ _ _ => false) (fun _ _ _ => false) (fun _ _ _ _ => false) k (fun _ _ _ _ => false) (fun _ _ => false) (fun _ _ _ => false) (fun _ _ _ => false) (fun _ _ _ _ => false) (fun _ _ _ _ => false) (fun _ _ _ => false) (fun _ _ => false) (fun _ _ _ _ => false) (fun _ _ _ _ _ => false)
noncomputable def xE_Slice (e : Expr) (k : Option Expr → Option Expr → Option Expr → Pos → Bool) : Bool := takeE e (fun _ _ _ => false) (fun _ _ _ => false) (fun _ _ => false) (fun _ _ _ => false) (fun _ _ _ _ => false) (fun _ _ _ _ => false) (fun _ _ _ => false) (fun _ _ _ _ => false) (fun _ _ _ => false) k (fun _ _ => false) (fun _ _ _ => false) (fun _ _ _ => false) (fun _ _ _ _ => false) (fun _ _ _ _ => false) (fun _ _ _ => false) (fun _ _ => false) (fun _ _ _ _ => false) (fun _ _ _ _ _ => false)
noncomputable def xE_List (e : Expr) (k : List Expr → Pos → Bool) : Bool := takeE e (fun _ _ _ => false) (fun _ _ _ => false) (fun _ _ => false) (fun _ _ _ => false) (fun _ _ _ _ => false) (fun _ _ _ _ => false) (fun _ _ _ => false) (fun _ _ _ _ => false) (fun _ _ _ => false) (fun _ _ _ _ => false) k (fun _ _ _ => false) (fun _ _ _ => false) (fun _ _ _ _ => false) (fun _ _ _ _ => false) (fun _ _ _ => false) (fun _ _ => false) (fun _ _ _ _ => false) (fun _ _ _ _ _ => false)
noncomputable def xE_Tuple (e : Expr) (k : List Expr → Nat → Pos → Bool) : Bool := takeE e (fun _ _ _ => false) (fun _ _ _ => false) (fun _ _ => false) (fun _ _ _ => false) (fun _ _ _ _ => false) (fun _ _ _ _ => false) (fun _ _ _ => false) (fun _ _ _ _ => false) (fun _ _ _ => false) (fun _ _ _ _ => false) (fun _ _ => false) k (fun _ _ _ => false) (fun _ _ _ _ => false) (fun _ _ _ _ => false) (fun _ _ _ => false) (fun _ _ => false) (fun _ _ _ _ => false) (fun _ _ _ _ _ => false)
noncomputable def xE_Dict (e : Expr) (k : List (Option Expr) → List Expr → Pos → Bool) : Bool := takeE e (fun _ _ _ => false) (fun _ _ _ => false) (fun _ _ => false) (fun _ _ _ => false) (fun _ _ _ _ => false) (fun _ _ _ _ => false) (fun _ _ _ => false) (fun _ _ _ _ => false) (fun _ _ _ => false) (fun _ _ _ _ => false) (fun _ _ => false) (fun _ _ _ => false) k (fun _ _ _ _ => false) (fun _ _ _ _ => false) (fun _ _ _ => false) (fun _ _ => false) (fun _ _ _ _ => false) (fun _ _ _ _ _ => false)
noncomputable def xE_ListComp (e : Expr) (k : Expr → List Comprehension → Scope → Pos → Bool) : Bool := takeE e (fun _ _ _ => false) (fun _ _ _ => false) (fun _ _ => false) (fun _ _ _ => false) (fun _ _ _ _ => false) (fun _ _ _ _ => false) (fun _ _ _ => false) (fun _ _ _ _ => false) (fun _ _ _ => false) (fun _ _ _ _ => false) (fun _ _ => false) (fun _ _ _ => false) (fun _ _ _ => false) k (fun _ _ _ _ => false) (fun _ _ _ => false) (fun _ _ => false) (fun _ _ _ _ => false) (fun _ _ _ _ _ => false)
noncomputable def xE_Call (e : Expr) (k : Expr → List Expr → List Keyword → Pos → Bool) : Bool := takeE e (fun _ _ _ => false) (fun _ _ _ => false) (fun _ _ => false) (fun _ _ _ => false) (fun _ _ _ _ => false) (fun _ _ _ _ => false) (fun _ _ _ => false) (fun _ _ _ _ => false) (fun _ _ _ => false) (fun _ _ _ _ => false) (fun _ _ => false) (fun _ _ _ => false) (fun _ _ _ => false) (fun _ _ _ _ => false) k (fun _ _ _ => false) (fun _ _ => false) (fun _ _ _ _ => false) (fun _ _ _ _ _ => false)
noncomputable def xS_Assign (e : Stmt) (k : List Expr → Expr → Pos → Bool) : Bool := takeS e k (fun _ _ => false) (fun _ _ => false) (fun _ _ _ _ => false) (fun _ _ _ _ => false) (fun _ _ _ _ _ => false)
noncomputable def xS_Expr (e : Stmt) (k : Expr → Pos → Bool) : Bool := takeS e (fun _ _ _ => false) k (fun _ _ => false) (fun _ _ _ _ => false) (fun _ _ _ _ => false) (fun _ _ _ _ _ => false)
noncomputable def xS_Return (e : Stmt) (k : Option Expr → Pos → Bool) : Bool := takeS e (fun _ _ _ => false) (fun _ _ => false) k (fun _ _ _ _ => false) (fun _ _ _ _ => false) (fun _ _ _ _ _ => false)
noncomputable def xS_If (e : Stmt) (k : Expr → List Stmt → List Stmt → Pos → Bool) : Bool := takeS e (fun _ _ _ => false) (fun _ _ => false) (fun _ _ => false) k (fun _ _ _ _ => false) (fun _ _ _ _ _ => false)
noncomputable def xS_While (e : Stmt) (k : Expr → List Stmt → List Stmt → Pos → Bool) : Bool := takeS e (fun _ _ _ => false) (fun _ _ => false) (fun _ _ => false) (fun _ _ _ _ => false) k (fun _ _ _ _ _ => false)
noncomputable def xS_For (e : Stmt) (k : Expr → Expr → List Stmt → List Stmt → Pos → Bool) : Bool := takeS e (fun _ _ _ => false) (fun _ _ => false) (fun _ _ => false) (fun _ _ _ _ => false) (fun _ _ _ _ => false) k

noncomputable def chkIsi (ce : CE) : List Nat → List Expr → Bool
  | [], l => xNil l true
  | c :: r, l => xCons l fun e t => xE_Name e fun id _ => isGlob ce id && id == isiName c && c < 28 && chkIsi ce r t

noncomputable def compCE (ce : CE) (sc : Scope) (x : Str) (slot : Nat) : CE :=
  { slots := (x, (slot, false)) :: (ce.slots.filter fun y => sc.names.lookup y.1 == some .free && !(y.1 == x)).map fun y => (y.1, (y.2.1, true))
    globs := (sc.names.filter fun y => y.2 == .globalImplicit).map (·.1) }
noncomputable def compOk (ce : CE) (sc : Scope) (x : Str) (slot : Nat) : Bool :=
  sc.kind == .function && sc.names.lookup x == some .local && notDebug x &&
  (sc.names.all fun y => y.2 != .cell && y.2 != .globalExplicit && sc.names.lookup y.1 == some y.2 && (y.2 != .free || (match ce.slots.lookup y.1 with | some (_, b) => b | none => false))) &&
  (ce.slots.all fun y => y.2.1 != slot)

mutual
noncomputable def chkE (ce : CE) : Ex → Expr → Bool
  | .none, e0 => xE_Constant e0 (fun t1 u1 u2 => xC_none t1 (true))
  | .bool b, e0 => xE_Constant e0 (fun t1 u1 u2 => xC_bool t1 (fun c => b == c))
  | .int i, e0 => xE_Constant e0 (fun t1 u1 u2 => xC_int t1 (fun j => i == j))
  | .neg i, e0 => xE_UnaryOp e0 (fun t1 t2 u3 => xU_USub t1 (xE_Constant t2 (fun t3 u1 u2 => xC_int t3 (fun j => i == j))))
  | .str s, e0 => xE_Constant e0 (fun t1 u1 u2 => xC_str t1 (fun t => s == t))
  | .glob i, e0 => xE_Name e0 (fun id u1 => isGlob ce id && id == gname i && i < 13)
  | .var i, e0 => xE_Name e0 (fun id u1 => slotIs ce id i)
  | .attr x a, e0 => xE_Attribute e0 (fun o n u1 => baseNA o && n == attrName a && chkE ce x o)
  | .bin o l r, e0 => xE_BinOp e0 (fun l' o' r' u1 => o' == bopOf o && chkE ce l l' && chkE ce r r')
  | .addC l r, e0 => xE_BinOp e0 (fun l' o' r' u1 => o' == .Add && chkE ce l l' && chkE ce r r')
  | .cmp o l r, e0 => xE_Compare e0 (fun l' t1 t2 u1 => xCons t1 (fun o' t3 => xNil t3 (xCons t2 (fun r' t4 => xNil t4 (o' == copOf o && notSet r' && chkE ce l l' && chkE ce r r')))))
  | .not x, e0 => xE_UnaryOp e0 (fun t1 x' u1 => xU_Not t1 (chkE ce x x'))
  | .and es, e0 => xE_BoolOp e0 (fun t1 vs u1 => xB_And t1 (chkEs ce es vs))
  | .or es, e0 => xE_BoolOp e0 (fun t1 vs u1 => xB_Or t1 (chkEs ce es vs))
  | .ite c a b, e0 => xE_IfExp e0 (fun c' a' b' u1 => chkE ce c c' && chkE ce a a' && chkE ce b b')
  | .sub x i, e0 => xE_Subscript e0 (fun x' i' u1 => notSlice i' && chkE ce x x' && chkE ce i i')
  | .slcTo x n, e0 => xE_Subscript e0 (fun x' t1 u2 => xE_Slice t1 (fun t2 t3 t4 u1 => xNone t2 (xSome t3 (fun n' => xNone t4 (chkE ce x x' && chkE ce n n')))))
  | .slcFrom x n, e0 => xE_Subscript e0 (fun x' t1 u2 => xE_Slice t1 (fun t2 t3 t4 u1 => xSome t2 (fun n' => xNone t3 (xNone t4 (chkE ce x x' && chkE ce n n')))))
  | .slcRev x, e0 => xE_Subscript e0 (fun x' t1 u6 => xE_Slice t1 (fun t2 t3 t4 u5 => xNone t2 (xNone t3 (xSome t4 (fun t5 => xE_UnaryOp t5 (fun t6 t7 u4 => xU_USub t6 (xE_Constant t7 (fun t8 u2 u3 => xC_int t8 (fun u1 => u1 == 1 && (chkE ce x x'))))))))))
  | .slcTwo x, e0 => xE_Subscript e0 (fun x' t1 u5 => xE_Slice t1 (fun t2 t3 t4 u4 => xNone t2 (xNone t3 (xSome t4 (fun t5 => xE_Constant t5 (fun t6 u2 u3 => xC_int t6 (fun u1 => u1 == 2 && (chkE ce x x'))))))))
  | .list es, e0 => xE_List e0 (fun vs u1 => vs.length < 100 && chkEs ce es vs)
  | .listC es, e0 => xE_List e0 (fun vs u1 => vs.length < 100 && chkEs ce es vs)
  | .tuple es, e0 => xE_Tuple e0 (fun vs u1 u2 => vs.length < 100 && chkEs ce es vs)
  | .dictC, e0 => xE_Dict e0 (fun t1 t2 u1 => xNil t1 (xNil t2 (true)))
  | .comp slot elt iter, e0 => xE_ListComp e0 (fun elt' t1 sc u3 => xCons t1 (fun t2 t3 => xComp t2 (fun t4 iter' t5 u2 => xE_Name t4 (fun x u1 => xNil t5 (xNil t3 (u2 == 0 && (compOk ce sc x slot && notSet iter' && chkE ce iter iter' && chkE (compCE ce sc x slot) elt elt')))))))
  | .compIf slot elt iter cond, e0 => xE_ListComp e0 (fun elt' t1 sc u3 => xCons t1 (fun t2 t3 => xComp t2 (fun t4 iter' t5 u2 => xE_Name t4 (fun x u1 => xCons t5 (fun cond' t6 => xNil t6 (xNil t3 (u2 == 0 && (compOk ce sc x slot && notSet iter' && chkE ce iter iter' && chkE (compCE ce sc x slot) elt elt' && chkE (compCE ce sc x slot) cond cond'))))))))
  | .len x, e0 => xE_Call e0 (fun t1 t2 t3 u2 => xE_Name t1 (fun id u1 => xCons t2 (fun x' t4 => xNil t4 (xNil t3 (isGlob ce id && id == Str.ofString "len" && notStar x' && chkE ce x x')))))
  | .range1 x, e0 => xE_Call e0 (fun t1 t2 t3 u2 => xE_Name t1 (fun id u1 => xCons t2 (fun x' t4 => xNil t4 (xNil t3 (isGlob ce id && id == Str.ofString "range" && notStar x' && chkE ce x x')))))
  | .range3 a b c, e0 => xE_Call e0 (fun t1 t2 t3 u2 => xE_Name t1 (fun id u1 => xCons t2 (fun a' t4 => xCons t4 (fun b' t5 => xCons t5 (fun c' t6 => xNil t6 (xNil t3 (isGlob ce id && id == Str.ofString "range" && notStar a' && notStar b' && notStar c' && chkE ce a a' && chkE ce b b' && chkE ce c c')))))))
  | .isi x cs, e0 => xE_Call e0 (fun t1 t2 t3 u2 => xE_Name t1 (fun id u1 => xCons t2 (fun x' t4 => xCons t4 (fun c' t5 => xNil t5 (xNil t3 (isGlob ce id && id == Str.ofString "isinstance" && notStar x' && chkE ce x x' && (xE_Name c' (fun _ _ => chkIsi ce cs [c'] && cs.length == 1) || xE_Tuple c' (fun es _ _ => chkIsi ce cs es && cs.length == 2))))))))
  | .abs x, e0 => xE_Call e0 (fun t1 t2 t3 u2 => xE_Name t1 (fun id u1 => xCons t2 (fun x' t4 => xNil t4 (xNil t3 (isGlob ce id && id == Str.ofString "abs" && notStar x' && chkE ce x x')))))
  | .listOf x, e0 => xE_Call e0 (fun t1 t2 t3 u2 => xE_Name t1 (fun id u1 => xCons t2 (fun x' t4 => xNil t4 (xNil t3 (isGlob ce id && id == Str.ofString "list" && notStar x' && chkE ce x x')))))
  | .tupleOf x, e0 => xE_Call e0 (fun t1 t2 t3 u2 => xE_Name t1 (fun id u1 => xCons t2 (fun x' t4 => xNil t4 (xNil t3 (isGlob ce id && id == Str.ofString "tuple" && notStar x' && chkE ce x x')))))
  | .mk c es, e0 => xE_Call e0 (fun t1 vs t2 u2 => xE_Name t1 (fun id u1 => xNil t2 (isGlob ce id && id == clsName c && c < 11 && vs.all notStar && vs.length < 10 && chkEs ce es vs)))
  | .new c, e0 => xE_Call e0 (fun t1 t2 t3 u2 => xE_Name t1 (fun id u1 => xNil t2 (xNil t3 (isGlob ce id && id == clsName c && (initOf c).isSome))))
  | .call f es, e0 => xE_Call e0 (fun t1 vs t2 u2 => xE_Name t1 (fun id u1 => xNil t2 (isGlob ce id && id == fnName f && f < 30 && vs.all notStar && vs.length < 10 && chkEs ce es vs)))
  | .callv i es, e0 => xE_Call e0 (fun t1 vs t2 u2 => xE_Name t1 (fun id u1 => xNil t2 (slotIs ce id i && vs.all notStar && vs.length < 10 && chkEs ce es vs)))
  | .meth o a es, e0 => xE_Call e0 (fun t1 vs t2 pos => xE_Attribute t1 (fun o' n apos => xNil t2 (baseNA o' && n == attrName a && apos.endLine == pos.line && vs.all notStar && vs.length < 10 && chkE ce o o' && chkEs ce es vs)))
  | .append o x, e0 => xE_Call e0 (fun t1 t2 t3 pos => xE_Attribute t1 (fun o' n apos => xCons t2 (fun x' t4 => xNil t4 (xNil t3 (baseNA o' && n == Str.ofString "append" && apos.endLine == pos.line && notStar x' && chkE ce o o' && chkE ce x x')))))
  | .pop o, e0 => xE_Call e0 (fun t1 t2 t3 pos => xE_Attribute t1 (fun o' n apos => xNil t2 (xNil t3 (baseNA o' && n == Str.ofString "pop" && apos.endLine == pos.line && chkE ce o o'))))
  | .pop0 o, e0 => xE_Call e0 (fun t1 t2 t3 pos => xE_Attribute t1 (fun o' n apos => xCons t2 (fun t4 t5 => xE_Constant t4 (fun t6 u2 u3 => xC_int t6 (fun u1 => xNil t5 (xNil t3 (u1 == 0 && (baseNA o' && n == Str.ofString "pop" && apos.endLine == pos.line && chkE ce o o'))))))))
  | .get o x d, e0 => xE_Call e0 (fun t1 t2 t3 pos => xE_Attribute t1 (fun o' n apos => xCons t2 (fun x' t4 => xCons t4 (fun d' t5 => xNil t5 (xNil t3 (baseNA o' && n == Str.ofString "get" && apos.endLine == pos.line && notStar x' && notStar d' && chkE ce o o' && chkE ce x x' && chkE ce d d'))))))
noncomputable def chkEs (ce : CE) : Exs → List Expr → Bool
  | .nil, l => (match l with | [] => true | _ => false)
  | .cons x r, l => (match l with | e :: t => notStar e && chkE ce x e && chkEs ce r t | [] => false)
end

noncomputable def chkTs (ce : CE) : List Nat → List Expr → Bool
  | [], l => xNil l true
  | i :: r, l => xCons l fun e t => xE_Name e fun id _ => slotIs ce id i && chkTs ce r t

mutual
noncomputable def chkS (ce : CE) : Sm → Stmt → Bool
  | .assign i x, e0 => xS_Assign e0 (fun t1 e u2 => xCons t1 (fun t2 t3 => xE_Name t2 (fun id u1 => xNil t3 (slotIs ce id i && chkE ce x e))))
  | .reslice i n, e0 => xS_Assign e0 (fun t1 t2 u5 => xCons t1 (fun t3 t4 => xE_Name t3 (fun id u1 => xNil t4 (xE_Subscript t2 (fun t5 t6 u4 => xE_Name t5 (fun id' u2 => xE_Slice t6 (fun t7 t8 t9 u3 => xNone t7 (xSome t8 (fun n' => xNone t9 (slotIs ce id i && id == id' && chkE ce n n'))))))))))
  | .astore o a x, e0 => xS_Assign e0 (fun t1 e u2 => xCons t1 (fun t2 t3 => xE_Attribute t2 (fun o' n u1 => xNil t3 (n == attrName a && chkE ce x e && chkE ce o o'))))
  | .sstore o i x, e0 => xS_Assign e0 (fun t1 e u2 => xCons t1 (fun t2 t3 => xE_Subscript t2 (fun o' i' u1 => xNil t3 (notSlice i' && chkE ce x e && chkE ce o o' && chkE ce i i'))))
  | .unpack is x, e0 => xS_Assign e0 (fun t1 e u3 => xCons t1 (fun t2 t3 => xE_Tuple t2 (fun ts u1 u2 => xNil t3 (chkTs ce is ts && isACall e && chkE ce x e))))
  | .multi is es, e0 => xS_Assign e0 (fun t1 t2 u5 => xCons t1 (fun t3 t4 => xE_Tuple t3 (fun ts u1 u2 => xNil t4 (xE_Tuple t2 (fun vs u3 u4 => chkTs ce is ts && is.length == vs.length && is.length < 100 && decide is.Nodup && (vs.all (foldedForSure 8) || !vs.all (constantsAlone 8)) && chkEs ce es vs)))))
  | .expr x, e0 => xS_Expr e0 (fun e u1 => isACall e && chkE ce x e)
  | .ret x, e0 => xS_Return e0 (fun t1 u1 => xSome t1 (fun e => chkE ce x e))
  | .ifs c a b, e0 => xS_If e0 (fun c' a' b' u1 => chkE ce c c' && chkSs ce a a' && chkSs ce b b')
  | .while c b, e0 => xS_While e0 (fun c' b' t1 u1 => xNil t1 (chkE ce c c' && chkSs ce b b'))
  | .for i it b, e0 => xS_For e0 (fun t1 it' b' t2 u2 => xE_Name t1 (fun id u1 => xNil t2 (slotIs ce id i && notSet it' && chkE ce it it' && chkSs ce b b')))
noncomputable def chkSs (ce : CE) : Sms → List Stmt → Bool
  | .nil, l => (match l with | [] => true | _ => false)
  | .cons x r, l => (match l with | s :: t => chkS ce x s && chkSs ce r t | [] => false)
end

/-- what is kept of a def: the small body, the number of its arguments, of its places -/
structure FnInfo where
  np : Nat
  ns : Nat
  body : Sms

/-- the places: the first words of the scope that are names of the def's own, in the scope's order -/
noncomputable def slotsFrom : Nat → List (Str × NameKind) → List (Str × (Nat × Bool))
  | _, [] => []
  | i, (x, k) :: r => match k with
    | .local => (x, (i, false)) :: slotsFrom (i + 1) r
    | .cell => (x, (i, true)) :: slotsFrom (i + 1) r
    | _ => slotsFrom i r
noncomputable def ceOf (sc : Scope) : CE := { slots := slotsFrom 0 sc.names, globs := (sc.names.filter fun y => y.2 == .globalImplicit).map (·.1) }

noncomputable def noV (v : Value) : Bool := match v with | .none => true | _ => false
noncomputable def xBody (b : FuncBody) (k : List Stmt → Bool) : Bool := match b with | .stmts l => k l | _ => false
noncomputable def chkFd (fd : FuncData) (f : FnInfo) : Bool :=
  fd.closure.isEmpty && fd.globals == mainGlobals && fd.builtins == builtinsNs && fd.scope.kind == .function && !fd.scope.isGenerator && !fd.scope.isCoroutine &&
  xNil fd.params.posonlyargs (xNone fd.params.vararg (xNil fd.params.kwonlyargs (xNil fd.params.kw_defaults (xNone fd.params.kwarg (xNil fd.params.defaults
    (fd.params.args.length == f.np && (fd.params.args.map (·.arg)) == (fd.scope.names.take f.np).map (·.1))))))) &&
  decide (fd.scope.names.map (·.1)).Nodup && (fd.scope.names.all fun y => y.2 == .local || y.2 == .cell || y.2 == .globalImplicit) && ((fd.scope.names.take f.np).all fun y => y.2 == .local || y.2 == .cell) &&
  noV fd.defaults && xBody fd.body fun b => chkSs (ceOf fd.scope) f.body b

/-! ## the takers turned round -/
theorem xNil_inv {α : Type} {l : List α} {k : Bool} {M : List α → Prop} (h : xNil l k = true) (g : k = true → M []) : M l := by
  cases l with
  | nil => exact g h
  | cons _ _ => exact absurd h Bool.false_ne_true
theorem xCons_inv {α : Type} {l : List α} {k : α → List α → Bool} {M : List α → Prop} (h : xCons l k = true) (g : ∀ a r, k a r = true → M (a :: r)) : M l := by
  cases l with
  | nil => exact absurd h Bool.false_ne_true
  | cons a r => exact g a r h
theorem xNone_inv {α : Type} {l : Option α} {k : Bool} {M : Option α → Prop} (h : xNone l k = true) (g : k = true → M Option.none) : M l := by
  cases l with
  | none => exact g h
  | some _ => exact absurd h Bool.false_ne_true
theorem xSome_inv {α : Type} {l : Option α} {k : α → Bool} {M : Option α → Prop} (h : xSome l k = true) (g : ∀ a, k a = true → M (some a)) : M l := by
  cases l with
  | none => exact absurd h Bool.false_ne_true
  | some a => exact g a h
theorem xComp_inv {v : Comprehension} {k : Expr → Expr → List Expr → Int → Bool} {M : Comprehension → Prop} (h : xComp v k = true) (g : ∀ a b c d, k a b c d = true → M ⟨a, b, c, d⟩) : M v := by
  cases v with
  | mk a b c d => exact g a b c d h
theorem xLit_inv {i j : Int} {k : Bool} {M : Int → Prop} (h : (i == j && k) = true) (g : k = true → M j) : M i := by
  have h := Bool.and_eq_true_iff.mp h
  rw [eq_of_beq h.1]
  exact g h.2
theorem takeE_inv {e : Expr} {k0 : Const → Nat → Pos → Bool} {k1 : UnaryOp → Expr → Pos → Bool} {k2 : Str → Pos → Bool} {k3 : Expr → Str → Pos → Bool} {k4 : Expr → Operator → Expr → Pos → Bool} {k5 : Expr → List CmpOp → List Expr → Pos → Bool} {k6 : BoolOp → List Expr → Pos → Bool} {k7 : Expr → Expr → Expr → Pos → Bool} {k8 : Expr → Expr → Pos → Bool} {k9 : Option Expr → Option Expr → Option Expr → Pos → Bool} {k10 : List Expr → Pos → Bool} {k11 : List Expr → Nat → Pos → Bool} {k12 : List (Option Expr) → List Expr → Pos → Bool} {k13 : Expr → List Comprehension → Scope → Pos → Bool} {k14 : Expr → List Expr → List Keyword → Pos → Bool} {k15 : List Expr → Nat → Pos → Bool} {k16 : Expr → Pos → Bool} {k17 : Expr → List Comprehension → Scope → Pos → Bool} {k18 : Expr → Expr → List Comprehension → Scope → Pos → Bool} {M : Expr → Prop} (h : takeE e k0 k1 k2 k3 k4 k5 k6 k7 k8 k9 k10 k11 k12 k13 k14 k15 k16 k17 k18 = true)
    (g0 : ∀ a0 a1 a2, k0 a0 a1 a2 = true → M (.Constant a0 a1 a2))
    (g1 : ∀ a0 a1 a2, k1 a0 a1 a2 = true → M (.UnaryOp a0 a1 a2))
    (g2 : ∀ a0 a1, k2 a0 a1 = true → M (.Name a0 a1))
    (g3 : ∀ a0 a1 a2, k3 a0 a1 a2 = true → M (.Attribute a0 a1 a2))
    (g4 : ∀ a0 a1 a2 a3, k4 a0 a1 a2 a3 = true → M (.BinOp a0 a1 a2 a3))
    (g5 : ∀ a0 a1 a2 a3, k5 a0 a1 a2 a3 = true → M (.Compare a0 a1 a2 a3))
    (g6 : ∀ a0 a1 a2, k6 a0 a1 a2 = true → M (.BoolOp a0 a1 a2))
    (g7 : ∀ a0 a1 a2 a3, k7 a0 a1 a2 a3 = true → M (.IfExp a0 a1 a2 a3))
    (g8 : ∀ a0 a1 a2, k8 a0 a1 a2 = true → M (.Subscript a0 a1 a2))
    (g9 : ∀ a0 a1 a2 a3, k9 a0 a1 a2 a3 = true → M (.Slice a0 a1 a2 a3))
    (g10 : ∀ a0 a1, k10 a0 a1 = true → M (.List a0 a1))
    (g11 : ∀ a0 a1 a2, k11 a0 a1 a2 = true → M (.Tuple a0 a1 a2))
    (g12 : ∀ a0 a1 a2, k12 a0 a1 a2 = true → M (.Dict a0 a1 a2))
    (g13 : ∀ a0 a1 a2 a3, k13 a0 a1 a2 a3 = true → M (.ListComp a0 a1 a2 a3))
    (g14 : ∀ a0 a1 a2 a3, k14 a0 a1 a2 a3 = true → M (.Call a0 a1 a2 a3))
    (g15 : ∀ a0 a1 a2, k15 a0 a1 a2 = true → M (.Set a0 a1 a2))
    (g16 : ∀ a0 a1, k16 a0 a1 = true → M (.Starred a0 a1))
    (g17 : ∀ a0 a1 a2 a3, k17 a0 a1 a2 a3 = true → M (.SetComp a0 a1 a2 a3))
    (g18 : ∀ a0 a1 a2 a3 a4, k18 a0 a1 a2 a3 a4 = true → M (.DictComp a0 a1 a2 a3 a4)) : M e := by
  cases e with
  | Constant a0 a1 a2 => exact g0 a0 a1 a2 h
  | UnaryOp a0 a1 a2 => exact g1 a0 a1 a2 h
  | Name a0 a1 => exact g2 a0 a1 h
  | Attribute a0 a1 a2 => exact g3 a0 a1 a2 h
  | BinOp a0 a1 a2 a3 => exact g4 a0 a1 a2 a3 h
  | Compare a0 a1 a2 a3 => exact g5 a0 a1 a2 a3 h
  | BoolOp a0 a1 a2 => exact g6 a0 a1 a2 h
  | IfExp a0 a1 a2 a3 => exact g7 a0 a1 a2 a3 h
  | Subscript a0 a1 a2 => exact g8 a0 a1 a2 h
  | Slice a0 a1 a2 a3 => exact g9 a0 a1 a2 a3 h
  | List a0 a1 => exact g10 a0 a1 h
  | Tuple a0 a1 a2 => exact g11 a0 a1 a2 h
  | Dict a0 a1 a2 => exact g12 a0 a1 a2 h
  | ListComp a0 a1 a2 a3 => exact g13 a0 a1 a2 a3 h
  | Call a0 a1 a2 a3 => exact g14 a0 a1 a2 a3 h
  | Set a0 a1 a2 => exact g15 a0 a1 a2 h
  | Starred a0 a1 => exact g16 a0 a1 h
  | SetComp a0 a1 a2 a3 => exact g17 a0 a1 a2 a3 h
  | DictComp a0 a1 a2 a3 a4 => exact g18 a0 a1 a2 a3 a4 h
  | _ => exact absurd h Bool.false_ne_true
theorem takeS_inv {e : Stmt} {k0 : List Expr → Expr → Pos → Bool} {k1 : Expr → Pos → Bool} {k2 : Option Expr → Pos → Bool} {k3 : Expr → List Stmt → List Stmt → Pos → Bool} {k4 : Expr → List Stmt → List Stmt → Pos → Bool} {k5 : Expr → Expr → List Stmt → List Stmt → Pos → Bool} {M : Stmt → Prop} (h : takeS e k0 k1 k2 k3 k4 k5 = true)
    (g0 : ∀ a0 a1 a2, k0 a0 a1 a2 = true → M (.Assign a0 a1 a2))
    (g1 : ∀ a0 a1, k1 a0 a1 = true → M (.Expr a0 a1))
    (g2 : ∀ a0 a1, k2 a0 a1 = true → M (.Return a0 a1))
    (g3 : ∀ a0 a1 a2 a3, k3 a0 a1 a2 a3 = true → M (.If a0 a1 a2 a3))
    (g4 : ∀ a0 a1 a2 a3, k4 a0 a1 a2 a3 = true → M (.While a0 a1 a2 a3))
    (g5 : ∀ a0 a1 a2 a3 a4, k5 a0 a1 a2 a3 a4 = true → M (.For a0 a1 a2 a3 a4)) : M e := by
  cases e with
  | Assign a0 a1 a2 => exact g0 a0 a1 a2 h
  | Expr a0 a1 => exact g1 a0 a1 h
  | Return a0 a1 => exact g2 a0 a1 h
  | If a0 a1 a2 a3 => exact g3 a0 a1 a2 a3 h
  | While a0 a1 a2 a3 => exact g4 a0 a1 a2 a3 h
  | For a0 a1 a2 a3 a4 => exact g5 a0 a1 a2 a3 a4 h
  | _ => exact absurd h Bool.false_ne_true
theorem xE_Constant_inv {e : Expr} {k : Const → Nat → Pos → Bool} {M : Expr → Prop} (h : xE_Constant e k = true) (g : ∀ a0 a1 a2, k a0 a1 a2 = true → M (.Constant a0 a1 a2)) : M e :=
  takeE_inv h g (fun _ _ _ h => absurd h Bool.false_ne_true) (fun _ _ h => absurd h Bool.false_ne_true) (fun _ _ _ h => absurd h Bool.false_ne_true) (fun _ _ _ _ h => absurd h Bool.false_ne_true) (fun _ _ _ _ h => absurd h Bool.false_ne_true) (fun _ _ _ h => absurd h Bool.false_ne_true) (fun _ _ _ _ h => absurd h Bool.false_ne_true) (fun _ _ _ h => absurd h Bool.false_ne_true) (fun _ _ _ _ h => absurd h Bool.false_ne_true) (fun _ _ h => absurd h Bool.false_ne_true) (fun _ _ _ h => absurd h Bool.false_ne_true) (fun _ _ _ h => absurd h Bool.false_ne_true) (fun _ _ _ _ h => absurd h Bool.false_ne_true) (fun _ _ _ _ h => absurd h Bool.false_ne_true) (fun _ _ _ h => absurd h Bool.false_ne_true) (fun _ _ h => absurd h Bool.false_ne_true) (fun _ _ _ _ h => absurd h Bool.false_ne_true) (fun _ _ _ _ _ h => absurd h Bool.false_ne_true)
theorem xC_none_inv {e : Const} {k : Bool} {M : Const → Prop} (h : xC_none e k = true) (g : k  = true → M (.none )) : M e := by
  cases e with
  | none  => exact g  h
  | _ => exact absurd h Bool.false_ne_true
theorem xC_bool_inv {e : Const} {k : Bool → Bool} {M : Const → Prop} (h : xC_bool e k = true) (g : ∀ a0, k a0 = true → M (.bool a0)) : M e := by
  cases e with
  | bool a0 => exact g a0 h
  | _ => exact absurd h Bool.false_ne_true
theorem xC_int_inv {e : Const} {k : Int → Bool} {M : Const → Prop} (h : xC_int e k = true) (g : ∀ a0, k a0 = true → M (.int a0)) : M e := by
  cases e with
  | int a0 => exact g a0 h
  | _ => exact absurd h Bool.false_ne_true
theorem xE_UnaryOp_inv {e : Expr} {k : UnaryOp → Expr → Pos → Bool} {M : Expr → Prop} (h : xE_UnaryOp e k = true) (g : ∀ a0 a1 a2, k a0 a1 a2 = true → M (.UnaryOp a0 a1 a2)) : M e :=
  takeE_inv h (fun _ _ _ h => absurd h Bool.false_ne_true) g (fun _ _ h => absurd h Bool.false_ne_true) (fun _ _ _ h => absurd h Bool.false_ne_true) (fun _ _ _ _ h => absurd h Bool.false_ne_true) (fun _ _ _ _ h => absurd h Bool.false_ne_true) (fun _ _ _ h => absurd h Bool.false_ne_true) (fun _ _ _ _ h => absurd h Bool.false_ne_true) (fun _ _ _ h => absurd h Bool.false_ne_true) (fun _ _ _ _ h => absurd h Bool.false_ne_true) (fun _ _ h => absurd h Bool.false_ne_true) (fun _ _ _ h => absurd h Bool.false_ne_true) (fun _ _ _ h => absurd h Bool.false_ne_true) (fun _ _ _ _ h => absurd h Bool.false_ne_true) (fun _ _ _ _ h => absurd h Bool.false_ne_true) (fun _ _ _ h => absurd h Bool.false_ne_true) (fun _ _ h => absurd h Bool.false_ne_true) (fun _ _ _ _ h => absurd h Bool.false_ne_true) (fun _ _ _ _ _ h => absurd h Bool.false_ne_true)
theorem xU_USub_inv {e : UnaryOp} {k : Bool} {M : UnaryOp → Prop} (h : xU_USub e k = true) (g : k  = true → M (.USub )) : M e := by
  cases e with
  | USub  => exact g  h
  | _ => exact absurd h Bool.false_ne_true
theorem xC_str_inv {e : Const} {k : Str → Bool} {M : Const → Prop} (h : xC_str e k = true) (g : ∀ a0, k a0 = true → M (.str a0)) : M e := by
  cases e with
  | str a0 => exact g a0 h
  | _ => exact absurd h Bool.false_ne_true
theorem xE_Name_inv {e : Expr} {k : Str → Pos → Bool} {M : Expr → Prop} (h : xE_Name e k = true) (g : ∀ a0 a1, k a0 a1 = true → M (.Name a0 a1)) : M e :=
  takeE_inv h (fun _ _ _ h => absurd h Bool.false_ne_true) (fun _ _ _ h => absurd h Bool.false_ne_true) g (fun _ _ _ h => absurd h Bool.false_ne_true) (fun _ _ _ _ h => absurd h Bool.false_ne_true) (fun _ _ _ _ h => absurd h Bool.false_ne_true) (fun _ _ _ h => absurd h Bool.false_ne_true) (fun _ _ _ _ h => absurd h Bool.false_ne_true) (fun _ _ _ h => absurd h Bool.false_ne_true) (fun _ _ _ _ h => absurd h Bool.false_ne_true) (fun _ _ h => absurd h Bool.false_ne_true) (fun _ _ _ h => absurd h Bool.false_ne_true) (fun _ _ _ h => absurd h Bool.false_ne_true) (fun _ _ _ _ h => absurd h Bool.false_ne_true) (fun _ _ _ _ h => absurd h Bool.false_ne_true) (fun _ _ _ h => absurd h Bool.false_ne_true) (fun _ _ h => absurd h Bool.false_ne_true) (fun _ _ _ _ h => absurd h Bool.false_ne_true) (fun _ _ _ _ _ h => absurd h Bool.false_ne_true)
theorem xE_Attribute_inv {e : Expr} {k : Expr → Str → Pos → Bool} {M : Expr → Prop} (h : xE_Attribute e k = true) (g : ∀ a0 a1 a2, k a0 a1 a2 = true → M (.Attribute a0 a1 a2)) : M e :=
  takeE_inv h (fun _ _ _ h => absurd h Bool.false_ne_true) (fun _ _ _ h => absurd h Bool.false_ne_true) (fun _ _ h => absurd h Bool.false_ne_true) g (fun _ _ _ _ h => absurd h Bool.false_ne_true) (fun _ _ _ _ h => absurd h Bool.false_ne_true) (fun _ _ _ h => absurd h Bool.false_ne_true) (fun _ _ _ _ h => absurd h Bool.false_ne_true) (fun _ _ _ h => absurd h Bool.false_ne_true) (fun _ _ _ _ h => absurd h Bool.false_ne_true) (fun _ _ h => absurd h Bool.false_ne_true) (fun _ _ _ h => absurd h Bool.false_ne_true) (fun _ _ _ h => absurd h Bool.false_ne_true) (fun _ _ _ _ h => absurd h Bool.false_ne_true) (fun _ _ _ _ h => absurd h Bool.false_ne_true) (fun _ _ _ h => absurd h Bool.false_ne_true) (fun _ _ h => absurd h Bool.false_ne_true) (fun _ _ _ _ h => absurd h Bool.false_ne_true) (fun _ _ _ _ _ h => absurd h Bool.false_ne_true)
theorem xE_BinOp_inv {e : Expr} {k : Expr → Operator → Expr → Pos → Bool} {M : Expr → Prop} (h : xE_BinOp e k = true) (g : ∀ a0 a1 a2 a3, k a0 a1 a2 a3 = true → M (.BinOp a0 a1 a2 a3)) : M e :=
  takeE_inv h (fun _ _ _ h => absurd h Bool.false_ne_true) (fun _ _ _ h => absurd h Bool.false_ne_true) (fun _ _ h => absurd h Bool.false_ne_true) (fun _ _ _ h => absurd h Bool.false_ne_true) g (fun _ _ _ _ h => absurd h Bool.false_ne_true) (fun _ _ _ h => absurd h Bool.false_ne_true) (fun _ _ _ _ h => absurd h Bool.false_ne_true) (fun _ _ _ h => absurd h Bool.false_ne_true) (fun _ _ _ _ h => absurd h Bool.false_ne_true) (fun _ _ h => absurd h Bool.false_ne_true) (fun _ _ _ h => absurd h Bool.false_ne_true) (fun _ _ _ h => absurd h Bool.false_ne_true) (fun _ _ _ _ h => absurd h Bool.false_ne_true) (fun _ _ _ _ h => absurd h Bool.false_ne_true) (fun _ _ _ h => absurd h Bool.false_ne_true) (fun _ _ h => absurd h Bool.false_ne_true) (fun _ _ _ _ h => absurd h Bool.false_ne_true) (fun _ _ _ _ _ h => absurd h Bool.false_ne_true)
theorem xE_Compare_inv {e : Expr} {k : Expr → List CmpOp → List Expr → Pos → Bool} {M : Expr → Prop} (h : xE_Compare e k = true) (g : ∀ a0 a1 a2 a3, k a0 a1 a2 a3 = true → M (.Compare a0 a1 a2 a3)) : M e :=
  takeE_inv h (fun _ _ _ h => absurd h Bool.false_ne_true) (fun _ _ _ h => absurd h Bool.false_ne_true) (fun _ _ h => absurd h Bool.false_ne_true) (fun _ _ _ h => absurd h Bool.false_ne_true) (fun _ _ _ _ h => absurd h Bool.false_ne_true) g (fun _ _ _ h => absurd h Bool.false_ne_true) (fun _ _ _ _ h => absurd h Bool.false_ne_true) (fun _ _ _ h => absurd h Bool.false_ne_true) (fun _ _ _ _ h => absurd h Bool.false_ne_true) (fun _ _ h => absurd h Bool.false_ne_true) (fun _ _ _ h => absurd h Bool.false_ne_true) (fun _ _ _ h => absurd h Bool.false_ne_true) (fun _ _ _ _ h => absurd h Bool.false_ne_true) (fun _ _ _ _ h => absurd h Bool.false_ne_true) (fun _ _ _ h => absurd h Bool.false_ne_true) (fun _ _ h => absurd h Bool.false_ne_true) (fun _ _ _ _ h => absurd h Bool.false_ne_true) (fun _ _ _ _ _ h => absurd h Bool.false_ne_true)
theorem xU_Not_inv {e : UnaryOp} {k : Bool} {M : UnaryOp → Prop} (h : xU_Not e k = true) (g : k  = true → M (.Not )) : M e := by
  cases e with
  | Not  => exact g  h
  | _ => exact absurd h Bool.false_ne_true
theorem xE_BoolOp_inv {e : Expr} {k : BoolOp → List Expr → Pos → Bool} {M : Expr → Prop} (h : xE_BoolOp e k = true) (g : ∀ a0 a1 a2, k a0 a1 a2 = true → M (.BoolOp a0 a1 a2)) : M e :=
  takeE_inv h (fun _ _ _ h => absurd h Bool.false_ne_true) (fun _ _ _ h => absurd h Bool.false_ne_true) (fun _ _ h => absurd h Bool.false_ne_true) (fun _ _ _ h => absurd h Bool.false_ne_true) (fun _ _ _ _ h => absurd h Bool.false_ne_true) (fun _ _ _ _ h => absurd h Bool.false_ne_true) g (fun _ _ _ _ h => absurd h Bool.false_ne_true) (fun _ _ _ h => absurd h Bool.false_ne_true) (fun _ _ _ _ h => absurd h Bool.false_ne_true) (fun _ _ h => absurd h Bool.false_ne_true) (fun _ _ _ h => absurd h Bool.false_ne_true) (fun _ _ _ h => absurd h Bool.false_ne_true) (fun _ _ _ _ h => absurd h Bool.false_ne_true) (fun _ _ _ _ h => absurd h Bool.false_ne_true) (fun _ _ _ h => absurd h Bool.false_ne_true) (fun _ _ h => absurd h Bool.false_ne_true) (fun _ _ _ _ h => absurd h Bool.false_ne_true) (fun _ _ _ _ _ h => absurd h Bool.false_ne_true)
theorem xB_And_inv {e : BoolOp} {k : Bool} {M : BoolOp → Prop} (h : xB_And e k = true) (g : k  = true → M (.And )) : M e := by
  cases e with
  | And  => exact g  h
  | _ => exact absurd h Bool.false_ne_true
theorem xB_Or_inv {e : BoolOp} {k : Bool} {M : BoolOp → Prop} (h : xB_Or e k = true) (g : k  = true → M (.Or )) : M e := by
  cases e with
  | Or  => exact g  h
  | _ => exact absurd h Bool.false_ne_true
theorem xE_IfExp_inv {e : Expr} {k : Expr → Expr → Expr → Pos → Bool} {M : Expr → Prop} (h : xE_IfExp e k = true) (g : ∀ a0 a1 a2 a3, k a0 a1 a2 a3 = true → M (.IfExp a0 a1 a2 a3)) : M e :=
  takeE_inv h (fun _ _ _ h => absurd h Bool.false_ne_true) (fun _ _ _ h => absurd h Bool.false_ne_true) (fun _ _ h => absurd h Bool.false_ne_true) (fun _ _ _ h => absurd h Bool.false_ne_true) (fun _ _ _ _ h => absurd h Bool.false_ne_true) (fun _ _ _ _ h => absurd h Bool.false_ne_true) (fun _ _ _ h => absurd h Bool.false_ne_true) g (fun _ _ _ h => absurd h Bool.false_ne_true) (fun _ _ _ _ h => absurd h Bool.false_ne_true) (fun _ _ h => absurd h Bool.false_ne_true) (fun _ _ _ h => absurd h Bool.false_ne_true) (fun _ _ _ h => absurd h Bool.false_ne_true) (fun _ _ _ _ h => absurd h Bool.false_ne_true) (fun _ _ _ _ h => absurd h Bool.false_ne_true) (fun _ _ _ h => absurd h Bool.false_ne_true) (fun _ _ h => absurd h Bool.false_ne_true) (fun _ _ _ _ h => absurd h Bool.false_ne_true) (fun _ _ _ _ _ h => absurd h Bool.false_ne_true)
theorem xE_Subscript_inv {e : Expr} {k : Expr → Expr → Pos → Bool} {M : Expr → Prop} (h : xE_Subscript e k = true) (g : ∀ a0 a1 a2, k a0 a1 a2 = true → M (.Subscript a0 a1 a2)) : M e :=
  takeE_inv h (fun _ _ _ h => absurd h Bool.false_ne_true) (fun _ _ _ h => absurd h Bool.false_ne_true) (fun _ _ h => absurd h Bool.false_ne_true) (fun _ _ _ h => absurd h Bool.false_ne_true) (fun _ _ _ _ h => absurd h Bool.false_ne_true) (fun _ _ _ _ h => absurd h Bool.false_ne_true) (fun _ _ _ h => absurd h Bool.false_ne_true) (fun _ _ _ _ h => absurd h Bool.false_ne_true) g (fun _ _ _ _ h => absurd h Bool.false_ne_true) (fun _ _ h => absurd h Bool.false_ne_true) (fun _ _ _ h => absurd h Bool.false_ne_true) (fun _ _ _ h => absurd h Bool.false_ne_true) (fun _ _ _ _ h => absurd h Bool.false_ne_true) (fun _ _ _ _ h => absurd h Bool.false_ne_true) (fun _ _ _ h => absurd h Bool.false_ne_true) (fun _ _ h => absurd h Bool.false_ne_true) (fun _ _ _ _ h => absurd h Bool.false_ne_true) (fun _ _ _ _ _ h => absurd h Bool.false_ne_true)
theorem xE_Slice_inv {e : Expr} {k : Option Expr → Option Expr → Option Expr → Pos → Bool} {M : Expr → Prop} (h : xE_Slice e k = true) (g : ∀ a0 a1 a2 a3, k a0 a1 a2 a3 = true → M (.Slice a0 a1 a2 a3)) : M e :=
  takeE_inv h (fun _ _ _ h => absurd h Bool.false_ne_true) (fun _ _ _ h => absurd h Bool.false_ne_true) (fun _ _ h => absurd h Bool.false_ne_true) (fun _ _ _ h => absurd h Bool.false_ne_true) (fun _ _ _ _ h => absurd h Bool.false_ne_true) (fun _ _ _ _ h => absurd h Bool.false_ne_true) (fun _ _ _ h => absurd h Bool.false_ne_true) (fun _ _ _ _ h => absurd h Bool.false_ne_true) (fun _ _ _ h => absurd h Bool.false_ne_true) g (fun _ _ h => absurd h Bool.false_ne_true) (fun _ _ _ h => absurd h Bool.false_ne_true) (fun _ _ _ h => absurd h Bool.false_ne_true) (fun _ _ _ _ h => absurd h Bool.false_ne_true) (fun _ _ _ _ h => absurd h Bool.false_ne_true) (fun _ _ _ h => absurd h Bool.false_ne_true) (fun _ _ h => absurd h Bool.false_ne_true) (fun _ _ _ _ h => absurd h Bool.false_ne_true) (fun _ _ _ _ _ h => absurd h Bool.false_ne_true)
theorem xE_List_inv {e : Expr} {k : List Expr → Pos → Bool} {M : Expr → Prop} (h : xE_List e k = true) (g : ∀ a0 a1, k a0 a1 = true → M (.List a0 a1)) : M e :=
  takeE_inv h (fun _ _ _ h => absurd h Bool.false_ne_true) (fun _ _ _ h => absurd h Bool.false_ne_true) (fun _ _ h => absurd h Bool.false_ne_true) (fun _ _ _ h => absurd h Bool.false_ne_true) (fun _ _ _ _ h => absurd h Bool.false_ne_true) (fun _ _ _ _ h => absurd h Bool.false_ne_true) (fun _ _ _ h => absurd h Bool.false_ne_true) (fun _ _ _ _ h => absurd h Bool.false_ne_true) (fun _ _ _ h => absurd h Bool.false_ne_true) (fun _ _ _ _ h => absurd h Bool.false_ne_true) g (fun _ _ _ h => absurd h Bool.false_ne_true) (fun _ _ _ h => absurd h Bool.false_ne_true) (fun _ _ _ _ h => absurd h Bool.false_ne_true) (fun _ _ _ _ h => absurd h Bool.false_ne_true) (fun _ _ _ h => absurd h Bool.false_ne_true) (fun _ _ h => absurd h Bool.false_ne_true) (fun _ _ _ _ h => absurd h Bool.false_ne_true) (fun _ _ _ _ _ h => absurd h Bool.false_ne_true)
theorem xE_Tuple_inv {e : Expr} {k : List Expr → Nat → Pos → Bool} {M : Expr → Prop} (h : xE_Tuple e k = true) (g : ∀ a0 a1 a2, k a0 a1 a2 = true → M (.Tuple a0 a1 a2)) : M e :=
  takeE_inv h (fun _ _ _ h => absurd h Bool.false_ne_true) (fun _ _ _ h => absurd h Bool.false_ne_true) (fun _ _ h => absurd h Bool.false_ne_true) (fun _ _ _ h => absurd h Bool.false_ne_true) (fun _ _ _ _ h => absurd h Bool.false_ne_true) (fun _ _ _ _ h => absurd h Bool.false_ne_true) (fun _ _ _ h => absurd h Bool.false_ne_true) (fun _ _ _ _ h => absurd h Bool.false_ne_true) (fun _ _ _ h => absurd h Bool.false_ne_true) (fun _ _ _ _ h => absurd h Bool.false_ne_true) (fun _ _ h => absurd h Bool.false_ne_true) g (fun _ _ _ h => absurd h Bool.false_ne_true) (fun _ _ _ _ h => absurd h Bool.false_ne_true) (fun _ _ _ _ h => absurd h Bool.false_ne_true) (fun _ _ _ h => absurd h Bool.false_ne_true) (fun _ _ h => absurd h Bool.false_ne_true) (fun _ _ _ _ h => absurd h Bool.false_ne_true) (fun _ _ _ _ _ h => absurd h Bool.false_ne_true)
theorem xE_Dict_inv {e : Expr} {k : List (Option Expr) → List Expr → Pos → Bool} {M : Expr → Prop} (h : xE_Dict e k = true) (g : ∀ a0 a1 a2, k a0 a1 a2 = true → M (.Dict a0 a1 a2)) : M e :=
  takeE_inv h (fun _ _ _ h => absurd h Bool.false_ne_true) (fun _ _ _ h => absurd h Bool.false_ne_true) (fun _ _ h => absurd h Bool.false_ne_true) (fun _ _ _ h => absurd h Bool.false_ne_true) (fun _ _ _ _ h => absurd h Bool.false_ne_true) (fun _ _ _ _ h => absurd h Bool.false_ne_true) (fun _ _ _ h => absurd h Bool.false_ne_true) (fun _ _ _ _ h => absurd h Bool.false_ne_true) (fun _ _ _ h => absurd h Bool.false_ne_true) (fun _ _ _ _ h => absurd h Bool.false_ne_true) (fun _ _ h => absurd h Bool.false_ne_true) (fun _ _ _ h => absurd h Bool.false_ne_true) g (fun _ _ _ _ h => absurd h Bool.false_ne_true) (fun _ _ _ _ h => absurd h Bool.false_ne_true) (fun _ _ _ h => absurd h Bool.false_ne_true) (fun _ _ h => absurd h Bool.false_ne_true) (fun _ _ _ _ h => absurd h Bool.false_ne_true) (fun _ _ _ _ _ h => absurd h Bool.false_ne_true)
theorem xE_ListComp_inv {e : Expr} {k : Expr → List Comprehension → Scope → Pos → Bool} {M : Expr → Prop} (h : xE_ListComp e k = true) (g : ∀ a0 a1 a2 a3, k a0 a1 a2 a3 = true → M (.ListComp a0 a1 a2 a3)) : M e :=
  takeE_inv h (fun _ _ _ h => absurd h Bool.false_ne_true) (fun _ _ _ h => absurd h Bool.false_ne_true) (fun _ _ h => absurd h Bool.false_ne_true) (fun _ _ _ h => absurd h Bool.false_ne_true) (fun _ _ _ _ h => absurd h Bool.false_ne_true) (fun _ _ _ _ h => absurd h Bool.false_ne_true) (fun _ _ _ h => absurd h Bool.false_ne_true) (fun _ _ _ _ h => absurd h Bool.false_ne_true) (fun _ _ _ h => absurd h Bool.false_ne_true) (fun _ _ _ _ h => absurd h Bool.false_ne_true) (fun _ _ h => absurd h Bool.false_ne_true) (fun _ _ _ h => absurd h Bool.false_ne_true) (fun _ _ _ h => absurd h Bool.false_ne_true) g (fun _ _ _ _ h => absurd h Bool.false_ne_true) (fun _ _ _ h => absurd h Bool.false_ne_true) (fun _ _ h => absurd h Bool.false_ne_true) (fun _ _ _ _ h => absurd h Bool.false_ne_true) (fun _ _ _ _ _ h => absurd h Bool.false_ne_true)
theorem xE_Call_inv {e : Expr} {k : Expr → List Expr → List Keyword → Pos → Bool} {M : Expr → Prop} (h : xE_Call e k = true) (g : ∀ a0 a1 a2 a3, k a0 a1 a2 a3 = true → M (.Call a0 a1 a2 a3)) : M e :=
  takeE_inv h (fun _ _ _ h => absurd h Bool.false_ne_true) (fun _ _ _ h => absurd h Bool.false_ne_true) (fun _ _ h => absurd h Bool.false_ne_true) (fun _ _ _ h => absurd h Bool.false_ne_true) (fun _ _ _ _ h => absurd h Bool.false_ne_true) (fun _ _ _ _ h => absurd h Bool.false_ne_true) (fun _ _ _ h => absurd h Bool.false_ne_true) (fun _ _ _ _ h => absurd h Bool.false_ne_true) (fun _ _ _ h => absurd h Bool.false_ne_true) (fun _ _ _ _ h => absurd h Bool.false_ne_true) (fun _ _ h => absurd h Bool.false_ne_true) (fun _ _ _ h => absurd h Bool.false_ne_true) (fun _ _ _ h => absurd h Bool.false_ne_true) (fun _ _ _ _ h => absurd h Bool.false_ne_true) g (fun _ _ _ h => absurd h Bool.false_ne_true) (fun _ _ h => absurd h Bool.false_ne_true) (fun _ _ _ _ h => absurd h Bool.false_ne_true) (fun _ _ _ _ _ h => absurd h Bool.false_ne_true)
theorem xS_Assign_inv {e : Stmt} {k : List Expr → Expr → Pos → Bool} {M : Stmt → Prop} (h : xS_Assign e k = true) (g : ∀ a0 a1 a2, k a0 a1 a2 = true → M (.Assign a0 a1 a2)) : M e :=
  takeS_inv h g (fun _ _ h => absurd h Bool.false_ne_true) (fun _ _ h => absurd h Bool.false_ne_true) (fun _ _ _ _ h => absurd h Bool.false_ne_true) (fun _ _ _ _ h => absurd h Bool.false_ne_true) (fun _ _ _ _ _ h => absurd h Bool.false_ne_true)
theorem xS_Expr_inv {e : Stmt} {k : Expr → Pos → Bool} {M : Stmt → Prop} (h : xS_Expr e k = true) (g : ∀ a0 a1, k a0 a1 = true → M (.Expr a0 a1)) : M e :=
  takeS_inv h (fun _ _ _ h => absurd h Bool.false_ne_true) g (fun _ _ h => absurd h Bool.false_ne_true) (fun _ _ _ _ h => absurd h Bool.false_ne_true) (fun _ _ _ _ h => absurd h Bool.false_ne_true) (fun _ _ _ _ _ h => absurd h Bool.false_ne_true)
theorem xS_Return_inv {e : Stmt} {k : Option Expr → Pos → Bool} {M : Stmt → Prop} (h : xS_Return e k = true) (g : ∀ a0 a1, k a0 a1 = true → M (.Return a0 a1)) : M e :=
  takeS_inv h (fun _ _ _ h => absurd h Bool.false_ne_true) (fun _ _ h => absurd h Bool.false_ne_true) g (fun _ _ _ _ h => absurd h Bool.false_ne_true) (fun _ _ _ _ h => absurd h Bool.false_ne_true) (fun _ _ _ _ _ h => absurd h Bool.false_ne_true)
theorem xS_If_inv {e : Stmt} {k : Expr → List Stmt → List Stmt → Pos → Bool} {M : Stmt → Prop} (h : xS_If e k = true) (g : ∀ a0 a1 a2 a3, k a0 a1 a2 a3 = true → M (.If a0 a1 a2 a3)) : M e :=
  takeS_inv h (fun _ _ _ h => absurd h Bool.false_ne_true) (fun _ _ h => absurd h Bool.false_ne_true) (fun _ _ h => absurd h Bool.false_ne_true) g (fun _ _ _ _ h => absurd h Bool.false_ne_true) (fun _ _ _ _ _ h => absurd h Bool.false_ne_true)
theorem xS_While_inv {e : Stmt} {k : Expr → List Stmt → List Stmt → Pos → Bool} {M : Stmt → Prop} (h : xS_While e k = true) (g : ∀ a0 a1 a2 a3, k a0 a1 a2 a3 = true → M (.While a0 a1 a2 a3)) : M e :=
  takeS_inv h (fun _ _ _ h => absurd h Bool.false_ne_true) (fun _ _ h => absurd h Bool.false_ne_true) (fun _ _ h => absurd h Bool.false_ne_true) (fun _ _ _ _ h => absurd h Bool.false_ne_true) g (fun _ _ _ _ _ h => absurd h Bool.false_ne_true)
theorem xS_For_inv {e : Stmt} {k : Expr → Expr → List Stmt → List Stmt → Pos → Bool} {M : Stmt → Prop} (h : xS_For e k = true) (g : ∀ a0 a1 a2 a3 a4, k a0 a1 a2 a3 a4 = true → M (.For a0 a1 a2 a3 a4)) : M e :=
  takeS_inv h (fun _ _ _ h => absurd h Bool.false_ne_true) (fun _ _ h => absurd h Bool.false_ne_true) (fun _ _ h => absurd h Bool.false_ne_true) (fun _ _ _ _ h => absurd h Bool.false_ne_true) (fun _ _ _ _ h => absurd h Bool.false_ne_true) g
@[elab_as_elim] theorem invE_none {ce : CE} {e0 : Expr} {M : Expr → Prop} (h : chkE ce (.none) e0 = true) (g : ∀ u1 u2, (true) = true → M (.Constant .none u1 u2)) : M e0 :=
  xE_Constant_inv (M := M) h fun t1 u1 u2 h =>
  xC_none_inv (M := (fun t1 => M (.Constant t1 u1 u2))) h fun h =>
  g u1 u2 h
@[elab_as_elim] theorem invE_bool {ce : CE} {b} {e0 : Expr} {M : Expr → Prop} (h : chkE ce (.bool b) e0 = true) (g : ∀ c u1 u2, (b == c) = true → M (.Constant (.bool c) u1 u2)) : M e0 :=
  xE_Constant_inv (M := M) h fun t1 u1 u2 h =>
  xC_bool_inv (M := (fun t1 => M (.Constant t1 u1 u2))) h fun c h =>
  g c u1 u2 h
@[elab_as_elim] theorem invE_int {ce : CE} {i} {e0 : Expr} {M : Expr → Prop} (h : chkE ce (.int i) e0 = true) (g : ∀ j u1 u2, (i == j) = true → M (.Constant (.int j) u1 u2)) : M e0 :=
  xE_Constant_inv (M := M) h fun t1 u1 u2 h =>
  xC_int_inv (M := (fun t1 => M (.Constant t1 u1 u2))) h fun j h =>
  g j u1 u2 h
@[elab_as_elim] theorem invE_neg {ce : CE} {i} {e0 : Expr} {M : Expr → Prop} (h : chkE ce (.neg i) e0 = true) (g : ∀ j u1 u2 u3, (i == j) = true → M (.UnaryOp .USub (.Constant (.int j) u1 u2) u3)) : M e0 :=
  xE_UnaryOp_inv (M := M) h fun t1 t2 u3 h =>
  xU_USub_inv (M := (fun t1 => M (.UnaryOp t1 t2 u3))) h fun h =>
  xE_Constant_inv (M := (fun t2 => M (.UnaryOp .USub t2 u3))) h fun t3 u1 u2 h =>
  xC_int_inv (M := (fun t3 => M (.UnaryOp .USub (.Constant t3 u1 u2) u3))) h fun j h =>
  g j u1 u2 u3 h
@[elab_as_elim] theorem invE_str {ce : CE} {s} {e0 : Expr} {M : Expr → Prop} (h : chkE ce (.str s) e0 = true) (g : ∀ t u1 u2, (s == t) = true → M (.Constant (.str t) u1 u2)) : M e0 :=
  xE_Constant_inv (M := M) h fun t1 u1 u2 h =>
  xC_str_inv (M := (fun t1 => M (.Constant t1 u1 u2))) h fun t h =>
  g t u1 u2 h
@[elab_as_elim] theorem invE_glob {ce : CE} {i} {e0 : Expr} {M : Expr → Prop} (h : chkE ce (.glob i) e0 = true) (g : ∀ id u1, (isGlob ce id && id == gname i && i < 13) = true → M (.Name id u1)) : M e0 :=
  xE_Name_inv (M := M) h fun id u1 h =>
  g id u1 h
@[elab_as_elim] theorem invE_var {ce : CE} {i} {e0 : Expr} {M : Expr → Prop} (h : chkE ce (.var i) e0 = true) (g : ∀ id u1, (slotIs ce id i) = true → M (.Name id u1)) : M e0 :=
  xE_Name_inv (M := M) h fun id u1 h =>
  g id u1 h
@[elab_as_elim] theorem invE_attr {ce : CE} {x a} {e0 : Expr} {M : Expr → Prop} (h : chkE ce (.attr x a) e0 = true) (g : ∀ o n u1, (baseNA o && n == attrName a && chkE ce x o) = true → M (.Attribute o n u1)) : M e0 :=
  xE_Attribute_inv (M := M) h fun o n u1 h =>
  g o n u1 h
@[elab_as_elim] theorem invE_bin {ce : CE} {o l r} {e0 : Expr} {M : Expr → Prop} (h : chkE ce (.bin o l r) e0 = true) (g : ∀ l' o' r' u1, (o' == bopOf o && chkE ce l l' && chkE ce r r') = true → M (.BinOp l' o' r' u1)) : M e0 :=
  xE_BinOp_inv (M := M) h fun l' o' r' u1 h =>
  g l' o' r' u1 h
@[elab_as_elim] theorem invE_addC {ce : CE} {l r} {e0 : Expr} {M : Expr → Prop} (h : chkE ce (.addC l r) e0 = true) (g : ∀ l' o' r' u1, (o' == .Add && chkE ce l l' && chkE ce r r') = true → M (.BinOp l' o' r' u1)) : M e0 :=
  xE_BinOp_inv (M := M) h fun l' o' r' u1 h =>
  g l' o' r' u1 h
@[elab_as_elim] theorem invE_cmp {ce : CE} {o l r} {e0 : Expr} {M : Expr → Prop} (h : chkE ce (.cmp o l r) e0 = true) (g : ∀ l' o' r' u1, (o' == copOf o && notSet r' && chkE ce l l' && chkE ce r r') = true → M (.Compare l' [o'] [r'] u1)) : M e0 :=
  xE_Compare_inv (M := M) h fun l' t1 t2 u1 h =>
  xCons_inv (M := (fun t1 => M (.Compare l' t1 t2 u1))) h fun o' t3 h =>
  xNil_inv (M := (fun t3 => M (.Compare l' (o' :: t3) t2 u1))) h fun h =>
  xCons_inv (M := (fun t2 => M (.Compare l' (o' :: []) t2 u1))) h fun r' t4 h =>
  xNil_inv (M := (fun t4 => M (.Compare l' (o' :: []) (r' :: t4) u1))) h fun h =>
  g l' o' r' u1 h
@[elab_as_elim] theorem invE_not {ce : CE} {x} {e0 : Expr} {M : Expr → Prop} (h : chkE ce (.not x) e0 = true) (g : ∀ x' u1, (chkE ce x x') = true → M (.UnaryOp .Not x' u1)) : M e0 :=
  xE_UnaryOp_inv (M := M) h fun t1 x' u1 h =>
  xU_Not_inv (M := (fun t1 => M (.UnaryOp t1 x' u1))) h fun h =>
  g x' u1 h
@[elab_as_elim] theorem invE_and {ce : CE} {es} {e0 : Expr} {M : Expr → Prop} (h : chkE ce (.and es) e0 = true) (g : ∀ vs u1, (chkEs ce es vs) = true → M (.BoolOp .And vs u1)) : M e0 :=
  xE_BoolOp_inv (M := M) h fun t1 vs u1 h =>
  xB_And_inv (M := (fun t1 => M (.BoolOp t1 vs u1))) h fun h =>
  g vs u1 h
@[elab_as_elim] theorem invE_or {ce : CE} {es} {e0 : Expr} {M : Expr → Prop} (h : chkE ce (.or es) e0 = true) (g : ∀ vs u1, (chkEs ce es vs) = true → M (.BoolOp .Or vs u1)) : M e0 :=
  xE_BoolOp_inv (M := M) h fun t1 vs u1 h =>
  xB_Or_inv (M := (fun t1 => M (.BoolOp t1 vs u1))) h fun h =>
  g vs u1 h
@[elab_as_elim] theorem invE_ite {ce : CE} {c a b} {e0 : Expr} {M : Expr → Prop} (h : chkE ce (.ite c a b) e0 = true) (g : ∀ c' a' b' u1, (chkE ce c c' && chkE ce a a' && chkE ce b b') = true → M (.IfExp c' a' b' u1)) : M e0 :=
  xE_IfExp_inv (M := M) h fun c' a' b' u1 h =>
  g c' a' b' u1 h
@[elab_as_elim] theorem invE_sub {ce : CE} {x i} {e0 : Expr} {M : Expr → Prop} (h : chkE ce (.sub x i) e0 = true) (g : ∀ x' i' u1, (notSlice i' && chkE ce x x' && chkE ce i i') = true → M (.Subscript x' i' u1)) : M e0 :=
  xE_Subscript_inv (M := M) h fun x' i' u1 h =>
  g x' i' u1 h
@[elab_as_elim] theorem invE_slcTo {ce : CE} {x n} {e0 : Expr} {M : Expr → Prop} (h : chkE ce (.slcTo x n) e0 = true) (g : ∀ x' n' u1 u2, (chkE ce x x' && chkE ce n n') = true → M (.Subscript x' (.Slice Option.none (some n') Option.none u1) u2)) : M e0 :=
  xE_Subscript_inv (M := M) h fun x' t1 u2 h =>
  xE_Slice_inv (M := (fun t1 => M (.Subscript x' t1 u2))) h fun t2 t3 t4 u1 h =>
  xNone_inv (M := (fun t2 => M (.Subscript x' (.Slice t2 t3 t4 u1) u2))) h fun h =>
  xSome_inv (M := (fun t3 => M (.Subscript x' (.Slice Option.none t3 t4 u1) u2))) h fun n' h =>
  xNone_inv (M := (fun t4 => M (.Subscript x' (.Slice Option.none (some n') t4 u1) u2))) h fun h =>
  g x' n' u1 u2 h
@[elab_as_elim] theorem invE_slcFrom {ce : CE} {x n} {e0 : Expr} {M : Expr → Prop} (h : chkE ce (.slcFrom x n) e0 = true) (g : ∀ x' n' u1 u2, (chkE ce x x' && chkE ce n n') = true → M (.Subscript x' (.Slice (some n') Option.none Option.none u1) u2)) : M e0 :=
  xE_Subscript_inv (M := M) h fun x' t1 u2 h =>
  xE_Slice_inv (M := (fun t1 => M (.Subscript x' t1 u2))) h fun t2 t3 t4 u1 h =>
  xSome_inv (M := (fun t2 => M (.Subscript x' (.Slice t2 t3 t4 u1) u2))) h fun n' h =>
  xNone_inv (M := (fun t3 => M (.Subscript x' (.Slice (some n') t3 t4 u1) u2))) h fun h =>
  xNone_inv (M := (fun t4 => M (.Subscript x' (.Slice (some n') Option.none t4 u1) u2))) h fun h =>
  g x' n' u1 u2 h
@[elab_as_elim] theorem invE_slcRev {ce : CE} {x} {e0 : Expr} {M : Expr → Prop} (h : chkE ce (.slcRev x) e0 = true) (g : ∀ x' u2 u3 u4 u5 u6, (chkE ce x x') = true → M (.Subscript x' (.Slice Option.none Option.none (some (.UnaryOp .USub (.Constant (.int 1) u2 u3) u4)) u5) u6)) : M e0 :=
  xE_Subscript_inv (M := M) h fun x' t1 u6 h =>
  xE_Slice_inv (M := (fun t1 => M (.Subscript x' t1 u6))) h fun t2 t3 t4 u5 h =>
  xNone_inv (M := (fun t2 => M (.Subscript x' (.Slice t2 t3 t4 u5) u6))) h fun h =>
  xNone_inv (M := (fun t3 => M (.Subscript x' (.Slice Option.none t3 t4 u5) u6))) h fun h =>
  xSome_inv (M := (fun t4 => M (.Subscript x' (.Slice Option.none Option.none t4 u5) u6))) h fun t5 h =>
  xE_UnaryOp_inv (M := (fun t5 => M (.Subscript x' (.Slice Option.none Option.none (some t5) u5) u6))) h fun t6 t7 u4 h =>
  xU_USub_inv (M := (fun t6 => M (.Subscript x' (.Slice Option.none Option.none (some (.UnaryOp t6 t7 u4)) u5) u6))) h fun h =>
  xE_Constant_inv (M := (fun t7 => M (.Subscript x' (.Slice Option.none Option.none (some (.UnaryOp .USub t7 u4)) u5) u6))) h fun t8 u2 u3 h =>
  xC_int_inv (M := (fun t8 => M (.Subscript x' (.Slice Option.none Option.none (some (.UnaryOp .USub (.Constant t8 u2 u3) u4)) u5) u6))) h fun u1 h =>
  xLit_inv (M := fun u1 => M (.Subscript x' (.Slice Option.none Option.none (some (.UnaryOp .USub (.Constant (.int u1) u2 u3) u4)) u5) u6)) h fun h =>
  g x' u2 u3 u4 u5 u6 h
@[elab_as_elim] theorem invE_slcTwo {ce : CE} {x} {e0 : Expr} {M : Expr → Prop} (h : chkE ce (.slcTwo x) e0 = true) (g : ∀ x' u2 u3 u4 u5, (chkE ce x x') = true → M (.Subscript x' (.Slice Option.none Option.none (some (.Constant (.int 2) u2 u3)) u4) u5)) : M e0 :=
  xE_Subscript_inv (M := M) h fun x' t1 u5 h =>
  xE_Slice_inv (M := (fun t1 => M (.Subscript x' t1 u5))) h fun t2 t3 t4 u4 h =>
  xNone_inv (M := (fun t2 => M (.Subscript x' (.Slice t2 t3 t4 u4) u5))) h fun h =>
  xNone_inv (M := (fun t3 => M (.Subscript x' (.Slice Option.none t3 t4 u4) u5))) h fun h =>
  xSome_inv (M := (fun t4 => M (.Subscript x' (.Slice Option.none Option.none t4 u4) u5))) h fun t5 h =>
  xE_Constant_inv (M := (fun t5 => M (.Subscript x' (.Slice Option.none Option.none (some t5) u4) u5))) h fun t6 u2 u3 h =>
  xC_int_inv (M := (fun t6 => M (.Subscript x' (.Slice Option.none Option.none (some (.Constant t6 u2 u3)) u4) u5))) h fun u1 h =>
  xLit_inv (M := fun u1 => M (.Subscript x' (.Slice Option.none Option.none (some (.Constant (.int u1) u2 u3)) u4) u5)) h fun h =>
  g x' u2 u3 u4 u5 h
@[elab_as_elim] theorem invE_list {ce : CE} {es} {e0 : Expr} {M : Expr → Prop} (h : chkE ce (.list es) e0 = true) (g : ∀ vs u1, (vs.length < 100 && chkEs ce es vs) = true → M (.List vs u1)) : M e0 :=
  xE_List_inv (M := M) h fun vs u1 h =>
  g vs u1 h
@[elab_as_elim] theorem invE_listC {ce : CE} {es} {e0 : Expr} {M : Expr → Prop} (h : chkE ce (.listC es) e0 = true) (g : ∀ vs u1, (vs.length < 100 && chkEs ce es vs) = true → M (.List vs u1)) : M e0 :=
  xE_List_inv (M := M) h fun vs u1 h =>
  g vs u1 h
@[elab_as_elim] theorem invE_tuple {ce : CE} {es} {e0 : Expr} {M : Expr → Prop} (h : chkE ce (.tuple es) e0 = true) (g : ∀ vs u1 u2, (vs.length < 100 && chkEs ce es vs) = true → M (.Tuple vs u1 u2)) : M e0 :=
  xE_Tuple_inv (M := M) h fun vs u1 u2 h =>
  g vs u1 u2 h
@[elab_as_elim] theorem invE_dictC {ce : CE} {e0 : Expr} {M : Expr → Prop} (h : chkE ce (.dictC) e0 = true) (g : ∀ u1, (true) = true → M (.Dict [] [] u1)) : M e0 :=
  xE_Dict_inv (M := M) h fun t1 t2 u1 h =>
  xNil_inv (M := (fun t1 => M (.Dict t1 t2 u1))) h fun h =>
  xNil_inv (M := (fun t2 => M (.Dict [] t2 u1))) h fun h =>
  g u1 h
@[elab_as_elim] theorem invE_comp {ce : CE} {slot elt iter} {e0 : Expr} {M : Expr → Prop} (h : chkE ce (.comp slot elt iter) e0 = true) (g : ∀ elt' x u1 iter' sc u3, (compOk ce sc x slot && notSet iter' && chkE ce iter iter' && chkE (compCE ce sc x slot) elt elt') = true → M (.ListComp elt' [⟨(.Name x u1), iter', [], 0⟩] sc u3)) : M e0 :=
  xE_ListComp_inv (M := M) h fun elt' t1 sc u3 h =>
  xCons_inv (M := (fun t1 => M (.ListComp elt' t1 sc u3))) h fun t2 t3 h =>
  xComp_inv (M := (fun t2 => M (.ListComp elt' (t2 :: t3) sc u3))) h fun t4 iter' t5 u2 h =>
  xE_Name_inv (M := (fun t4 => M (.ListComp elt' (⟨t4, iter', t5, u2⟩ :: t3) sc u3))) h fun x u1 h =>
  xNil_inv (M := (fun t5 => M (.ListComp elt' (⟨(.Name x u1), iter', t5, u2⟩ :: t3) sc u3))) h fun h =>
  xNil_inv (M := (fun t3 => M (.ListComp elt' (⟨(.Name x u1), iter', [], u2⟩ :: t3) sc u3))) h fun h =>
  xLit_inv (M := fun u2 => M (.ListComp elt' (⟨(.Name x u1), iter', [], u2⟩ :: []) sc u3)) h fun h =>
  g elt' x u1 iter' sc u3 h
@[elab_as_elim] theorem invE_compIf {ce : CE} {slot elt iter cond} {e0 : Expr} {M : Expr → Prop} (h : chkE ce (.compIf slot elt iter cond) e0 = true) (g : ∀ elt' x u1 iter' cond' sc u3, (compOk ce sc x slot && notSet iter' && chkE ce iter iter' && chkE (compCE ce sc x slot) elt elt' && chkE (compCE ce sc x slot) cond cond') = true → M (.ListComp elt' [⟨(.Name x u1), iter', [cond'], 0⟩] sc u3)) : M e0 :=
  xE_ListComp_inv (M := M) h fun elt' t1 sc u3 h =>
  xCons_inv (M := (fun t1 => M (.ListComp elt' t1 sc u3))) h fun t2 t3 h =>
  xComp_inv (M := (fun t2 => M (.ListComp elt' (t2 :: t3) sc u3))) h fun t4 iter' t5 u2 h =>
  xE_Name_inv (M := (fun t4 => M (.ListComp elt' (⟨t4, iter', t5, u2⟩ :: t3) sc u3))) h fun x u1 h =>
  xCons_inv (M := (fun t5 => M (.ListComp elt' (⟨(.Name x u1), iter', t5, u2⟩ :: t3) sc u3))) h fun cond' t6 h =>
  xNil_inv (M := (fun t6 => M (.ListComp elt' (⟨(.Name x u1), iter', (cond' :: t6), u2⟩ :: t3) sc u3))) h fun h =>
  xNil_inv (M := (fun t3 => M (.ListComp elt' (⟨(.Name x u1), iter', (cond' :: []), u2⟩ :: t3) sc u3))) h fun h =>
  xLit_inv (M := fun u2 => M (.ListComp elt' (⟨(.Name x u1), iter', (cond' :: []), u2⟩ :: []) sc u3)) h fun h =>
  g elt' x u1 iter' cond' sc u3 h
@[elab_as_elim] theorem invE_len {ce : CE} {x} {e0 : Expr} {M : Expr → Prop} (h : chkE ce (.len x) e0 = true) (g : ∀ id u1 x' u2, (isGlob ce id && id == Str.ofString "len" && notStar x' && chkE ce x x') = true → M (.Call (.Name id u1) [x'] [] u2)) : M e0 :=
  xE_Call_inv (M := M) h fun t1 t2 t3 u2 h =>
  xE_Name_inv (M := (fun t1 => M (.Call t1 t2 t3 u2))) h fun id u1 h =>
  xCons_inv (M := (fun t2 => M (.Call (.Name id u1) t2 t3 u2))) h fun x' t4 h =>
  xNil_inv (M := (fun t4 => M (.Call (.Name id u1) (x' :: t4) t3 u2))) h fun h =>
  xNil_inv (M := (fun t3 => M (.Call (.Name id u1) (x' :: []) t3 u2))) h fun h =>
  g id u1 x' u2 h
@[elab_as_elim] theorem invE_range1 {ce : CE} {x} {e0 : Expr} {M : Expr → Prop} (h : chkE ce (.range1 x) e0 = true) (g : ∀ id u1 x' u2, (isGlob ce id && id == Str.ofString "range" && notStar x' && chkE ce x x') = true → M (.Call (.Name id u1) [x'] [] u2)) : M e0 :=
  xE_Call_inv (M := M) h fun t1 t2 t3 u2 h =>
  xE_Name_inv (M := (fun t1 => M (.Call t1 t2 t3 u2))) h fun id u1 h =>
  xCons_inv (M := (fun t2 => M (.Call (.Name id u1) t2 t3 u2))) h fun x' t4 h =>
  xNil_inv (M := (fun t4 => M (.Call (.Name id u1) (x' :: t4) t3 u2))) h fun h =>
  xNil_inv (M := (fun t3 => M (.Call (.Name id u1) (x' :: []) t3 u2))) h fun h =>
  g id u1 x' u2 h
@[elab_as_elim] theorem invE_range3 {ce : CE} {a b c} {e0 : Expr} {M : Expr → Prop} (h : chkE ce (.range3 a b c) e0 = true) (g : ∀ id u1 a' b' c' u2, (isGlob ce id && id == Str.ofString "range" && notStar a' && notStar b' && notStar c' && chkE ce a a' && chkE ce b b' && chkE ce c c') = true → M (.Call (.Name id u1) [a', b', c'] [] u2)) : M e0 :=
  xE_Call_inv (M := M) h fun t1 t2 t3 u2 h =>
  xE_Name_inv (M := (fun t1 => M (.Call t1 t2 t3 u2))) h fun id u1 h =>
  xCons_inv (M := (fun t2 => M (.Call (.Name id u1) t2 t3 u2))) h fun a' t4 h =>
  xCons_inv (M := (fun t4 => M (.Call (.Name id u1) (a' :: t4) t3 u2))) h fun b' t5 h =>
  xCons_inv (M := (fun t5 => M (.Call (.Name id u1) (a' :: (b' :: t5)) t3 u2))) h fun c' t6 h =>
  xNil_inv (M := (fun t6 => M (.Call (.Name id u1) (a' :: (b' :: (c' :: t6))) t3 u2))) h fun h =>
  xNil_inv (M := (fun t3 => M (.Call (.Name id u1) (a' :: (b' :: (c' :: []))) t3 u2))) h fun h =>
  g id u1 a' b' c' u2 h
@[elab_as_elim] theorem invE_isi {ce : CE} {x cs} {e0 : Expr} {M : Expr → Prop} (h : chkE ce (.isi x cs) e0 = true) (g : ∀ id u1 x' c' u2, (isGlob ce id && id == Str.ofString "isinstance" && notStar x' && chkE ce x x' && (xE_Name c' (fun _ _ => chkIsi ce cs [c'] && cs.length == 1) || xE_Tuple c' (fun es _ _ => chkIsi ce cs es && cs.length == 2))) = true → M (.Call (.Name id u1) [x', c'] [] u2)) : M e0 :=
  xE_Call_inv (M := M) h fun t1 t2 t3 u2 h =>
  xE_Name_inv (M := (fun t1 => M (.Call t1 t2 t3 u2))) h fun id u1 h =>
  xCons_inv (M := (fun t2 => M (.Call (.Name id u1) t2 t3 u2))) h fun x' t4 h =>
  xCons_inv (M := (fun t4 => M (.Call (.Name id u1) (x' :: t4) t3 u2))) h fun c' t5 h =>
  xNil_inv (M := (fun t5 => M (.Call (.Name id u1) (x' :: (c' :: t5)) t3 u2))) h fun h =>
  xNil_inv (M := (fun t3 => M (.Call (.Name id u1) (x' :: (c' :: [])) t3 u2))) h fun h =>
  g id u1 x' c' u2 h
@[elab_as_elim] theorem invE_abs {ce : CE} {x} {e0 : Expr} {M : Expr → Prop} (h : chkE ce (.abs x) e0 = true) (g : ∀ id u1 x' u2, (isGlob ce id && id == Str.ofString "abs" && notStar x' && chkE ce x x') = true → M (.Call (.Name id u1) [x'] [] u2)) : M e0 :=
  xE_Call_inv (M := M) h fun t1 t2 t3 u2 h =>
  xE_Name_inv (M := (fun t1 => M (.Call t1 t2 t3 u2))) h fun id u1 h =>
  xCons_inv (M := (fun t2 => M (.Call (.Name id u1) t2 t3 u2))) h fun x' t4 h =>
  xNil_inv (M := (fun t4 => M (.Call (.Name id u1) (x' :: t4) t3 u2))) h fun h =>
  xNil_inv (M := (fun t3 => M (.Call (.Name id u1) (x' :: []) t3 u2))) h fun h =>
  g id u1 x' u2 h
@[elab_as_elim] theorem invE_listOf {ce : CE} {x} {e0 : Expr} {M : Expr → Prop} (h : chkE ce (.listOf x) e0 = true) (g : ∀ id u1 x' u2, (isGlob ce id && id == Str.ofString "list" && notStar x' && chkE ce x x') = true → M (.Call (.Name id u1) [x'] [] u2)) : M e0 :=
  xE_Call_inv (M := M) h fun t1 t2 t3 u2 h =>
  xE_Name_inv (M := (fun t1 => M (.Call t1 t2 t3 u2))) h fun id u1 h =>
  xCons_inv (M := (fun t2 => M (.Call (.Name id u1) t2 t3 u2))) h fun x' t4 h =>
  xNil_inv (M := (fun t4 => M (.Call (.Name id u1) (x' :: t4) t3 u2))) h fun h =>
  xNil_inv (M := (fun t3 => M (.Call (.Name id u1) (x' :: []) t3 u2))) h fun h =>
  g id u1 x' u2 h
@[elab_as_elim] theorem invE_tupleOf {ce : CE} {x} {e0 : Expr} {M : Expr → Prop} (h : chkE ce (.tupleOf x) e0 = true) (g : ∀ id u1 x' u2, (isGlob ce id && id == Str.ofString "tuple" && notStar x' && chkE ce x x') = true → M (.Call (.Name id u1) [x'] [] u2)) : M e0 :=
  xE_Call_inv (M := M) h fun t1 t2 t3 u2 h =>
  xE_Name_inv (M := (fun t1 => M (.Call t1 t2 t3 u2))) h fun id u1 h =>
  xCons_inv (M := (fun t2 => M (.Call (.Name id u1) t2 t3 u2))) h fun x' t4 h =>
  xNil_inv (M := (fun t4 => M (.Call (.Name id u1) (x' :: t4) t3 u2))) h fun h =>
  xNil_inv (M := (fun t3 => M (.Call (.Name id u1) (x' :: []) t3 u2))) h fun h =>
  g id u1 x' u2 h
@[elab_as_elim] theorem invE_mk {ce : CE} {c es} {e0 : Expr} {M : Expr → Prop} (h : chkE ce (.mk c es) e0 = true) (g : ∀ id u1 vs u2, (isGlob ce id && id == clsName c && c < 11 && vs.all notStar && vs.length < 10 && chkEs ce es vs) = true → M (.Call (.Name id u1) vs [] u2)) : M e0 :=
  xE_Call_inv (M := M) h fun t1 vs t2 u2 h =>
  xE_Name_inv (M := (fun t1 => M (.Call t1 vs t2 u2))) h fun id u1 h =>
  xNil_inv (M := (fun t2 => M (.Call (.Name id u1) vs t2 u2))) h fun h =>
  g id u1 vs u2 h
@[elab_as_elim] theorem invE_new {ce : CE} {c} {e0 : Expr} {M : Expr → Prop} (h : chkE ce (.new c) e0 = true) (g : ∀ id u1 u2, (isGlob ce id && id == clsName c && (initOf c).isSome) = true → M (.Call (.Name id u1) [] [] u2)) : M e0 :=
  xE_Call_inv (M := M) h fun t1 t2 t3 u2 h =>
  xE_Name_inv (M := (fun t1 => M (.Call t1 t2 t3 u2))) h fun id u1 h =>
  xNil_inv (M := (fun t2 => M (.Call (.Name id u1) t2 t3 u2))) h fun h =>
  xNil_inv (M := (fun t3 => M (.Call (.Name id u1) [] t3 u2))) h fun h =>
  g id u1 u2 h
@[elab_as_elim] theorem invE_call {ce : CE} {f es} {e0 : Expr} {M : Expr → Prop} (h : chkE ce (.call f es) e0 = true) (g : ∀ id u1 vs u2, (isGlob ce id && id == fnName f && f < 30 && vs.all notStar && vs.length < 10 && chkEs ce es vs) = true → M (.Call (.Name id u1) vs [] u2)) : M e0 :=
  xE_Call_inv (M := M) h fun t1 vs t2 u2 h =>
  xE_Name_inv (M := (fun t1 => M (.Call t1 vs t2 u2))) h fun id u1 h =>
  xNil_inv (M := (fun t2 => M (.Call (.Name id u1) vs t2 u2))) h fun h =>
  g id u1 vs u2 h
@[elab_as_elim] theorem invE_callv {ce : CE} {i es} {e0 : Expr} {M : Expr → Prop} (h : chkE ce (.callv i es) e0 = true) (g : ∀ id u1 vs u2, (slotIs ce id i && vs.all notStar && vs.length < 10 && chkEs ce es vs) = true → M (.Call (.Name id u1) vs [] u2)) : M e0 :=
  xE_Call_inv (M := M) h fun t1 vs t2 u2 h =>
  xE_Name_inv (M := (fun t1 => M (.Call t1 vs t2 u2))) h fun id u1 h =>
  xNil_inv (M := (fun t2 => M (.Call (.Name id u1) vs t2 u2))) h fun h =>
  g id u1 vs u2 h
@[elab_as_elim] theorem invE_meth {ce : CE} {o a es} {e0 : Expr} {M : Expr → Prop} (h : chkE ce (.meth o a es) e0 = true) (g : ∀ o' n apos vs pos, (baseNA o' && n == attrName a && apos.endLine == pos.line && vs.all notStar && vs.length < 10 && chkE ce o o' && chkEs ce es vs) = true → M (.Call (.Attribute o' n apos) vs [] pos)) : M e0 :=
  xE_Call_inv (M := M) h fun t1 vs t2 pos h =>
  xE_Attribute_inv (M := (fun t1 => M (.Call t1 vs t2 pos))) h fun o' n apos h =>
  xNil_inv (M := (fun t2 => M (.Call (.Attribute o' n apos) vs t2 pos))) h fun h =>
  g o' n apos vs pos h
@[elab_as_elim] theorem invE_append {ce : CE} {o x} {e0 : Expr} {M : Expr → Prop} (h : chkE ce (.append o x) e0 = true) (g : ∀ o' n apos x' pos, (baseNA o' && n == Str.ofString "append" && apos.endLine == pos.line && notStar x' && chkE ce o o' && chkE ce x x') = true → M (.Call (.Attribute o' n apos) [x'] [] pos)) : M e0 :=
  xE_Call_inv (M := M) h fun t1 t2 t3 pos h =>
  xE_Attribute_inv (M := (fun t1 => M (.Call t1 t2 t3 pos))) h fun o' n apos h =>
  xCons_inv (M := (fun t2 => M (.Call (.Attribute o' n apos) t2 t3 pos))) h fun x' t4 h =>
  xNil_inv (M := (fun t4 => M (.Call (.Attribute o' n apos) (x' :: t4) t3 pos))) h fun h =>
  xNil_inv (M := (fun t3 => M (.Call (.Attribute o' n apos) (x' :: []) t3 pos))) h fun h =>
  g o' n apos x' pos h
@[elab_as_elim] theorem invE_pop {ce : CE} {o} {e0 : Expr} {M : Expr → Prop} (h : chkE ce (.pop o) e0 = true) (g : ∀ o' n apos pos, (baseNA o' && n == Str.ofString "pop" && apos.endLine == pos.line && chkE ce o o') = true → M (.Call (.Attribute o' n apos) [] [] pos)) : M e0 :=
  xE_Call_inv (M := M) h fun t1 t2 t3 pos h =>
  xE_Attribute_inv (M := (fun t1 => M (.Call t1 t2 t3 pos))) h fun o' n apos h =>
  xNil_inv (M := (fun t2 => M (.Call (.Attribute o' n apos) t2 t3 pos))) h fun h =>
  xNil_inv (M := (fun t3 => M (.Call (.Attribute o' n apos) [] t3 pos))) h fun h =>
  g o' n apos pos h
@[elab_as_elim] theorem invE_pop0 {ce : CE} {o} {e0 : Expr} {M : Expr → Prop} (h : chkE ce (.pop0 o) e0 = true) (g : ∀ o' n apos u2 u3 pos, (baseNA o' && n == Str.ofString "pop" && apos.endLine == pos.line && chkE ce o o') = true → M (.Call (.Attribute o' n apos) [(.Constant (.int 0) u2 u3)] [] pos)) : M e0 :=
  xE_Call_inv (M := M) h fun t1 t2 t3 pos h =>
  xE_Attribute_inv (M := (fun t1 => M (.Call t1 t2 t3 pos))) h fun o' n apos h =>
  xCons_inv (M := (fun t2 => M (.Call (.Attribute o' n apos) t2 t3 pos))) h fun t4 t5 h =>
  xE_Constant_inv (M := (fun t4 => M (.Call (.Attribute o' n apos) (t4 :: t5) t3 pos))) h fun t6 u2 u3 h =>
  xC_int_inv (M := (fun t6 => M (.Call (.Attribute o' n apos) ((.Constant t6 u2 u3) :: t5) t3 pos))) h fun u1 h =>
  xNil_inv (M := (fun t5 => M (.Call (.Attribute o' n apos) ((.Constant (.int u1) u2 u3) :: t5) t3 pos))) h fun h =>
  xNil_inv (M := (fun t3 => M (.Call (.Attribute o' n apos) ((.Constant (.int u1) u2 u3) :: []) t3 pos))) h fun h =>
  xLit_inv (M := fun u1 => M (.Call (.Attribute o' n apos) ((.Constant (.int u1) u2 u3) :: []) [] pos)) h fun h =>
  g o' n apos u2 u3 pos h
@[elab_as_elim] theorem invE_get {ce : CE} {o x d} {e0 : Expr} {M : Expr → Prop} (h : chkE ce (.get o x d) e0 = true) (g : ∀ o' n apos x' d' pos, (baseNA o' && n == Str.ofString "get" && apos.endLine == pos.line && notStar x' && notStar d' && chkE ce o o' && chkE ce x x' && chkE ce d d') = true → M (.Call (.Attribute o' n apos) [x', d'] [] pos)) : M e0 :=
  xE_Call_inv (M := M) h fun t1 t2 t3 pos h =>
  xE_Attribute_inv (M := (fun t1 => M (.Call t1 t2 t3 pos))) h fun o' n apos h =>
  xCons_inv (M := (fun t2 => M (.Call (.Attribute o' n apos) t2 t3 pos))) h fun x' t4 h =>
  xCons_inv (M := (fun t4 => M (.Call (.Attribute o' n apos) (x' :: t4) t3 pos))) h fun d' t5 h =>
  xNil_inv (M := (fun t5 => M (.Call (.Attribute o' n apos) (x' :: (d' :: t5)) t3 pos))) h fun h =>
  xNil_inv (M := (fun t3 => M (.Call (.Attribute o' n apos) (x' :: (d' :: [])) t3 pos))) h fun h =>
  g o' n apos x' d' pos h
@[elab_as_elim] theorem invS_assign {ce : CE} {i x} {e0 : Stmt} {M : Stmt → Prop} (h : chkS ce (.assign i x) e0 = true) (g : ∀ id u1 e u2, (slotIs ce id i && chkE ce x e) = true → M (.Assign [(.Name id u1)] e u2)) : M e0 :=
  xS_Assign_inv (M := M) h fun t1 e u2 h =>
  xCons_inv (M := (fun t1 => M (.Assign t1 e u2))) h fun t2 t3 h =>
  xE_Name_inv (M := (fun t2 => M (.Assign (t2 :: t3) e u2))) h fun id u1 h =>
  xNil_inv (M := (fun t3 => M (.Assign ((.Name id u1) :: t3) e u2))) h fun h =>
  g id u1 e u2 h
@[elab_as_elim] theorem invS_reslice {ce : CE} {i n} {e0 : Stmt} {M : Stmt → Prop} (h : chkS ce (.reslice i n) e0 = true) (g : ∀ id u1 id' u2 n' u3 u4 u5, (slotIs ce id i && id == id' && chkE ce n n') = true → M (.Assign [(.Name id u1)] (.Subscript (.Name id' u2) (.Slice Option.none (some n') Option.none u3) u4) u5)) : M e0 :=
  xS_Assign_inv (M := M) h fun t1 t2 u5 h =>
  xCons_inv (M := (fun t1 => M (.Assign t1 t2 u5))) h fun t3 t4 h =>
  xE_Name_inv (M := (fun t3 => M (.Assign (t3 :: t4) t2 u5))) h fun id u1 h =>
  xNil_inv (M := (fun t4 => M (.Assign ((.Name id u1) :: t4) t2 u5))) h fun h =>
  xE_Subscript_inv (M := (fun t2 => M (.Assign ((.Name id u1) :: []) t2 u5))) h fun t5 t6 u4 h =>
  xE_Name_inv (M := (fun t5 => M (.Assign ((.Name id u1) :: []) (.Subscript t5 t6 u4) u5))) h fun id' u2 h =>
  xE_Slice_inv (M := (fun t6 => M (.Assign ((.Name id u1) :: []) (.Subscript (.Name id' u2) t6 u4) u5))) h fun t7 t8 t9 u3 h =>
  xNone_inv (M := (fun t7 => M (.Assign ((.Name id u1) :: []) (.Subscript (.Name id' u2) (.Slice t7 t8 t9 u3) u4) u5))) h fun h =>
  xSome_inv (M := (fun t8 => M (.Assign ((.Name id u1) :: []) (.Subscript (.Name id' u2) (.Slice Option.none t8 t9 u3) u4) u5))) h fun n' h =>
  xNone_inv (M := (fun t9 => M (.Assign ((.Name id u1) :: []) (.Subscript (.Name id' u2) (.Slice Option.none (some n') t9 u3) u4) u5))) h fun h =>
  g id u1 id' u2 n' u3 u4 u5 h
@[elab_as_elim] theorem invS_astore {ce : CE} {o a x} {e0 : Stmt} {M : Stmt → Prop} (h : chkS ce (.astore o a x) e0 = true) (g : ∀ o' n u1 e u2, (n == attrName a && chkE ce x e && chkE ce o o') = true → M (.Assign [(.Attribute o' n u1)] e u2)) : M e0 :=
  xS_Assign_inv (M := M) h fun t1 e u2 h =>
  xCons_inv (M := (fun t1 => M (.Assign t1 e u2))) h fun t2 t3 h =>
  xE_Attribute_inv (M := (fun t2 => M (.Assign (t2 :: t3) e u2))) h fun o' n u1 h =>
  xNil_inv (M := (fun t3 => M (.Assign ((.Attribute o' n u1) :: t3) e u2))) h fun h =>
  g o' n u1 e u2 h
@[elab_as_elim] theorem invS_sstore {ce : CE} {o i x} {e0 : Stmt} {M : Stmt → Prop} (h : chkS ce (.sstore o i x) e0 = true) (g : ∀ o' i' u1 e u2, (notSlice i' && chkE ce x e && chkE ce o o' && chkE ce i i') = true → M (.Assign [(.Subscript o' i' u1)] e u2)) : M e0 :=
  xS_Assign_inv (M := M) h fun t1 e u2 h =>
  xCons_inv (M := (fun t1 => M (.Assign t1 e u2))) h fun t2 t3 h =>
  xE_Subscript_inv (M := (fun t2 => M (.Assign (t2 :: t3) e u2))) h fun o' i' u1 h =>
  xNil_inv (M := (fun t3 => M (.Assign ((.Subscript o' i' u1) :: t3) e u2))) h fun h =>
  g o' i' u1 e u2 h
@[elab_as_elim] theorem invS_unpack {ce : CE} {is x} {e0 : Stmt} {M : Stmt → Prop} (h : chkS ce (.unpack is x) e0 = true) (g : ∀ ts u1 u2 e u3, (chkTs ce is ts && isACall e && chkE ce x e) = true → M (.Assign [(.Tuple ts u1 u2)] e u3)) : M e0 :=
  xS_Assign_inv (M := M) h fun t1 e u3 h =>
  xCons_inv (M := (fun t1 => M (.Assign t1 e u3))) h fun t2 t3 h =>
  xE_Tuple_inv (M := (fun t2 => M (.Assign (t2 :: t3) e u3))) h fun ts u1 u2 h =>
  xNil_inv (M := (fun t3 => M (.Assign ((.Tuple ts u1 u2) :: t3) e u3))) h fun h =>
  g ts u1 u2 e u3 h
@[elab_as_elim] theorem invS_multi {ce : CE} {is es} {e0 : Stmt} {M : Stmt → Prop} (h : chkS ce (.multi is es) e0 = true) (g : ∀ ts u1 u2 vs u3 u4 u5, (chkTs ce is ts && is.length == vs.length && is.length < 100 && decide is.Nodup && (vs.all (foldedForSure 8) || !vs.all (constantsAlone 8)) && chkEs ce es vs) = true → M (.Assign [(.Tuple ts u1 u2)] (.Tuple vs u3 u4) u5)) : M e0 :=
  xS_Assign_inv (M := M) h fun t1 t2 u5 h =>
  xCons_inv (M := (fun t1 => M (.Assign t1 t2 u5))) h fun t3 t4 h =>
  xE_Tuple_inv (M := (fun t3 => M (.Assign (t3 :: t4) t2 u5))) h fun ts u1 u2 h =>
  xNil_inv (M := (fun t4 => M (.Assign ((.Tuple ts u1 u2) :: t4) t2 u5))) h fun h =>
  xE_Tuple_inv (M := (fun t2 => M (.Assign ((.Tuple ts u1 u2) :: []) t2 u5))) h fun vs u3 u4 h =>
  g ts u1 u2 vs u3 u4 u5 h
@[elab_as_elim] theorem invS_expr {ce : CE} {x} {e0 : Stmt} {M : Stmt → Prop} (h : chkS ce (.expr x) e0 = true) (g : ∀ e u1, (isACall e && chkE ce x e) = true → M (.Expr e u1)) : M e0 :=
  xS_Expr_inv (M := M) h fun e u1 h =>
  g e u1 h
@[elab_as_elim] theorem invS_ret {ce : CE} {x} {e0 : Stmt} {M : Stmt → Prop} (h : chkS ce (.ret x) e0 = true) (g : ∀ e u1, (chkE ce x e) = true → M (.Return (some e) u1)) : M e0 :=
  xS_Return_inv (M := M) h fun t1 u1 h =>
  xSome_inv (M := (fun t1 => M (.Return t1 u1))) h fun e h =>
  g e u1 h
@[elab_as_elim] theorem invS_ifs {ce : CE} {c a b} {e0 : Stmt} {M : Stmt → Prop} (h : chkS ce (.ifs c a b) e0 = true) (g : ∀ c' a' b' u1, (chkE ce c c' && chkSs ce a a' && chkSs ce b b') = true → M (.If c' a' b' u1)) : M e0 :=
  xS_If_inv (M := M) h fun c' a' b' u1 h =>
  g c' a' b' u1 h
@[elab_as_elim] theorem invS_while {ce : CE} {c b} {e0 : Stmt} {M : Stmt → Prop} (h : chkS ce (.while c b) e0 = true) (g : ∀ c' b' u1, (chkE ce c c' && chkSs ce b b') = true → M (.While c' b' [] u1)) : M e0 :=
  xS_While_inv (M := M) h fun c' b' t1 u1 h =>
  xNil_inv (M := (fun t1 => M (.While c' b' t1 u1))) h fun h =>
  g c' b' u1 h
@[elab_as_elim] theorem invS_for {ce : CE} {i it b} {e0 : Stmt} {M : Stmt → Prop} (h : chkS ce (.for i it b) e0 = true) (g : ∀ id u1 it' b' u2, (slotIs ce id i && notSet it' && chkE ce it it' && chkSs ce b b') = true → M (.For (.Name id u1) it' b' [] u2)) : M e0 :=
  xS_For_inv (M := M) h fun t1 it' b' t2 u2 h =>
  xE_Name_inv (M := (fun t1 => M (.For t1 it' b' t2 u2))) h fun id u1 h =>
  xNil_inv (M := (fun t2 => M (.For (.Name id u1) it' b' t2 u2))) h fun h =>
  g id u1 it' b' u2 h
end Mine
end
section
open PySem PySem.W
set_option maxRecDepth 100000
namespace Mine

/-- _law_draw -/
noncomputable def b0 : Sms :=
  (.cons (.while (.and (.cons (.cmp .ne (.var 0) (.list .nil)) (.cons (.cmp .eq (.sub (.var 0) (.int 0)) (.int 0)) .nil))) (.cons (.expr (.pop0 (.var 0)))
  .nil))
  (.cons (.ifs (.cmp .eq (.var 0) (.list .nil)) (.cons (.ret (.int 0))
  .nil) .nil)
  (.cons (.assign 2 (.bin .mod (.sub (.var 0) (.int 0)) (.var 1)))
  (.cons (.sstore (.var 0) (.int 0) (.bin .fdiv (.sub (.var 0) (.int 0)) (.var 1)))
  (.cons (.ret (.var 2))
  .nil)))))
noncomputable def f0 : FnInfo := ⟨2, 3, b0⟩
/-- _law_deck_of -/
noncomputable def b1 : Sms :=
  (.cons (.ret (.addC (.comp 1 (.bin .mod (.abs (.var 1)) (.bin .pow (.int 10) (.int 60))) (.slcTo (.var 0) (.int 24))) (.list (.cons (.int 1234567890123456789012345) .nil))))
  .nil)
noncomputable def f1 : FnInfo := ⟨1, 2, b1⟩
/-- _law_one -/
noncomputable def b2 : Sms :=
  (.cons (.ret (.sub (.var 1) (.call 0 (.cons (.var 0) (.cons (.len (.var 1)) .nil)))))
  .nil)
noncomputable def f2 : FnInfo := ⟨2, 2, b2⟩
/-- _law_new -/
noncomputable def b3 : Sms :=
  (.cons (.sstore (.var 0) (.var 1) (.bin .add (.sub (.var 0) (.var 1)) (.int 1)))
  (.cons (.ret (.sub (.var 0) (.var 1)))
  .nil))
noncomputable def f3 : FnInfo := ⟨2, 2, b3⟩
/-- _law_lam -/
noncomputable def b4 : Sms :=
  (.cons (.assign 4 (.comp 8 (.call 3 (.cons (.var 1) (.cons (.int 0) .nil))) (.range1 (.call 0 (.cons (.var 0) (.cons (.int 3) .nil))))))
  (.cons (.assign 5 (.ite (.cmp .eq (.call 0 (.cons (.var 0) (.cons (.int 4) .nil))) (.int 3)) (.call 3 (.cons (.var 1) (.cons (.int 0) .nil))) (.neg 1)))
  (.cons (.assign 6 (.bin .add (.bin .add (.var 2) (.var 4)) (.ite (.cmp .ge (.var 5) (.int 0)) (.list (.cons (.var 5) .nil)) (.list .nil))))
  (.cons (.assign 7 (.call 3 (.cons (.var 1) (.cons (.int 1) .nil))))
  (.cons (.ret (.mk 6 (.cons (.var 7) (.cons (.var 4) (.cons (.var 5) (.cons (.call 5 (.cons (.var 0) (.cons (.var 1) (.cons (.var 6) (.cons (.bin .sub (.var 3) (.int 1)) .nil))))) .nil))))))
  .nil)))))
noncomputable def f4 : FnInfo := ⟨4, 9, b4⟩
/-- _law_node_of -/
noncomputable def b5 : Sms :=
  (.cons (.assign 4 (.ite (.cmp .gt (.var 3) (.int 0)) (.call 0 (.cons (.var 0) (.cons (.int 12) .nil))) (.call 0 (.cons (.var 0) (.cons (.int 3) .nil)))))
  (.cons (.ifs (.or (.cons (.cmp .eq (.var 4) (.int 0)) (.cons (.and (.cons (.cmp .eq (.var 4) (.int 1)) (.cons (.cmp .eq (.var 2) (.list .nil)) .nil))) .nil))) (.cons (.ret (.mk 0 (.cons (.call 0 (.cons (.var 0) (.cons (.int 9) .nil))) .nil)))
  .nil) .nil)
  (.cons (.ifs (.cmp .eq (.var 4) (.int 1)) (.cons (.ret (.mk 1 (.cons (.call 2 (.cons (.var 0) (.cons (.var 2) .nil))) .nil)))
  .nil) .nil)
  (.cons (.ifs (.cmp .eq (.var 4) (.int 2)) (.cons (.ret (.mk 2 (.cons (.call 0 (.cons (.var 0) (.cons (.int 4) .nil))) .nil)))
  .nil) .nil)
  (.cons (.ifs (.cmp .eq (.var 4) (.int 3)) (.cons (.ret (.call 4 (.cons (.var 0) (.cons (.var 1) (.cons (.var 2) (.cons (.var 3) .nil))))))
  .nil) .nil)
  (.cons (.ifs (.cmp .eq (.var 4) (.int 4)) (.cons (.assign 5 (.comp 11 (.call 3 (.cons (.var 1) (.cons (.int 0) .nil))) (.range1 (.bin .add (.int 1) (.call 0 (.cons (.var 0) (.cons (.int 2) .nil)))))))
  (.cons (.assign 6 (.comp 10 (.call 4 (.cons (.var 0) (.cons (.var 1) (.cons (.bin .add (.var 2) (.var 5)) (.cons (.bin .sub (.var 3) (.int 1)) .nil))))) (.var 5)))
  (.cons (.ret (.mk 10 (.cons (.var 5) (.cons (.var 6) (.cons (.call 5 (.cons (.var 0) (.cons (.var 1) (.cons (.bin .add (.var 2) (.var 5)) (.cons (.bin .sub (.var 3) (.int 1)) .nil))))) .nil)))))
  .nil))) .nil)
  (.cons (.ifs (.and (.cons (.cmp .eq (.var 4) (.int 5)) (.cons (.cmp .ne (.var 2) (.list .nil)) .nil))) (.cons (.ret (.mk 3 (.cons (.call 2 (.cons (.var 0) (.cons (.var 2) .nil))) (.cons (.call 5 (.cons (.var 0) (.cons (.var 1) (.cons (.var 2) (.cons (.bin .sub (.var 3) (.int 1)) .nil))))) .nil))))
  .nil) .nil)
  (.cons (.ifs (.cmp .lt (.var 4) (.int 7)) (.cons (.ret (.mk 4 (.cons (.call 0 (.cons (.var 0) (.cons (.int 4) .nil))) (.cons (.call 5 (.cons (.var 0) (.cons (.var 1) (.cons (.var 2) (.cons (.bin .sub (.var 3) (.int 1)) .nil))))) .nil))))
  .nil) .nil)
  (.cons (.ifs (.cmp .eq (.var 4) (.int 7)) (.cons (.assign 7 (.call 4 (.cons (.var 0) (.cons (.var 1) (.cons (.var 2) (.cons (.var 3) .nil))))))
  (.cons (.ret (.mk 7 (.cons (.var 7) (.cons (.comp 9 (.call 5 (.cons (.var 0) (.cons (.var 1) (.cons (.var 2) (.cons (.bin .sub (.var 3) (.int 1)) .nil))))) (.attr (.var 7) 8)) .nil))))
  .nil)) .nil)
  (.cons (.assign 6 (.comp 8 (.call 5 (.cons (.var 0) (.cons (.var 1) (.cons (.var 2) (.cons (.bin .sub (.var 3) (.int 1)) .nil))))) (.range1 (.bin .add (.int 1) (.call 0 (.cons (.var 0) (.cons (.int 3) .nil)))))))
  (.cons (.ifs (.cmp .eq (.var 4) (.int 8)) (.cons (.ret (.mk 5 (.cons (.sub (.var 6) (.int 0)) (.cons (.sub (.var 6) (.neg 1)) (.cons (.mk 0 (.cons (.int 0) .nil)) .nil)))))
  .nil) .nil)
  (.cons (.ifs (.cmp .eq (.var 4) (.int 9)) (.cons (.ret (.mk 8 (.cons (.var 6) .nil)))
  .nil) .nil)
  (.cons (.ret (.ite (.cmp .eq (.var 4) (.int 10)) (.mk 7 (.cons (.sub (.var 6) (.int 0)) (.cons (.slcFrom (.var 6) (.int 1)) .nil))) (.mk 9 (.cons (.glob 12) (.cons (.var 6) .nil)))))
  .nil)))))))))))))
noncomputable def f5 : FnInfo := ⟨4, 12, b5⟩
/-- _law_shape -/
noncomputable def b6 : Sms :=
  (.cons (.multi [1, 2, 3] (.cons (.tuple .nil) (.cons .none (.cons .none .nil))))
  (.cons (.ifs (.cmp .isin (.attr (.var 0) 0) (.tuple (.cons (.glob 1) (.cons (.glob 3) .nil)))) (.cons (.assign 1 (.tuple (.cons (.attr (.var 0) 2) .nil)))
  .nil) (.cons (.ifs (.cmp .eq (.attr (.var 0) 0) (.glob 7)) (.cons (.multi [1, 2, 3] (.cons (.bin .add (.tupleOf (.attr (.var 0) 8)) (.ite (.cmp .ge (.attr (.var 0) 9) (.int 0)) (.tuple (.cons (.attr (.var 0) 9) .nil)) (.tuple .nil))) (.cons (.attr (.var 0) 7) (.cons (.cmp .ge (.attr (.var 0) 9) (.int 0)) .nil))))
  .nil) (.cons (.ifs (.cmp .eq (.attr (.var 0) 0) (.glob 11)) (.cons (.assign 1 (.tupleOf (.attr (.var 0) 15)))
  .nil) (.cons (.ifs (.isi (.var 0) [0]) (.cons (.assign 3 (.attr (.var 0) 1))
  .nil) (.cons (.ifs (.isi (.var 0) [2, 4]) (.cons (.assign 3 (.attr (.var 0) 3))
  .nil) (.cons (.ifs (.isi (.var 0) [9]) (.cons (.assign 3 (.attr (.var 0) 14))
  .nil) .nil)
  .nil))
  .nil))
  .nil))
  .nil))
  .nil))
  (.cons (.ret (.tuple (.cons (.attr (.var 0) 0) (.cons (.var 1) (.cons (.var 2) (.cons (.var 3) (.cons (.tupleOf (.comp 4 (.call 6 (.cons (.var 4) .nil)) (.meth (.var 0) 30 .nil))) .nil)))))))
  .nil)))
noncomputable def f6 : FnInfo := ⟨1, 5, b6⟩
/-- _law_numbers_in -/
noncomputable def b7 : Sms :=
  (.cons (.multi [1, 2] (.cons (.listOf (.sub (.var 0) (.int 1))) (.cons (.ite (.cmp .is (.sub (.var 0) (.int 2)) .none) (.list .nil) (.list (.cons (.sub (.var 0) (.int 2)) .nil))) .nil)))
  (.cons (.for 3 (.sub (.var 0) (.int 4)) (.cons (.unpack [4, 5] (.call 7 (.cons (.var 3) .nil)))
  (.cons (.multi [1, 2] (.cons (.bin .add (.var 1) (.var 4)) (.cons (.bin .add (.var 2) (.var 5)) .nil)))
  .nil)))
  (.cons (.ret (.tuple (.cons (.var 1) (.cons (.var 2) .nil))))
  .nil)))
noncomputable def f7 : FnInfo := ⟨1, 6, b7⟩
/-- _law_bare -/
noncomputable def b8 : Sms :=
  (.cons (.ret (.tuple (.cons (.sub (.var 0) (.int 0)) (.cons (.len (.sub (.var 0) (.int 1))) (.cons (.cmp .is (.sub (.var 0) (.int 2)) .none) (.cons (.sub (.var 0) (.int 3)) (.cons (.tupleOf (.comp 1 (.call 8 (.cons (.var 1) .nil)) (.sub (.var 0) (.int 4)))) .nil)))))))
  .nil)
noncomputable def f8 : FnInfo := ⟨1, 2, b8⟩
/-- _law_is_pairing -/
noncomputable def b9 : Sms :=
  (.cons (.for 2 (.range1 (.len (.var 0))) (.cons (.for 3 (.range1 (.var 2)) (.cons (.ifs (.cmp .ne (.cmp .eq (.sub (.var 0) (.var 2)) (.sub (.var 0) (.var 3))) (.cmp .eq (.sub (.var 1) (.var 2)) (.sub (.var 1) (.var 3)))) (.cons (.ret (.bool false))
  .nil) .nil)
  .nil))
  .nil))
  (.cons (.ret (.cmp .eq (.len (.var 0)) (.len (.var 1))))
  .nil))
noncomputable def f9 : FnInfo := ⟨2, 4, b9⟩
/-- _law_are_same -/
noncomputable def b10 : Sms :=
  (.cons (.ifs (.cmp .ne (.call 8 (.cons (.var 0) .nil)) (.call 8 (.cons (.var 1) .nil))) (.cons (.ret (.bool false))
  .nil) .nil)
  (.cons (.multi [2, 3] (.cons (.call 7 (.cons (.var 0) .nil)) (.cons (.call 7 (.cons (.var 1) .nil)) .nil)))
  (.cons (.ret (.and (.cons (.call 9 (.cons (.sub (.var 2) (.int 0)) (.cons (.sub (.var 3) (.int 0)) .nil))) (.cons (.call 9 (.cons (.sub (.var 2) (.int 1)) (.cons (.sub (.var 3) (.int 1)) .nil))) .nil))))
  .nil)))
noncomputable def f10 : FnInfo := ⟨2, 4, b10⟩
/-- _law_bound_in -/
noncomputable def b11 : Sms :=
  (.cons (.assign 1 (.ite (.cmp .eq (.attr (.var 0) 0) (.glob 11)) (.listOf (.attr (.var 0) 15)) (.list .nil)))
  (.cons (.ifs (.cmp .eq (.attr (.var 0) 0) (.glob 7)) (.cons (.assign 1 (.bin .add (.listOf (.attr (.var 0) 8)) (.ite (.cmp .ge (.attr (.var 0) 9) (.int 0)) (.list (.cons (.attr (.var 0) 9) .nil)) (.list .nil))))
  .nil) .nil)
  (.cons (.for 2 (.meth (.var 0) 30 .nil) (.cons (.assign 1 (.bin .add (.var 1) (.call 11 (.cons (.var 2) .nil))))
  .nil))
  (.cons (.ret (.var 1))
  .nil))))
noncomputable def f11 : FnInfo := ⟨1, 3, b11⟩
/-- _law_otherwise -/
noncomputable def b12 : Sms :=
  (.cons (.assign 4 (.meth (.var 1) 30 .nil))
  (.cons (.ifs (.and (.cons (.cmp .ne (.var 4) (.list .nil)) (.cons (.cmp .gt (.call 0 (.cons (.var 0) (.cons (.int 3) .nil))) (.int 0)) .nil))) (.cons (.assign 5 (.call 0 (.cons (.var 0) (.cons (.len (.var 4)) .nil))))
  (.cons (.ifs (.cmp .eq (.attr (.var 1) 0) (.glob 11)) (.cons (.assign 5 (.bin .sub (.len (.var 4)) (.int 1)))
  .nil) .nil)
  (.cons (.ret (.meth (.var 1) 31 (.cons (.bin .add (.bin .add (.slcTo (.var 4) (.var 5)) (.list (.cons (.call 12 (.cons (.var 0) (.cons (.sub (.var 4) (.var 5)) (.cons (.var 2) (.cons (.var 3) .nil))))) .nil))) (.slcFrom (.var 4) (.bin .add (.var 5) (.int 1)))) .nil)))
  .nil))) .nil)
  (.cons (.ifs (.cmp .eq (.attr (.var 1) 0) (.glob 1)) (.cons (.ret (.mk 1 (.cons (.var 2) .nil)))
  .nil) .nil)
  (.cons (.ifs (.cmp .eq (.attr (.var 1) 0) (.glob 3)) (.cons (.ret (.mk 3 (.cons (.var 2) (.cons (.attr (.var 1) 1) .nil))))
  .nil) .nil)
  (.cons (.ifs (.and (.cons (.cmp .eq (.attr (.var 1) 0) (.glob 7)) (.cons (.cmp .ge (.attr (.var 1) 9) (.int 0)) (.cons (.cmp .eq (.call 0 (.cons (.var 0) (.cons (.int 3) .nil))) (.int 0)) .nil)))) (.cons (.ret (.mk 6 (.cons (.attr (.var 1) 7) (.cons (.attr (.var 1) 8) (.cons (.neg 1) (.cons (.attr (.var 1) 10) .nil))))))
  .nil) .nil)
  (.cons (.ifs (.cmp .eq (.attr (.var 1) 0) (.glob 7)) (.cons (.ret (.mk 6 (.cons (.var 3) (.cons (.attr (.var 1) 8) (.cons (.attr (.var 1) 9) (.cons (.attr (.var 1) 10) .nil))))))
  .nil) .nil)
  (.cons (.ifs (.isi (.var 1) [0]) (.cons (.ret (.mk 0 (.cons (.bin .add (.attr (.var 1) 1) (.call 0 (.cons (.var 0) (.cons (.int 2) .nil)))) .nil)))
  .nil) .nil)
  (.cons (.ifs (.isi (.var 1) [2]) (.cons (.ret (.mk 2 (.cons (.bin .add (.attr (.var 1) 3) (.call 0 (.cons (.var 0) (.cons (.int 2) .nil)))) .nil)))
  .nil) .nil)
  (.cons (.ifs (.isi (.var 1) [4]) (.cons (.ret (.mk 4 (.cons (.bin .add (.attr (.var 1) 3) (.call 0 (.cons (.var 0) (.cons (.int 2) .nil)))) (.cons (.attr (.var 1) 1) .nil))))
  .nil) .nil)
  (.cons (.ret (.ite (.isi (.var 1) [9]) (.mk 9 (.cons (.bin .add (.attr (.var 1) 14) (.call 0 (.cons (.var 0) (.cons (.int 2) .nil)))) (.cons (.attr (.var 1) 12) .nil))) (.var 1)))
  .nil))))))))))
noncomputable def f12 : FnInfo := ⟨4, 6, b12⟩
/-- law -/
noncomputable def b13 : Sms :=
  (.cons (.multi [1, 2, 3] (.cons (.call 1 (.cons (.var 0) .nil)) (.cons (.listC (.cons (.int 2) (.cons (.int 0) .nil))) (.cons (.new 12) .nil))))
  (.cons (.astore (.var 3) 22 (.int 200))
  (.cons (.assign 4 (.mk 6 (.cons (.call 3 (.cons (.var 2) (.cons (.int 1) .nil))) (.cons (.list (.cons (.int 1) .nil)) (.cons (.int 2) (.cons (.call 5 (.cons (.var 1) (.cons (.var 2) (.cons (.list (.cons (.int 1) (.cons (.int 2) (.cons (.int 0) .nil)))) (.cons (.int 2) .nil))))) .nil))))))
  (.cons (.assign 5 (.call 6 (.cons (.var 4) .nil)))
  (.cons (.assign 6 (.sub (.call 7 (.cons (.var 5) .nil)) (.int 1)))
  (.cons (.for 7 (.slcTwo (.var 6)) (.cons (.expr (.meth (.var 3) 39 (.cons (.var 7) (.cons (.bin .mul (.str (Str.ofString "t")) (.var 7)) .nil))))
  .nil))
  (.cons (.assign 8 (.call 18 (.cons (.var 4) (.cons (.var 3) .nil))))
  (.cons (.multi [9, 10, 11] (.cons (.call 6 (.cons (.var 8) .nil)) (.cons (.sub (.call 7 (.cons (.var 5) .nil)) (.int 0)) (.cons (.call 11 (.cons (.var 4) .nil)) .nil))))
  (.cons (.ifs (.or (.cons (.cmp .ne (.call 6 (.cons (.var 4) .nil)) (.var 5)) (.cons (.not (.call 10 (.cons (.var 5) (.cons (.var 9) .nil)))) (.cons (.not (.call 28 (.cons (.var 4) (.cons (.var 8) .nil)))) (.cons (.not (.call 28 (.cons (.var 8) (.cons (.var 4) .nil)))) .nil))))) (.cons (.ret (.bool false))
  .nil) .nil)
  (.cons (.multi [12, 13] (.cons (.call 7 (.cons (.var 9) .nil)) (.cons (.call 11 (.cons (.var 8) .nil)) .nil)))
  (.cons (.ifs (.or (.cons (.cmp .ne (.compIf 19 (.int 1) (.bin .add (.var 13) (.sub (.var 12) (.int 1))) (.cmp .le (.var 19) (.int 200))) (.list .nil)) (.cons (.cmp .ne (.len (.var 13)) (.len (.var 11))) .nil))) (.cons (.ret (.bool false))
  .nil) .nil)
  (.cons (.for 14 (.range1 (.len (.var 10))) (.cons (.ifs (.or (.cons (.cmp .ne (.cmp .isin (.sub (.var 10) (.var 14)) (.var 11)) (.cmp .gt (.sub (.sub (.var 12) (.int 0)) (.var 14)) (.int 200))) (.cons (.and (.cons (.cmp .notin (.sub (.var 10) (.var 14)) (.var 11)) (.cons (.cmp .ne (.sub (.sub (.var 12) (.int 0)) (.var 14)) (.sub (.var 10) (.var 14))) .nil))) .nil))) (.cons (.ret (.bool false))
  .nil) .nil)
  .nil))
  (.cons (.ifs (.cmp .ne (.comp 17 (.meth (.var 3) 40 (.cons (.var 17) .nil)) (.sub (.var 12) (.int 1))) (.comp 18 (.meth (.var 3) 40 (.cons (.var 18) .nil)) (.var 6))) (.cons (.ret (.bool false))
  .nil) .nil)
  (.cons (.for 15 (.range1 (.int 2)) (.cons (.assign 16 (.call 12 (.cons (.var 1) (.cons (.var 8) (.cons (.call 2 (.cons (.var 1) (.cons (.list (.cons (.int 0) (.cons (.int 1) (.cons (.int 2) (.cons (.int 201) (.cons (.int 202) (.cons (.int 203) (.cons (.int 204) (.cons (.int 999) .nil))))))))) .nil))) (.cons (.call 2 (.cons (.var 1) (.cons (.list (.cons (.int 1) (.cons (.int 202) (.cons (.int 203) (.cons (.int 888) .nil))))) .nil))) .nil))))))
  (.cons (.ifs (.cmp .ne (.call 28 (.cons (.var 4) (.cons (.var 16) .nil))) (.call 10 (.cons (.var 5) (.cons (.call 6 (.cons (.var 16) .nil)) .nil)))) (.cons (.ret (.bool false))
  .nil) .nil)
  .nil)))
  (.cons (.ret (.and (.cons (.call 28 (.cons (.mk 1 (.cons (.int 0) .nil)) (.cons (.mk 1 (.cons (.int 5) .nil)) .nil))) (.cons (.not (.call 28 (.cons (.mk 8 (.cons (.list (.cons (.mk 1 (.cons (.int 1) .nil)) (.cons (.mk 1 (.cons (.int 2) .nil)) .nil))) .nil)) (.cons (.mk 8 (.cons (.list (.cons (.mk 1 (.cons (.int 3) .nil)) (.cons (.mk 1 (.cons (.int 3) .nil)) .nil))) .nil)) .nil)))) .nil))))
  .nil)))))))))))))))
noncomputable def f13 : FnInfo := ⟨1, 20, b13⟩
/-- binders_of -/
noncomputable def b14 : Sms :=
  (.cons (.ifs (.cmp .eq (.attr (.var 0) 0) (.glob 7)) (.cons (.ret (.meth (.var 0) 32 .nil))
  .nil) .nil)
  (.cons (.ret (.ite (.cmp .eq (.attr (.var 0) 0) (.glob 11)) (.attr (.var 0) 15) (.list .nil)))
  .nil))
noncomputable def f14 : FnInfo := ⟨1, 1, b14⟩
/-- are_same_list -/
noncomputable def b15 : Sms :=
  (.cons (.ifs (.cmp .ne (.len (.var 0)) (.len (.var 1))) (.cons (.ret (.bool false))
  .nil) .nil)
  (.cons (.for 2 (.range1 (.len (.var 0))) (.cons (.ifs (.cmp .isnot (.sub (.var 0) (.var 2)) (.sub (.var 1) (.var 2))) (.cons (.ret (.bool false))
  .nil) .nil)
  .nil))
  (.cons (.ret (.bool true))
  .nil)))
noncomputable def f15 : FnInfo := ⟨2, 3, b15⟩
/-- rebuilt -/
noncomputable def b16 : Sms :=
  (.cons (.assign 2 (.listC .nil))
  (.cons (.assign 3 (.listC (.cons (.tuple (.cons (.var 0) (.cons (.bool false) .nil))) .nil)))
  (.cons (.while (.cmp .gt (.len (.var 3)) (.int 0)) (.cons (.unpack [4, 5] (.pop (.var 3)))
  (.cons (.assign 6 (.meth (.var 4) 30 .nil))
  (.cons (.ifs (.and (.cons (.not (.var 5)) (.cons (.cmp .gt (.len (.var 6)) (.int 0)) .nil))) (.cons (.expr (.append (.var 3) (.tuple (.cons (.var 4) (.cons (.bool true) .nil)))))
  (.cons (.for 7 (.slcRev (.var 6)) (.cons (.expr (.append (.var 3) (.tuple (.cons (.var 7) (.cons (.bool false) .nil)))))
  .nil))
  .nil)) (.cons (.assign 8 (.bin .sub (.len (.var 2)) (.len (.var 6))))
  (.cons (.assign 9 (.slcFrom (.var 2) (.var 8)))
  (.cons (.reslice 2 (.var 8))
  (.cons (.ifs (.not (.call 15 (.cons (.var 6) (.cons (.var 9) .nil)))) (.cons (.assign 4 (.meth (.var 4) 31 (.cons (.var 9) .nil)))
  .nil) .nil)
  (.cons (.expr (.append (.var 2) (.callv 1 (.cons (.var 4) .nil))))
  .nil))))))
  .nil))))
  (.cons (.ret (.sub (.var 2) (.int 0)))
  .nil))))
noncomputable def f16 : FnInfo := ⟨2, 10, b16⟩
/-- all_nodes -/
noncomputable def b17 : Sms :=
  (.cons (.assign 1 (.listC .nil))
  (.cons (.assign 2 (.listC (.cons (.var 0) .nil)))
  (.cons (.while (.cmp .gt (.len (.var 2)) (.int 0)) (.cons (.assign 3 (.pop (.var 2)))
  (.cons (.expr (.append (.var 1) (.var 3)))
  (.cons (.for 4 (.slcRev (.meth (.var 3) 30 .nil)) (.cons (.expr (.append (.var 2) (.var 4)))
  .nil))
  .nil))))
  (.cons (.ret (.var 1))
  .nil))))
noncomputable def f17 : FnInfo := ⟨1, 5, b17⟩
/-- renumbered -/
noncomputable def b18 : Sms :=
  (.cons (.assign 2 (.new 11))
  (.cons (.for 3 (.call 17 (.cons (.var 0) .nil)) (.cons (.ifs (.cmp .eq (.attr (.var 3) 0) (.glob 7)) (.cons (.assign 4 (.meth (.var 1) 36 .nil))
  (.cons (.sstore (.attr (.var 2) 18) (.attr (.var 3) 7) (.var 4))
  (.cons (.ifs (.cmp .isin (.attr (.var 3) 7) (.attr (.var 1) 23)) (.cons (.sstore (.attr (.var 1) 23) (.var 4) (.sub (.attr (.var 1) 23) (.attr (.var 3) 7)))
  .nil) .nil)
  .nil))) .nil)
  (.cons (.for 5 (.call 14 (.cons (.var 3) .nil)) (.cons (.sstore (.attr (.var 2) 17) (.var 5) (.meth (.var 1) 36 .nil))
  .nil))
  .nil)))
  (.cons (.ret (.call 16 (.cons (.var 0) (.cons (.attr (.var 2) 35) .nil))))
  .nil)))
noncomputable def f18 : FnInfo := ⟨2, 6, b18⟩
/-- kind_word -/
noncomputable def b19 : Sms :=
  (.cons (.ifs (.isi (.var 0) [27]) (.cons (.ret (.str (Str.ofString "boolean")))
  .nil) .nil)
  (.cons (.ifs (.isi (.var 0) [15]) (.cons (.ret (.str (Str.ofString "pair")))
  .nil) .nil)
  (.cons (.ifs (.isi (.var 0) [16]) (.cons (.ret (.str (Str.ofString "symbol")))
  .nil) .nil)
  (.cons (.ifs (.isi (.var 0) [17]) (.cons (.ret (.attr (.var 0) 56))
  .nil) .nil)
  (.cons (.ifs (.isi (.var 0) [18]) (.cons (.ret (.str (Str.ofString "char")))
  .nil) .nil)
  (.cons (.ifs (.isi (.var 0) [19]) (.cons (.ret (.str (Str.ofString "string")))
  .nil) .nil)
  (.cons (.ifs (.isi (.var 0) [20]) (.cons (.ret (.str (Str.ofString "vector")))
  .nil) .nil)
  (.cons (.ifs (.isi (.var 0) [21]) (.cons (.ret (.str (Str.ofString "procedure")))
  .nil) .nil)
  (.cons (.ifs (.isi (.var 0) [22]) (.cons (.ret (.str (Str.ofString "promise")))
  .nil) .nil)
  (.cons (.ifs (.isi (.var 0) [23]) (.cons (.ret (.str (Str.ofString "box")))
  .nil) .nil)
  (.cons (.ret (.ite (.isi (.var 0) [24]) (.str (Str.ofString "port")) (.str (Str.ofString "number"))))
  .nil)))))))))))
noncomputable def f19 : FnInfo := ⟨1, 1, b19⟩
/-- is_inexact -/
noncomputable def b20 : Sms :=
  (.cons (.ret (.isi (.var 0) [25]))
  .nil)
noncomputable def f20 : FnInfo := ⟨1, 1, b20⟩
/-- same_number -/
noncomputable def b21 : Sms :=
  (.cons (.ifs (.or (.cons (.call 20 (.cons (.var 0) .nil)) (.cons (.call 20 (.cons (.var 1) .nil)) .nil))) (.cons (.ret (.and (.cons (.call 20 (.cons (.var 0) .nil)) (.cons (.call 20 (.cons (.var 1) .nil)) (.cons (.call 29 (.cons (.var 0) (.cons (.var 1) .nil))) .nil)))))
  .nil) .nil)
  (.cons (.ret (.call 22 (.cons (.var 0) (.cons (.var 1) .nil))))
  .nil))
noncomputable def f21 : FnInfo := ⟨2, 2, b21⟩
/-- is_equal_exact -/
noncomputable def b22 : Sms :=
  (.cons (.ret (.and (.cons (.cmp .eq (.call 23 (.cons (.var 0) .nil)) (.call 23 (.cons (.var 1) .nil))) (.cons (.cmp .eq (.call 24 (.cons (.var 0) .nil)) (.call 24 (.cons (.var 1) .nil))) .nil))))
  .nil)
noncomputable def f22 : FnInfo := ⟨2, 2, b22⟩
/-- top_of -/
noncomputable def b23 : Sms :=
  (.cons (.ret (.ite (.isi (.var 0) [26]) (.attr (.var 0) 57) (.var 0)))
  .nil)
noncomputable def f23 : FnInfo := ⟨1, 1, b23⟩
/-- bottom_of -/
noncomputable def b24 : Sms :=
  (.cons (.ret (.ite (.isi (.var 0) [26]) (.attr (.var 0) 58) (.int 1)))
  .nil)
noncomputable def f24 : FnInfo := ⟨1, 1, b24⟩
/-- are_same_atoms -/
noncomputable def b25 : Sms :=
  (.cons (.ifs (.cmp .eq (.var 2) (.str (Str.ofString "number"))) (.cons (.ret (.call 21 (.cons (.var 0) (.cons (.var 1) .nil))))
  .nil) .nil)
  (.cons (.ifs (.cmp .eq (.var 2) (.str (Str.ofString "symbol"))) (.cons (.ret (.cmp .eq (.attr (.var 0) 2) (.attr (.var 1) 2)))
  .nil) .nil)
  (.cons (.ifs (.cmp .eq (.var 2) (.str (Str.ofString "char"))) (.cons (.ret (.cmp .eq (.attr (.var 0) 59) (.attr (.var 1) 59)))
  .nil) .nil)
  (.cons (.ifs (.cmp .eq (.var 2) (.str (Str.ofString "boolean"))) (.cons (.ret (.cmp .eq (.var 0) (.var 1)))
  .nil) .nil)
  (.cons (.ret (.cmp .is (.var 0) (.var 1)))
  .nil)))))
noncomputable def f25 : FnInfo := ⟨3, 3, b25⟩
/-- same_datum -/
noncomputable def b26 : Sms :=
  (.cons (.assign 2 (.listC (.cons (.tuple (.cons (.var 0) (.cons (.var 1) .nil))) .nil)))
  (.cons (.while (.cmp .gt (.len (.var 2)) (.int 0)) (.cons (.unpack [3, 4] (.pop (.var 2)))
  (.cons (.assign 5 (.call 19 (.cons (.var 3) .nil)))
  (.cons (.ifs (.cmp .ne (.var 5) (.call 19 (.cons (.var 4) .nil))) (.cons (.ret (.bool false))
  .nil) .nil)
  (.cons (.ifs (.cmp .eq (.var 5) (.str (Str.ofString "pair"))) (.cons (.expr (.append (.var 2) (.tuple (.cons (.attr (.var 3) 53) (.cons (.attr (.var 4) 53) .nil)))))
  (.cons (.expr (.append (.var 2) (.tuple (.cons (.attr (.var 3) 52) (.cons (.attr (.var 4) 52) .nil)))))
  .nil)) (.cons (.ifs (.cmp .eq (.var 5) (.str (Str.ofString "vector"))) (.cons (.ifs (.cmp .ne (.len (.attr (.var 3) 54)) (.len (.attr (.var 4) 54))) (.cons (.ret (.bool false))
  .nil) .nil)
  (.cons (.for 6 (.range1 (.len (.attr (.var 3) 54))) (.cons (.expr (.append (.var 2) (.tuple (.cons (.sub (.attr (.var 3) 54) (.var 6)) (.cons (.sub (.attr (.var 4) 54) (.var 6)) .nil)))))
  .nil))
  .nil)) (.cons (.ifs (.cmp .eq (.var 5) (.str (Str.ofString "string"))) (.cons (.ifs (.cmp .ne (.attr (.var 3) 55) (.attr (.var 4) 55)) (.cons (.ret (.bool false))
  .nil) .nil)
  .nil) (.cons (.ifs (.not (.call 25 (.cons (.var 3) (.cons (.var 4) (.cons (.var 5) .nil))))) (.cons (.ret (.bool false))
  .nil) .nil)
  .nil))
  .nil))
  .nil))
  .nil)))))
  (.cons (.ret (.bool true))
  .nil)))
noncomputable def f26 : FnInfo := ⟨2, 7, b26⟩
/-- heads_alike -/
noncomputable def b27 : Sms :=
  (.cons (.ifs (.cmp .eq (.attr (.var 0) 0) (.glob 0)) (.cons (.ret (.call 26 (.cons (.attr (.var 0) 1) (.cons (.attr (.var 1) 1) .nil))))
  .nil) .nil)
  (.cons (.ifs (.cmp .isin (.attr (.var 0) 0) (.tuple (.cons (.glob 1) (.cons (.glob 3) .nil)))) (.cons (.ret (.meth (.var 2) 37 (.cons (.attr (.var 0) 2) (.cons (.attr (.var 1) 2) .nil))))
  .nil) .nil)
  (.cons (.ifs (.cmp .isin (.attr (.var 0) 0) (.tuple (.cons (.glob 2) (.cons (.glob 4) (.cons (.glob 5) .nil))))) (.cons (.ret (.cmp .eq (.attr (.var 0) 3) (.attr (.var 1) 3)))
  .nil) .nil)
  (.cons (.ifs (.cmp .eq (.attr (.var 0) 0) (.glob 10)) (.cons (.ret (.cmp .eq (.attr (.var 0) 14) (.attr (.var 1) 14)))
  .nil) .nil)
  (.cons (.ifs (.cmp .eq (.attr (.var 0) 0) (.glob 7)) (.cons (.ifs (.or (.cons (.cmp .ne (.cmp .lt (.attr (.var 0) 9) (.int 0)) (.cmp .lt (.attr (.var 1) 9) (.int 0))) (.cons (.not (.meth (.var 3) 37 (.cons (.attr (.var 0) 7) (.cons (.attr (.var 1) 7) .nil)))) .nil))) (.cons (.ret (.bool false))
  .nil) .nil)
  (.cons (.ret (.meth (.var 2) 38 (.cons (.meth (.var 0) 32 .nil) (.cons (.meth (.var 1) 32 .nil) .nil))))
  .nil)) .nil)
  (.cons (.ret (.or (.cons (.cmp .ne (.attr (.var 0) 0) (.glob 11)) (.cons (.meth (.var 2) 38 (.cons (.attr (.var 0) 15) (.cons (.attr (.var 1) 15) .nil))) .nil))))
  .nil))))))
noncomputable def f27 : FnInfo := ⟨4, 4, b27⟩
/-- same_core -/
noncomputable def b28 : Sms :=
  (.cons (.assign 2 (.new 14))
  (.cons (.assign 3 (.new 14))
  (.cons (.assign 4 (.listC (.cons (.tuple (.cons (.var 0) (.cons (.var 1) .nil))) .nil)))
  (.cons (.while (.cmp .gt (.len (.var 4)) (.int 0)) (.cons (.unpack [5, 6] (.pop (.var 4)))
  (.cons (.ifs (.or (.cons (.cmp .ne (.attr (.var 5) 0) (.attr (.var 6) 0)) (.cons (.not (.call 27 (.cons (.var 5) (.cons (.var 6) (.cons (.var 2) (.cons (.var 3) .nil)))))) .nil))) (.cons (.ret (.bool false))
  .nil) .nil)
  (.cons (.assign 7 (.meth (.var 5) 30 .nil))
  (.cons (.assign 8 (.meth (.var 6) 30 .nil))
  (.cons (.ifs (.cmp .ne (.len (.var 7)) (.len (.var 8))) (.cons (.ret (.bool false))
  .nil) .nil)
  (.cons (.for 9 (.range3 (.bin .sub (.len (.var 7)) (.int 1)) (.neg 1) (.neg 1)) (.cons (.expr (.append (.var 4) (.tuple (.cons (.sub (.var 7) (.var 9)) (.cons (.sub (.var 8) (.var 9)) .nil)))))
  .nil))
  .nil)))))))
  (.cons (.ret (.bool true))
  .nil)))))
noncomputable def f28 : FnInfo := ⟨2, 10, b28⟩
/-- Node.parts -/
noncomputable def b30 : Sms :=
  (.cons (.ret (.list .nil))
  .nil)
noncomputable def f30 : FnInfo := ⟨1, 1, b30⟩
/-- SetLocal.parts -/
noncomputable def b31 : Sms :=
  (.cons (.ret (.list (.cons (.attr (.var 0) 1) .nil)))
  .nil)
noncomputable def f31 : FnInfo := ⟨1, 1, b31⟩
/-- SetLocal.with_parts -/
noncomputable def b32 : Sms :=
  (.cons (.ret (.mk 3 (.cons (.attr (.var 0) 2) (.cons (.sub (.var 1) (.int 0)) .nil))))
  .nil)
noncomputable def f32 : FnInfo := ⟨2, 2, b32⟩
/-- SetGlobal.parts -/
noncomputable def b33 : Sms :=
  (.cons (.ret (.list (.cons (.attr (.var 0) 1) .nil)))
  .nil)
noncomputable def f33 : FnInfo := ⟨1, 1, b33⟩
/-- SetGlobal.with_parts -/
noncomputable def b34 : Sms :=
  (.cons (.ret (.mk 4 (.cons (.attr (.var 0) 3) (.cons (.sub (.var 1) (.int 0)) .nil))))
  .nil)
noncomputable def f34 : FnInfo := ⟨2, 2, b34⟩
/-- If.parts -/
noncomputable def b35 : Sms :=
  (.cons (.ret (.list (.cons (.attr (.var 0) 4) (.cons (.attr (.var 0) 5) (.cons (.attr (.var 0) 6) .nil)))))
  .nil)
noncomputable def f35 : FnInfo := ⟨1, 1, b35⟩
/-- If.with_parts -/
noncomputable def b36 : Sms :=
  (.cons (.ret (.mk 5 (.cons (.sub (.var 1) (.int 0)) (.cons (.sub (.var 1) (.int 1)) (.cons (.sub (.var 1) (.int 2)) .nil)))))
  .nil)
noncomputable def f36 : FnInfo := ⟨2, 2, b36⟩
/-- Lambda.parts -/
noncomputable def b37 : Sms :=
  (.cons (.ret (.list (.cons (.attr (.var 0) 10) .nil)))
  .nil)
noncomputable def f37 : FnInfo := ⟨1, 1, b37⟩
/-- Lambda.with_parts -/
noncomputable def b38 : Sms :=
  (.cons (.ret (.mk 6 (.cons (.attr (.var 0) 7) (.cons (.attr (.var 0) 8) (.cons (.attr (.var 0) 9) (.cons (.sub (.var 1) (.int 0)) .nil))))))
  .nil)
noncomputable def f38 : FnInfo := ⟨2, 2, b38⟩
/-- Lambda.binders -/
noncomputable def b39 : Sms :=
  (.cons (.ret (.ite (.cmp .ge (.attr (.var 0) 9) (.int 0)) (.bin .add (.attr (.var 0) 8) (.list (.cons (.attr (.var 0) 9) .nil))) (.listOf (.attr (.var 0) 8))))
  .nil)
noncomputable def f39 : FnInfo := ⟨1, 1, b39⟩
/-- Call.parts -/
noncomputable def b40 : Sms :=
  (.cons (.ret (.bin .add (.list (.cons (.attr (.var 0) 11) .nil)) (.attr (.var 0) 12)))
  .nil)
noncomputable def f40 : FnInfo := ⟨1, 1, b40⟩
/-- Call.with_parts -/
noncomputable def b41 : Sms :=
  (.cons (.ret (.mk 7 (.cons (.sub (.var 1) (.int 0)) (.cons (.slcFrom (.var 1) (.int 1)) .nil))))
  .nil)
noncomputable def f41 : FnInfo := ⟨2, 2, b41⟩
/-- Seq.parts -/
noncomputable def b42 : Sms :=
  (.cons (.ret (.listOf (.attr (.var 0) 13)))
  .nil)
noncomputable def f42 : FnInfo := ⟨1, 1, b42⟩
/-- Seq.with_parts -/
noncomputable def b43 : Sms :=
  (.cons (.ret (.mk 8 (.cons (.var 1) .nil)))
  .nil)
noncomputable def f43 : FnInfo := ⟨2, 2, b43⟩
/-- Prim.parts -/
noncomputable def b44 : Sms :=
  (.cons (.ret (.listOf (.attr (.var 0) 12)))
  .nil)
noncomputable def f44 : FnInfo := ⟨1, 1, b44⟩
/-- Prim.with_parts -/
noncomputable def b45 : Sms :=
  (.cons (.ret (.mk 9 (.cons (.attr (.var 0) 14) (.cons (.var 1) .nil))))
  .nil)
noncomputable def f45 : FnInfo := ⟨2, 2, b45⟩
/-- Fix.parts -/
noncomputable def b46 : Sms :=
  (.cons (.ret (.bin .add (.attr (.var 0) 16) (.list (.cons (.attr (.var 0) 10) .nil))))
  .nil)
noncomputable def f46 : FnInfo := ⟨1, 1, b46⟩
/-- Fix.with_parts -/
noncomputable def b47 : Sms :=
  (.cons (.ret (.mk 10 (.cons (.attr (.var 0) 15) (.cons (.slcTo (.var 1) (.neg 1)) (.cons (.sub (.var 1) (.neg 1)) .nil)))))
  .nil)
noncomputable def f47 : FnInfo := ⟨2, 2, b47⟩
/-- Renaming.__init__ -/
noncomputable def b48 : Sms :=
  (.cons (.astore (.var 0) 17 .dictC)
  (.cons (.astore (.var 0) 18 .dictC)
  .nil))
noncomputable def f48 : FnInfo := ⟨1, 1, b48⟩
/-- Renaming.local -/
noncomputable def b49 : Sms :=
  (.cons (.ret (.get (.attr (.var 0) 17) (.var 1) (.var 1)))
  .nil)
noncomputable def f49 : FnInfo := ⟨2, 2, b49⟩
/-- Renaming.label -/
noncomputable def b50 : Sms :=
  (.cons (.ret (.get (.attr (.var 0) 18) (.var 1) (.var 1)))
  .nil)
noncomputable def f50 : FnInfo := ⟨2, 2, b50⟩
/-- Renaming.turned -/
noncomputable def b51 : Sms :=
  (.cons (.ifs (.cmp .eq (.attr (.var 1) 0) (.glob 1)) (.cons (.ret (.ite (.cmp .isin (.attr (.var 1) 2) (.attr (.var 0) 17)) (.mk 1 (.cons (.meth (.var 0) 33 (.cons (.attr (.var 1) 2) .nil)) .nil)) (.var 1)))
  .nil) .nil)
  (.cons (.ifs (.cmp .eq (.attr (.var 1) 0) (.glob 3)) (.cons (.ret (.mk 3 (.cons (.meth (.var 0) 33 (.cons (.attr (.var 1) 2) .nil)) (.cons (.attr (.var 1) 1) .nil))))
  .nil) .nil)
  (.cons (.ifs (.cmp .eq (.attr (.var 1) 0) (.glob 7)) (.cons (.assign 2 (.comp 5 (.meth (.var 0) 33 (.cons (.var 5) .nil)) (.attr (.var 1) 8)))
  (.cons (.assign 3 (.ite (.cmp .ge (.attr (.var 1) 9) (.int 0)) (.meth (.var 0) 33 (.cons (.attr (.var 1) 9) .nil)) (.neg 1)))
  (.cons (.ret (.mk 6 (.cons (.meth (.var 0) 7 (.cons (.attr (.var 1) 7) .nil)) (.cons (.var 2) (.cons (.var 3) (.cons (.attr (.var 1) 10) .nil))))))
  .nil))) .nil)
  (.cons (.ifs (.cmp .eq (.attr (.var 1) 0) (.glob 11)) (.cons (.ret (.mk 10 (.cons (.comp 4 (.meth (.var 0) 33 (.cons (.var 4) .nil)) (.attr (.var 1) 15)) (.cons (.attr (.var 1) 16) (.cons (.attr (.var 1) 10) .nil)))))
  .nil) .nil)
  (.cons (.ret (.var 1))
  .nil)))))
noncomputable def f51 : FnInfo := ⟨2, 6, b51⟩
/-- SymbolTable.__init__ -/
noncomputable def b52 : Sms :=
  (.cons (.astore (.var 0) 19 (.list .nil))
  (.cons (.astore (.var 0) 20 .dictC)
  .nil))
noncomputable def f52 : FnInfo := ⟨1, 1, b52⟩
/-- Likeness.__init__ -/
noncomputable def b53 : Sms :=
  (.cons (.astore (.var 0) 26 .dictC)
  (.cons (.astore (.var 0) 27 .dictC)
  .nil))
noncomputable def f53 : FnInfo := ⟨1, 1, b53⟩
/-- Likeness.goes -/
noncomputable def b54 : Sms :=
  (.cons (.ifs (.or (.cons (.cmp .isin (.var 1) (.attr (.var 0) 26)) (.cons (.cmp .isin (.var 2) (.attr (.var 0) 27)) .nil))) (.cons (.ret (.and (.cons (.cmp .eq (.get (.attr (.var 0) 26) (.var 1) (.neg 1)) (.var 2)) (.cons (.cmp .eq (.get (.attr (.var 0) 27) (.var 2) (.neg 1)) (.var 1)) .nil))))
  .nil) .nil)
  (.cons (.sstore (.attr (.var 0) 26) (.var 1) (.var 2))
  (.cons (.sstore (.attr (.var 0) 27) (.var 2) (.var 1))
  (.cons (.ret (.bool true))
  .nil))))
noncomputable def f54 : FnInfo := ⟨3, 3, b54⟩
/-- Likeness.all_go -/
noncomputable def b55 : Sms :=
  (.cons (.ifs (.cmp .ne (.len (.var 1)) (.len (.var 2))) (.cons (.ret (.bool false))
  .nil) .nil)
  (.cons (.for 3 (.range1 (.len (.var 1))) (.cons (.ifs (.not (.meth (.var 0) 37 (.cons (.sub (.var 1) (.var 3)) (.cons (.sub (.var 2) (.var 3)) .nil)))) (.cons (.ret (.bool false))
  .nil) .nil)
  .nil))
  (.cons (.ret (.bool true))
  .nil)))
noncomputable def f55 : FnInfo := ⟨3, 4, b55⟩
/-- Names.__init__ -/
noncomputable def b56 : Sms :=
  (.cons (.astore (.var 0) 21 (.new 13))
  (.cons (.astore (.var 0) 22 (.int 0))
  (.cons (.astore (.var 0) 23 .dictC)
  (.cons (.astore (.var 0) 24 .dictC)
  (.cons (.astore (.var 0) 25 .none)
  .nil)))))
noncomputable def f56 : FnInfo := ⟨1, 1, b56⟩
/-- Names.fresh -/
noncomputable def b57 : Sms :=
  (.cons (.astore (.var 0) 22 (.bin .add (.attr (.var 0) 22) (.int 1)))
  (.cons (.ret (.attr (.var 0) 22))
  .nil))
noncomputable def f57 : FnInfo := ⟨1, 1, b57⟩
/-- Names.set_title -/
noncomputable def b58 : Sms :=
  (.cons (.ifs (.cmp .notin (.var 1) (.attr (.var 0) 23)) (.cons (.sstore (.attr (.var 0) 23) (.var 1) (.var 2))
  .nil) .nil)
  .nil)
noncomputable def f58 : FnInfo := ⟨3, 3, b58⟩
/-- Names.title_of -/
noncomputable def b59 : Sms :=
  (.cons (.ret (.get (.attr (.var 0) 23) (.var 1) (.str (Str.ofString ""))))
  .nil)
noncomputable def f59 : FnInfo := ⟨2, 2, b59⟩
/-- Const.__init__ -/
noncomputable def b60 : Sms :=
  (.cons (.astore (.var 0) 1 (.var 1))
  .nil)
noncomputable def f60 : FnInfo := ⟨2, 2, b60⟩
/-- Local.__init__ -/
noncomputable def b61 : Sms :=
  (.cons (.astore (.var 0) 2 (.var 1))
  .nil)
noncomputable def f61 : FnInfo := ⟨2, 2, b61⟩
/-- Global.__init__ -/
noncomputable def b62 : Sms :=
  (.cons (.astore (.var 0) 3 (.var 1))
  .nil)
noncomputable def f62 : FnInfo := ⟨2, 2, b62⟩
/-- SetLocal.__init__ -/
noncomputable def b63 : Sms :=
  (.cons (.astore (.var 0) 2 (.var 1))
  (.cons (.astore (.var 0) 1 (.var 2))
  .nil))
noncomputable def f63 : FnInfo := ⟨3, 3, b63⟩
/-- SetGlobal.__init__ -/
noncomputable def b64 : Sms :=
  (.cons (.astore (.var 0) 3 (.var 1))
  (.cons (.astore (.var 0) 1 (.var 2))
  .nil))
noncomputable def f64 : FnInfo := ⟨3, 3, b64⟩
/-- If.__init__ -/
noncomputable def b65 : Sms :=
  (.cons (.astore (.var 0) 4 (.var 1))
  (.cons (.astore (.var 0) 5 (.var 2))
  (.cons (.astore (.var 0) 6 (.var 3))
  .nil)))
noncomputable def f65 : FnInfo := ⟨4, 4, b65⟩
/-- Lambda.__init__ -/
noncomputable def b66 : Sms :=
  (.cons (.astore (.var 0) 7 (.var 1))
  (.cons (.astore (.var 0) 8 (.var 2))
  (.cons (.astore (.var 0) 9 (.var 3))
  (.cons (.astore (.var 0) 10 (.var 4))
  .nil))))
noncomputable def f66 : FnInfo := ⟨5, 5, b66⟩
/-- Call.__init__ -/
noncomputable def b67 : Sms :=
  (.cons (.astore (.var 0) 11 (.var 1))
  (.cons (.astore (.var 0) 12 (.var 2))
  .nil))
noncomputable def f67 : FnInfo := ⟨3, 3, b67⟩
/-- Seq.__init__ -/
noncomputable def b68 : Sms :=
  (.cons (.astore (.var 0) 13 (.var 1))
  .nil)
noncomputable def f68 : FnInfo := ⟨2, 2, b68⟩
/-- Prim.__init__ -/
noncomputable def b69 : Sms :=
  (.cons (.astore (.var 0) 14 (.var 1))
  (.cons (.astore (.var 0) 12 (.var 2))
  .nil))
noncomputable def f69 : FnInfo := ⟨3, 3, b69⟩
/-- Fix.__init__ -/
noncomputable def b70 : Sms :=
  (.cons (.astore (.var 0) 15 (.var 1))
  (.cons (.astore (.var 0) 16 (.var 2))
  (.cons (.astore (.var 0) 10 (.var 3))
  .nil)))
noncomputable def f70 : FnInfo := ⟨4, 4, b70⟩
noncomputable def fnList : List (Option FnInfo) := [some f0, some f1, some f2, some f3, some f4, some f5, some f6, some f7, some f8, some f9, some f10, some f11, some f12, some f13, some f14, some f15, some f16, some f17, some f18, some f19, some f20, some f21, some f22, some f23, some f24, some f25, some f26, some f27, some f28, none, some f30, some f31, some f32, some f33, some f34, some f35, some f36, some f37, some f38, some f39, some f40, some f41, some f42, some f43, some f44, some f45, some f46, some f47, some f48, some f49, some f50, some f51, some f52, some f53, some f54, some f55, some f56, some f57, some f58, some f59, some f60, some f61, some f62, some f63, some f64, some f65, some f66, some f67, some f68, some f69, some f70]
noncomputable def fnInfo (f : Nat) : Option FnInfo := (fnList[f]?).getD none
end Mine
end
section
open PySem PySem.W PyProof.Rows
set_option Elab.async false
set_option maxRecDepth 100000
namespace Mine

noncomputable abbrev pw : Program := PySem.Challenge.pw_nt0208_01

structure FrameOk (ce : CE) (env : Env) (L : Locs) (φ : Fz) (ρ : Rh) (h : Heap) : Prop where
  kind : env.scope.kind = .function
  glob : env.globals = mainGlobals
  blt : env.builtins = builtinsNs
  slots : ∀ x i b, ce.slots.lookup x = some (i, b) → env.kindOf x = some (if b then .cell else .local)
  globs : ∀ x, ce.globs.contains x = true → env.kindOf x = some .globalImplicit
  inj : ∀ x y i b c, ce.slots.lookup x = some (i, b) → ce.slots.lookup y = some (i, c) → x = y
  ns : ∃ m, h.Ns env.locals m ∧ ∀ x (i : Nat) v, ce.slots.lookup x = some (i, false) → L[i]? = some (some v) → ∃ u, m x = some u ∧ RX φ ρ v u
  locOff : φ env.locals = none ∧ ∀ p ∈ ρ, env.locals ≠ p.2
  cells : ∀ x (i : Nat), ce.slots.lookup x = some (i, true) → ∃ c, env.cells.lookup x = some c ∧ φ c = none ∧ (∀ p ∈ ρ, c ≠ p.2) ∧ c ≠ env.locals ∧
    ∃ ov, h.IsCell c ov ∧ ∀ v, L[i]? = some (some v) → ∃ u, ov = some u ∧ RX φ ρ v u
  apart : ∀ x y c, env.cells.lookup x = some c → env.cells.lookup y = some c → x = y
  live : ∀ x c, env.cells.lookup x = some c → ∃ o, h.get? c = some o

noncomputable def NoE : Value → Shared → Prop := fun _ _ => False

section
variable {w : World} {B : Shared} {σ σ₁ : Sig} {φ φ₁ : Fz} {ρ ρ₁ : Rh} {s s₁ : Shared} {ce : CE} {env : Env} {L : Locs}

theorem FrameOk.ext (F : FrameOk ce env L φ ρ s.heap) (R : Rel w B σ φ ρ s) {h₁ : Heap} (E : Ext φ ρ s.heap φ₁ ρ₁ h₁) : FrameOk ce env L φ₁ ρ₁ h₁ := by
  obtain ⟨a, b, c, d, e, f, ⟨m, n1, n2⟩, ⟨o1, o2⟩, g, i, lv⟩ := F
  have le := Ext.le R E
  have rh := E.rh
  obtain ⟨r, rfl, hr⟩ := E.pre
  have off : ∀ x o, s.heap.get? x = some o → (∀ p ∈ ρ, x ≠ p.2) → ∀ p ∈ ρ ++ r, x ≠ p.2 := fun x o hx hn p hp => by
    rcases List.mem_append.mp hp with hp | hp
    · exact hn p hp
    · rintro rfl; rw [hr p hp] at hx; cases hx
  obtain ⟨oo, es, ep, n1, n3⟩ := n1
  refine ⟨a, b, c, d, e, f, ⟨m, ⟨oo, es, ep, E.keep _ _ n1 o2, n3⟩, fun x i v h1 h2 => ?_⟩, ⟨(E.fz _ _ n1).trans o1, off _ _ n1 o2⟩, fun x i h1 => ?_, i, fun x c h1 => by obtain ⟨o, h2⟩ := lv x c h1; exact E.live c o h2⟩
  · obtain ⟨u, h3, h4⟩ := n2 x i v h1 h2; exact ⟨u, h3, h4.mono le rh⟩
  · obtain ⟨cc, c1, c2, c3, c4, ov, ⟨o', c5, c7⟩, c6⟩ := g x i h1
    refine ⟨cc, c1, (E.fz _ _ c5).trans c2, off _ _ c5 c3, c4, ov, ⟨o', E.keep _ _ c5 c3, c7⟩, fun v hv => ?_⟩
    obtain ⟨u, h3, h4⟩ := c6 v hv; exact ⟨u, h3, h4.mono le rh⟩

theorem FrameOk.cells_el {h : Heap} {G : Prop} (F : FrameOk ce env L φ ρ h) {x : Str} {i : Nat} (e : ce.slots.lookup x = some (i, true)) (g : ∀ c, env.cells.lookup x = some c → φ c = none → (∀ p ∈ ρ, c ≠ p.2) → c ≠ env.locals →
    ∀ ov o, h.get? c = some o → h.IsCell c ov → (∀ h' : Heap, h'.get? c = some o → h'.IsCell c ov) → (∀ v, L[i]? = some (some v) → ∃ u, ov = some u ∧ RX φ ρ v u) → G) : G := by
  obtain ⟨c, c1, c2, c3, c4, ov, c5, c6⟩ := F.cells x i e
  obtain ⟨o, c7, c8⟩ := id c5
  exact g c c1 c2 c3 c4 ov o c7 c5 (fun h' e => ⟨o, e, c8⟩) c6
noncomputable def Post (w : World) (B : Shared) (φ : Fz) (ρ : Rh) (s : Shared) (k : XV → Sig → Prop) : Value → Shared → Prop := fun v s' =>
  ∃ φ' ρ' σ' x, Ext φ ρ s.heap φ' ρ' s'.heap ∧ Rel w B σ' φ' ρ' s' ∧ RX φ' ρ' x v ∧ k x σ'
noncomputable def Posts (w : World) (B : Shared) (φ : Fz) (ρ : Rh) (s : Shared) (k : List XV → Sig → Prop) : List Value → Shared → Prop := fun v s' =>
  ∃ φ' ρ' σ' x, Ext φ ρ s.heap φ' ρ' s'.heap ∧ Rel w B σ' φ' ρ' s' ∧ RXs φ' ρ' x v ∧ k x σ'
noncomputable def PostB (w : World) (B : Shared) (φ : Fz) (ρ : Rh) (s : Shared) (k : XV → Sig → Prop) : Bool → Shared → Prop := fun b s' =>
  ∃ φ' ρ' σ', Ext φ ρ s.heap φ' ρ' s'.heap ∧ Rel w B σ' φ' ρ' s' ∧ k (.p (.bool b)) σ'

theorem Post.el {k : XV → Sig → Prop} {v : Value} {s' : Shared} {G : Prop} (h : Post w B φ ρ s k v s') (g : ∀ φ' ρ' σ' x, Ext φ ρ s.heap φ' ρ' s'.heap → Rel w B σ' φ' ρ' s' → RX φ' ρ' x v → k x σ' → G) : G := by
  obtain ⟨φ', ρ', σ', x, a, b, c, d⟩ := h
  exact g φ' ρ' σ' x a b c d
theorem PostB.el {k : XV → Sig → Prop} {v : Bool} {s' : Shared} {G : Prop} (h : PostB w B φ ρ s k v s') (g : ∀ φ' ρ' σ', Ext φ ρ s.heap φ' ρ' s'.heap → Rel w B σ' φ' ρ' s' → k (.p (.bool v)) σ' → G) : G := by
  obtain ⟨φ', ρ', σ', a, b, c⟩ := h
  exact g φ' ρ' σ' a b c
theorem Post.trans {k : XV → Sig → Prop} (E : Ext φ ρ s.heap φ₁ ρ₁ s₁.heap) {v : Value} {s' : Shared} : Post w B φ₁ ρ₁ s₁ k v s' → Post w B φ ρ s k v s' :=
  fun h => h.el fun φ' ρ' σ' x a b c d => ⟨φ', ρ', σ', x, E.trans a, b, c, d⟩
theorem PostB.trans {k : XV → Sig → Prop} (E : Ext φ ρ s.heap φ₁ ρ₁ s₁.heap) {v : Bool} {s' : Shared} : PostB w B φ₁ ρ₁ s₁ k v s' → PostB w B φ ρ s k v s' :=
  fun h => h.el fun φ' ρ' σ' a b c => ⟨φ', ρ', σ', E.trans a, b, c⟩
theorem Post.mono {k k' : XV → Sig → Prop} (hk : ∀ x σ, k x σ → k' x σ) {v : Value} {s' : Shared} : Post w B φ ρ s k v s' → Post w B φ ρ s k' v s' :=
  fun h => h.el fun φ' ρ' σ' x a b c d => ⟨φ', ρ', σ', x, a, b, c, hk _ _ d⟩
/-- a value at hand, nothing changed -/
theorem Post.here (R : Rel w B σ φ ρ s) {x : XV} {v : Value} {k : XV → Sig → Prop} (X : RX φ ρ x v) (h : k x σ) : Post w B φ ρ s k v s := ⟨φ, ρ, σ, x, Ext.refl _ _ _, R, X, h⟩
theorem Post.tok (R : Rel w B σ φ ρ s) {x : XV} {v : Value} {k : XV → Sig → Prop} {t : Nat} (X : RX φ ρ x v) (h : k x σ) : Post w B φ ρ s k v { s with toks := t } := ⟨φ, ρ, σ, x, Ext.refl _ _ _, R.tok t, X, h⟩
/-- a new frozen thing -/
theorem Post.new (R : Rel w B σ φ ρ s) {o : Obj} (hf : o.isFreed = false) {x : XV} {k : XV → Sig → Prop} {t : Nat} (X : ∀ φ', FzLe φ φ' → φ' s.heap.objs.size = some o → RX φ' ρ x (.ref s.heap.objs.size)) (h : k x σ) :
    Post w B φ ρ s k (.ref s.heap.objs.size) { s with heap := s.heap.push o, toks := t } :=
  ⟨_, ρ, σ, x, Ext.pushF, R.pushF hf t, X _ (Fz.le_put R.fresh) (Fz.put_self _ _ _), h⟩

noncomputable def Bud (d : Nat) (A : Around) : Prop := A.handled = none ∧ A.depth + 4 * d + 8 ≤ 1000 ∧ A.units + 20 * d + 300 ≤ 9900

noncomputable def PostC (w : World) (B : Shared) (φ : Fz) (ρ : Rh) (s : Shared) (k : XV → Sig → Prop) : Result → Shared → Prop := fun r s' => match r with
  | .ok (.ret v) => Post w B φ ρ s k v s'
  | _ => False
theorem call_of {A : Around} {f : Value} {vals : List Value} {k : XV → Sig → Prop} (h : codeAny (model pw w) A (.call f ⟨vals, []⟩) (PostC w B φ ρ s k) s) : wpAny (model pw w) A (call f vals) (Post w B φ ρ s k) NoE s :=
  wpAny_call (codeAny_mono h fun r s' z => by
    rcases r with e | (v | _ | _ | _) <;> first | exact z | exact z.elim)

noncomputable def CallP (w : World) (B : Shared) (d : Nat) : CP := fun f args σ k => ∀ A φ ρ s vals, Bud d A → Rel w B σ φ ρ s → RXs φ ρ args vals →
  codeAny (model pw w) A (.call (.ref (fnAddr f)) ⟨vals, []⟩) (PostC w B φ ρ s k) s

noncomputable def SemE (w : World) (B : Shared) (A : Around) (ce : CE) (env : Env) (t : Sem Value) (L : Locs) (σ : Sig) (k : XV → Sig → Prop) : Prop :=
  ∀ φ ρ s, Rel w B σ φ ρ s → FrameOk ce env L φ ρ s.heap → wpAny (model pw w) A t (Post w B φ ρ s k) NoE s
noncomputable def SemB (w : World) (B : Shared) (A : Around) (ce : CE) (env : Env) (t : Sem Bool) (L : Locs) (σ : Sig) (k : XV → Sig → Prop) : Prop :=
  ∀ φ ρ s, Rel w B σ φ ρ s → FrameOk ce env L φ ρ s.heap → wpAny (model pw w) A t (PostB w B φ ρ s k) NoE s

theorem noE {α : Type} {Q : α → Shared → Prop} {E : Value → Shared → Prop} {A : Around} {M : Model} {t : Sem α} (h : wpAny M A t Q NoE s) : wpAny M A t Q E s := wpAny_mono h (fun _ _ x => x) fun _ _ x => x.elim

/-- one after the other -/
theorem SemE.next {A : Around} {t : Sem Value} {k : XV → Sig → Prop} {Q : Value → Shared → Prop} (h : SemE w B A ce env t L σ k) (R : Rel w B σ φ ρ s) (F : FrameOk ce env L φ ρ s.heap)
    (hq : ∀ v s' φ' ρ' σ' x, Ext φ ρ s.heap φ' ρ' s'.heap → Rel w B σ' φ' ρ' s' → FrameOk ce env L φ' ρ' s'.heap → RX φ' ρ' x v → k x σ' → Q v s') : wpAny (model pw w) A t Q NoE s :=
  wpAny_mono (h φ ρ s R F) (fun v s' z => z.el fun φ' ρ' σ' x E R' X hk => hq v s' φ' ρ' σ' x E R' (F.ext R E) X hk) fun _ _ x => x
theorem SemB.next {A : Around} {t : Sem Bool} {k : XV → Sig → Prop} {Q : Bool → Shared → Prop} (h : SemB w B A ce env t L σ k) (R : Rel w B σ φ ρ s) (F : FrameOk ce env L φ ρ s.heap)
    (hq : ∀ v s' φ' ρ' σ', Ext φ ρ s.heap φ' ρ' s'.heap → Rel w B σ' φ' ρ' s' → FrameOk ce env L φ' ρ' s'.heap → k (.p (.bool v)) σ' → Q v s') : wpAny (model pw w) A t Q NoE s :=
  wpAny_mono (h φ ρ s R F) (fun v s' z => z.el fun φ' ρ' σ' E R' hk => hq v s' φ' ρ' σ' E R' (F.ext R E) hk) fun _ _ x => x

theorem asB_of {x : XV} {v : Value} {k : Bool → Prop} (X : RX φ ρ x v) (h : asB x k) : ∃ b, v = .bool b ∧ x = .p (.bool b) ∧ k b := by
  cases X with
  | p a => cases a <;> first | exact h.elim | exact ⟨_, rfl, rfl, h⟩
  | c _ => exact h.elim
  | bm _ _ => exact h.elim
theorem asP_of {x : XV} {v : Value} {k : PV → Prop} (X : RX φ ρ x v) (h : asP x k) : ∃ y, x = .p y ∧ RV φ y v ∧ k y := by
  cases X with
  | p a => exact ⟨_, rfl, a, h⟩
  | c _ => exact h.elim
  | bm _ _ => exact h.elim
theorem asI_of {x : PV} {v : Value} {k : Int → Prop} (X : RV φ x v) (h : asI x k) : ∃ i t, x = .int i ∧ v = .int i t ∧ k i := by
  cases X <;> first | exact h.elim | exact ⟨_, _, rfl, rfl, h⟩
theorem asS_of {x : PV} {v : Value} {k : Str → Prop} (X : RV φ x v) (h : asS x k) : ∃ i t, x = .str i ∧ v = .str i t ∧ k i := by
  cases X <;> first | exact h.elim | exact ⟨_, _, rfl, rfl, h⟩
theorem asP_el {x : XV} {v : Value} {k : PV → Prop} {G : Prop} (X : RX φ ρ x v) (h : asP x k) (g : ∀ y, RV φ y v → k y → G) : G := by
  obtain ⟨y, _, a, b⟩ := asP_of X h
  exact g y a b
@[elab_as_elim] theorem asI_el {x : PV} {v : Value} {k : Int → Prop} {M : Value → Prop} (X : RV φ x v) (h : asI x k) (g : ∀ i t, k i → M (.int i t)) : M v := by
  obtain ⟨i, t, _, rfl, b⟩ := asI_of X h
  exact g i t b
@[elab_as_elim] theorem asS_el {x : PV} {v : Value} {k : Str → Prop} {M : Value → Prop} (X : RV φ x v) (h : asS x k) (g : ∀ i t, k i → M (.str i t)) : M v := by
  obtain ⟨i, t, _, rfl, b⟩ := asS_of X h
  exact g i t b
@[elab_as_elim] theorem asB_el {x : XV} {v : Value} {k : Bool → Prop} {M : Value → Prop} (X : RX φ ρ x v) (h : asB x k) (g : ∀ b, k b → M (.bool b)) : M v := by
  obtain ⟨b, rfl, _, c⟩ := asB_of X h
  exact g b c
theorem asL_of {x : PV} {k : List PV → Prop} (h : asL x k) : ∃ xs, x = .lst xs ∧ k xs := by
  cases x <;> first | exact h.elim | exact ⟨_, rfl, h⟩
theorem asT_of {x : PV} {k : List PV → Prop} (h : asT x k) : ∃ xs, x = .tup xs ∧ k xs := by
  cases x <;> first | exact h.elim | exact ⟨_, rfl, h⟩
@[elab_as_elim] theorem asTV_el {x : PV} {v : Value} {k : List PV → Prop} {M : Value → Prop} (X : RV φ x v) (h : asT x k) (g : ∀ xs a vs n, φ a = some { cls := .type "tuple", data := .seq vs n } → RVs φ xs vs.toList → k xs → M (.ref a)) : M v := by
  obtain ⟨xs, rfl, h⟩ := asT_of h
  exact X.tup_of fun a vs n e r => g xs a vs n e r h
@[elab_as_elim] theorem asLV_el {x : PV} {v : Value} {k : List PV → Prop} {M : Value → Prop} (X : RV φ x v) (h : asL x k) (g : ∀ xs a vs n, φ a = some { cls := .type "list", data := .seq vs n } → RVs φ xs vs.toList → k xs → M (.ref a)) : M v := by
  obtain ⟨xs, rfl, h⟩ := asL_of h
  exact X.lst_of fun a vs n e r => g xs a vs n e r h
theorem br_of {b : Bool} {t e : Prop} (h : br b t e) : (b = true ∧ t) ∨ (b = false ∧ e) := by
  cases b
  · exact .inr ⟨rfl, h⟩
  · exact .inl ⟨rfl, h⟩
theorem someP_of {α : Type} {x : Option α} {k : α → Prop} (h : someP x k) : ∃ a, x = some a ∧ k a := by
  cases x with
  | none => exact h.elim
  | some a => exact ⟨a, rfl, h⟩
theorem someP_el {α : Type} {x : Option α} {k : α → Prop} {G : Prop} (h : someP x k) (g : ∀ a, x = some a → k a → G) : G := by
  obtain ⟨a, e, b⟩ := someP_of h
  exact g a e b
end
end Mine
end
section
open PySem PySem.W PyProof.Rows
set_option Elab.async false
set_option maxRecDepth 100000
namespace Mine

section
variable {w : World} {B : Shared} {σ σ₁ : Sig} {φ φ₁ : Fz} {ρ ρ₁ : Rh} {s s₁ : Shared} {A : Around}

theorem lim_is : lim = 1048576 := by decide
theorem sizeLine_is : sizeLine = 16777216 := by decide

theorem Rel.isListF (R : Rel w B σ φ ρ s) {a : Addr} {vs : Array Value} {n : Nat} (h : φ a = some { cls := .type "list", data := .seq vs n }) : s.heap.IsList a vs := ⟨_, R.sub _ _ h, rfl, n, rfl⟩
theorem Rel.isTupF (R : Rel w B σ φ ρ s) {a : Addr} {vs : Array Value} {n : Nat} (h : φ a = some { cls := .type "tuple", data := .seq vs n }) : IsTup s.heap a vs := ⟨_, R.sub _ _ h, rfl, n, rfl⟩

theorem add_lists' {l b : Addr} {vs ws : Array Value} {Q : Value → Shared → Prop} {E : Value → Shared → Prop} (hl : s.heap.IsList l vs) (hb : s.heap.IsList b ws)
    (h : Q (.ref s.heap.objs.size) { s with heap := s.heap.push { cls := .type "list", data := .seq (vs ++ ws) } }) (hsz : vs.size + ws.size ≤ sizeLine) :
    wpAny (model pw w) A (binaryOp .Add (.ref l) (.ref b)) Q E s := by
  obtain ⟨⟨cls, dd, data, sl⟩, ho, hc, n, hd⟩ := id hl
  obtain ⟨⟨cls2, dd2, data2, sl2⟩, ho2, hc2, n2, hd2⟩ := id hb
  simp only at hc hd hc2 hd2
  subst hc hd hc2 hd2
  exact concat_meets ⟨_, ho, rfl⟩ ⟨_, ho2, rfl⟩ noFill_list_add seq_list_add PySem.F.slot_list_add PySem.F.entry_list_add (PySem.F.args_list_add_2 _ _) (list_addW l b vs ws n n2 dd dd2 sl sl2 hsz) ⟨ho, ho2, h⟩

theorem add_tuples' {t b : Addr} {vs ws : Array Value} {Q : Value → Shared → Prop} {E : Value → Shared → Prop} (ht : IsTup s.heap t vs) (hb : IsTup s.heap b ws)
    (h0 : vs = #[] → Q (.ref b) s) (h1 : ws = #[] → Q (.ref t) s)
    (h2 : Q (.ref s.heap.objs.size) { s with heap := s.heap.push { cls := .type "tuple", data := .seq (vs ++ ws) } }) (hsz : vs.size + ws.size ≤ sizeLine) :
    wpAny (model pw w) A (binaryOp .Add (.ref t) (.ref b)) Q E s := by
  obtain ⟨⟨cls, dd, data, sl⟩, ho, hc, n, hd⟩ := id ht
  obtain ⟨⟨cls2, dd2, data2, sl2⟩, ho2, hc2, n2, hd2⟩ := id hb
  simp only at hc hd hc2 hd2
  subst hc hd hc2 hd2
  by_cases hv : vs = #[]
  · exact concat_meets ⟨_, ho, rfl⟩ ⟨_, ho2, rfl⟩ noFill_tuple_add seq_tuple_add PySem.F.slot_tuple_add PySem.F.entry_tuple_add (PySem.F.args_tuple_add_2 _ _)
      (tuple_addW0 t b vs ws n n2 dd dd2 sl sl2 (by simp [hv])) ⟨ho, ho2, h0 hv⟩
  · by_cases hw : ws = #[]
    · exact concat_meets ⟨_, ho, rfl⟩ ⟨_, ho2, rfl⟩ noFill_tuple_add seq_tuple_add PySem.F.slot_tuple_add PySem.F.entry_tuple_add (PySem.F.args_tuple_add_2 _ _)
        (tuple_addW1 t b vs ws n n2 dd dd2 sl sl2 (by simpa using hv) (by simp [hw])) ⟨ho, ho2, h1 hw⟩
    · exact concat_meets ⟨_, ho, rfl⟩ ⟨_, ho2, rfl⟩ noFill_tuple_add seq_tuple_add PySem.F.slot_tuple_add PySem.F.entry_tuple_add (PySem.F.args_tuple_add_2 _ _)
        (tuple_addW2 t b vs ws n n2 dd dd2 sl sl2 (by simpa using hv) (by simpa using hw) hsz) ⟨ho, ho2, h2⟩

/-- what an operation hands on: a frozen value, the places as they were -/
noncomputable def kp (σ : Sig) (k : PV → Prop) : XV → Sig → Prop := fun x σ' => ∃ y, x = .p y ∧ σ' = σ ∧ k y

theorem RVs.array {vs : Array Value} {xs : List PV} (h : RVs φ xs vs.toList) : xs.length = vs.size := by rw [h.length, Array.length_toList]

theorem RVs.nil_at {xs : List PV} (h : RVs φ xs (#[] : Array Value).toList) : xs = [] := h.nil_of
theorem small_log {y : Int} (h0 : 0 < y) (h1 : y ≤ lim) : ¬ (if (y == 0) = true then 0 else y.natAbs.log2 / 30 + 1) > 300 := by
  rw [lim_is] at h1
  have hd : y.natAbs.log2 < 21 := (Nat.log2_lt (by omega)).mpr (by omega)
  split <;> omega
theorem binP_sound {o : BOp} {a b : PV} {u v : Value} {k : PV → Prop} (h : binP o a b k) (Xa : RV φ a u) (Xb : RV φ b v) (R : Rel w B σ φ ρ s) :
    wpAny (model pw w) A (binaryOp (bopOf o) u v) (Post w B φ ρ s (kp σ k)) NoE s := by
  have lz : (2 * lim) ≤ sizeLine := by decide
  have fin : ∀ {i : Int}, k (.int i) → ∀ t t', Post w B φ ρ s (kp σ k) (.int i t) { s with toks := t' } := fun h _ _ => Post.tok R (.p (.int _ _)) ⟨_, rfl, rfl, h⟩
  cases o with
  | add =>
    cases Xa with
    | int x t =>
      refine asI_el Xb h fun y t' h => ?_
      exact add_int (fin h _ _)
    | lst ha ra =>
      obtain ⟨ys, rfl, hz, h⟩ := asL_of h
      refine Xb.lst_of fun a' ws n' hb rb => ?_
      refine add_lists' (R.isListF ha) (R.isListF hb) (Post.new R rfl (fun φ' le hn => .p (.lst hn (by rw [Array.toList_append]; exact (ra.mono le).append (rb.mono le)))) ⟨_, rfl, rfl, h⟩) ?_
      rw [← ra.array, ← rb.array]; omega
    | tup ha ra =>
      obtain ⟨ys, rfl, hz, h⟩ := asT_of h
      refine Xb.tup_of fun a' ws n' hb rb => ?_
      have ha' := ra.array
      have hb' := rb.array
      refine add_tuples' (R.isTupF ha) (R.isTupF hb) (fun e => ?_) (fun e => ?_) (Post.new R rfl (fun φ' le hn => .p (.tup hn (by rw [Array.toList_append]; exact (ra.mono le).append (rb.mono le)))) ⟨_, rfl, rfl, h⟩) (by omega)
      · subst e
        cases ra.nil_at
        exact Post.here R (.p (.tup hb rb)) ⟨_, rfl, rfl, h⟩
      · subst e
        cases rb.nil_at
        exact Post.here R (.p (.tup ha ra)) ⟨_, rfl, rfl, by rwa [List.append_nil] at h⟩
    | _ => exact h.elim
  | sub =>
    refine asI_el Xa h fun x t h => ?_
    refine asI_el Xb h fun y t' h => ?_
    exact sub_int (fin h _ _)
  | fdiv =>
    refine asI_el Xa h fun x t h => ?_
    refine asI_el Xb h fun y t' h => ?_
    refine floordiv_int (Int.ne_of_gt h.1.1) (fin h.2 _ _) (.inl ?_)
    have := small_log h.1.1 h.1.2
    unfold Builtin.divisionGoesByPylong
    simp only [this, decide_false, Bool.false_and]
  | mod =>
    refine asI_el Xa h fun x t h => ?_
    refine asI_el Xb h fun y t' h => ?_
    exact mod_int' h.1 (fin h.2 _ _)
  | pow =>
    refine asI_el Xa h fun x t h => ?_
    refine asI_el Xb h fun y t' hh => ?_
    obtain ⟨⟨rfl, rfl⟩, h2⟩ := hh
    exact pow_int (by decide) (by decide +kernel) (fin h2 _ _)
  | mul =>
    refine asS_el Xa h fun x t h => ?_
    refine asI_el Xb h fun y t' hh => ?_
    obtain ⟨⟨h1, h2, h3⟩, h⟩ := hh
    exact SB.mul (mulOk_of 1 1000 (Nat.le_of_eq h1) (by omega) (by omega) (by decide) (by decide)) fun t' k => Post.tok R (.p (.str _ _)) ⟨_, rfl, rfl, h⟩
end
end Mine
end
section
open PySem PySem.W PyProof.Rows
set_option Elab.async false
set_option maxRecDepth 100000
namespace Mine

/-- as RV; a list may also be one that is a place's -/
inductive LV (φ : Fz) (h : Heap) : PV → Value → Prop
  | f {x v} : RV φ x v → LV φ h x v
  | l {xs m vs n} : h.get? m = some { cls := .type "list", data := .seq vs n } → RVs φ xs vs.toList → LV φ h (.lst xs) (.ref m)

section
variable {w : World} {B : Shared} {σ σ₁ : Sig} {φ φ₁ : Fz} {ρ ρ₁ : Rh} {s s₁ : Shared} {A : Around}

theorem Rel.cellList (R : Rel w B σ φ ρ s) {i : Nat} {a m : Addr} (e : ρ[i]? = some (a, m)) {xs : List PV} (c : σ[i]? = some (.list xs)) : a = m ∧ ∃ vs n, s.heap.get? m = some { cls := .type "list", data := .seq vs n } ∧ RVs φ xs vs.toList := R.cells i _ _ e c
theorem Rel.cellDict (R : Rel w B σ φ ρ s) {i : Nat} {a m : Addr} (e : ρ[i]? = some (a, m)) {f n} (c : σ[i]? = some (.dict f n)) : a = m ∧ ∃ g, MapAt w s.heap m g ∧ True ∧ DictRel φ f g := by
  obtain ⟨h0, kvs, h1, _, h3⟩ := R.cells i _ _ e c
  exact ⟨h0, _, h1.mapOf, trivial, h3⟩
theorem Rel.cellDictOf (R : Rel w B σ φ ρ s) {i : Nat} {a m : Addr} (e : ρ[i]? = some (a, m)) {f n} (c : σ[i]? = some (.dict f n)) : a = m ∧ ∃ kvs, s.heap.DictOf (intKind PySem.Challenge.pw_nt0208_01 w) m kvs ∧ kvs.length ≤ n ∧ DictRel φ f (valueAt kvs) := R.cells i _ _ e c
theorem Rel.cellInst (R : Rel w B σ φ ρ s) {i : Nat} {a m : Addr} (e : ρ[i]? = some (a, m)) {c : Nat} {fs} (q : σ[i]? = some (.inst c fs)) :
    φ a = some (instObj (clsAddr c) m) ∧ ∃ es n vs, s.heap.get? m = some (dictOf es n) ∧ fs.length ≤ (fldNames c).length ∧ Ents ((fldNames c).take fs.length) es vs ∧ RXs φ ρ fs vs := R.cells i _ _ e q

theorem Rel.cellInst_el (R : Rel w B σ φ ρ s) {i : Nat} {a m : Addr} {G : Prop} (e : ρ[i]? = some (a, m)) {c : Nat} {fs} (q : σ[i]? = some (.inst c fs))
    (g : φ a = some (instObj (clsAddr c) m) → ∀ es n vs, s.heap.get? m = some (dictOf es n) → fs.length ≤ (fldNames c).length → Ents ((fldNames c).take fs.length) es vs → RXs φ ρ fs vs → G) : G := by
  obtain ⟨h1, es, n, vs, h2, h3, h4, h5⟩ := R.cellInst e q
  exact g h1 es n vs h2 h3 h4 h5
theorem look_of (R : Rel w B σ φ ρ s) {a : XV} {v : Value} {k : PV → Prop} (X : RX φ ρ a v) (h : look a σ k) : ∃ x, LV φ s.heap x v ∧ k x := by
  cases X with
  | p a => exact ⟨_, .f a, h⟩
  | bm _ _ => exact h.elim
  | @c i a m e =>
    unfold look at h
    dsimp only at h
    split at h
    · rename_i xs q
      obtain ⟨rfl, vs, n, h1, h2⟩ := R.cellList e q
      exact ⟨_, .l h1 h2, h⟩
    · exact h.elim
theorem look_el (R : Rel w B σ φ ρ s) {a : XV} {v : Value} {k : PV → Prop} {G : Prop} (X : RX φ ρ a v) (h : look a σ k) (g : ∀ x, LV φ s.heap x v → k x → G) : G := by
  obtain ⟨x, a, b⟩ := look_of R X h
  exact g x a b
theorem LV.list (R : Rel w B σ φ ρ s) {xs : List PV} {v : Value} (X : LV φ s.heap (.lst xs) v) : ∃ m vs n, v = .ref m ∧ s.heap.get? m = some { cls := .type "list", data := .seq vs n } ∧ RVs φ xs vs.toList := by
  cases X with
  | f a => cases a with | lst h r => exact ⟨_, _, _, rfl, R.sub _ _ h, r⟩
  | l h r => exact ⟨_, _, _, rfl, h, r⟩

theorem toPys_cons {x : PV} {xs : List PV} {d : List PyData} (e : toPy.toPys (x :: xs) = some d) : ∃ a as, toPy x = some a ∧ toPy.toPys xs = some as ∧ d = a :: as := by
  rw [toPy.toPys] at e
  revert e
  cases toPy x with
  | none => intro e; cases e
  | some a => cases toPy.toPys xs with
    | none => intro e; cases e
    | some as => intro e; exact ⟨a, as, rfl, rfl, (Option.some.inj e).symm⟩
theorem reads_both {h : Heap} (sub : ∀ a o, φ a = some o → h.get? a = some o) {x : List PV} {v : List Value} (X : RVs φ x v) : ∀ {d}, toPy.toPys x = some d → ∃ as, ReadsAll h v d as :=
  RVs.rec (motive_1 := fun x v _ => ∀ {d}, toPy x = some d → ∃ as, Reads h v d as) (motive_2 := fun x v _ => ∀ {d}, toPy.toPys x = some d → ∃ as, ReadsAll h v d as)
    (fun e => by cases Option.some.inj e; exact ⟨_, .none⟩) (fun b _ e => by cases Option.some.inj e; exact ⟨_, .bool b⟩) (fun i t _ e => by cases Option.some.inj e; exact ⟨_, .int i t⟩) (fun x t _ e => by cases Option.some.inj e; exact ⟨_, .str x t⟩)
    (fun hh _ ih _ e => by
      obtain ⟨ds, e1, rfl⟩ := Option.map_eq_some_iff.mp e
      obtain ⟨as, q⟩ := ih e1
      exact ⟨_, .tuple (sub _ _ hh) rfl rfl q⟩)
    (fun hh _ ih _ e => by
      obtain ⟨ds, e1, rfl⟩ := Option.map_eq_some_iff.mp e
      obtain ⟨as, q⟩ := ih e1
      exact ⟨_, .list (sub _ _ hh) rfl rfl q⟩)
    (fun _ _ _ _ _ _ _ e => by simp [toPy] at e) (fun _ _ e => by simp [toPy] at e)
    (fun e => by cases Option.some.inj e; exact ⟨_, .nil⟩)
    (fun {x xs v vs} _ _ ia ib _ e => by
      obtain ⟨d, ds, e1, e2, rfl⟩ := toPys_cons e
      obtain ⟨as, q⟩ := ia e1
      obtain ⟨bs, q2⟩ := ib e2
      exact ⟨_, .cons q q2⟩) X
theorem reads_of {h : Heap} (sub : ∀ a o, φ a = some o → h.get? a = some o) {x : PV} {v : Value} (X : RV φ x v) {d} (e : toPy x = some d) : ∃ as, Reads h v d as := by
  have e' : toPy.toPys [x] = some [d] := by rw [toPy.toPys, e]; rfl
  obtain ⟨as, q⟩ := reads_both sub (.cons X .nil) e'
  cases q with
  | cons a _ => exact ⟨_, a⟩
theorem readsAll_of {h : Heap} (sub : ∀ a o, φ a = some o → h.get? a = some o) {x : List PV} {v : List Value} (X : RVs φ x v) {d} (e : toPy.toPys x = some d) : ∃ as, ReadsAll h v d as := reads_both sub X e
theorem LV.reads (R : Rel w B σ φ ρ s) {x : PV} {v : Value} (X : LV φ s.heap x v) {d : PyData} (e : toPy x = some d) : ∃ as, Reads s.heap v d as := by
  cases X with
  | f a => exact reads_of R.sub a e
  | l h r =>
    simp only [toPy, Option.map_eq_some_iff] at e
    obtain ⟨ds, e1, rfl⟩ := e
    obtain ⟨as, q⟩ := readsAll_of R.sub r e1
    exact ⟨_, .list h rfl rfl q⟩

noncomputable def Bu (A : Around) : Prop := A.handled = none ∧ A.units + 200 ≤ 9900

noncomputable def kb (σ : Sig) (k : Bool → Prop) : XV → Sig → Prop := fun x σ' => ∃ b, x = .p (.bool b) ∧ σ' = σ ∧ k b

theorem cmp_here {k : Bool → Prop} {b : Bool} (R : Rel w B σ φ ρ s) (h : k b) : Post w B φ ρ s (kb σ k) (.bool b) s := Post.here R (.p (.bool _)) ⟨_, rfl, rfl, h⟩
theorem cmp_tok {k : Bool → Prop} {b : Bool} {t : Nat} (R : Rel w B σ φ ρ s) (h : k b) : Post w B φ ρ s (kb σ k) (.bool b) { s with toks := t } := Post.tok R (.p (.bool _)) ⟨_, rfl, rfl, h⟩

theorem cline : cLine = 9900 := rfl

theorem list_eqN {neg : Bool} {l b : Addr} {vs ws : Array Value} {n1 n2 : Nat} {Q : Value → Shared → Prop} {E : Value → Shared → Prop} (hl : s.heap.get? l = some { cls := .type "list", data := .seq vs n1 }) (hb : s.heap.get? b = some { cls := .type "list", data := .seq ws n2 })
    (hw : ws.size = 0) (hu : A.units < cLine) (h : Q (.bool (xor neg (vs.size == 0))) s) : wpAny (model pw w) A (compareOp (if neg then .NotEq else .Eq) (.ref l) (.ref b)) Q E s := by
  have il : s.heap.IsList l vs := ⟨_, hl, rfl, _, rfl⟩
  have ib : s.heap.IsList b ws := ⟨_, hb, rfl, _, rfl⟩
  by_cases hv : vs.size = 0
  · have e1 : vs.size = ws.size := by rw [hv, hw]
    have he : ∀ j (h1 : j < vs.size) (h2 : j < ws.size), SeqAt.EqAt A.in1 s vs[j] ws[j] true := fun j h1 _ => absurd h1 (by rw [hv]; exact Nat.not_lt_zero _)
    have hr : (List.range vs.size).all (fun _ => true) = true := by rw [hv]; rfl
    have hv' : (vs.size == 0) = true := by rw [hv]; rfl
    rw [hv'] at h
    cases neg
    · have q := SeqAt.RcAt.lists (e := fun _ => true) il ib e1 hu he
      rw [hr] at q
      exact q pw w E Q h
    · have q := SeqAt.RcNeAt.lists (e := fun _ => true) il ib e1 hu he
      rw [hr] at q
      exact q pw w E Q h
  · have e1 : (vs.size != ws.size) = true := by rw [hw]; simpa using hv
    have h0 : (vs.size == 0) = false := by simpa using hv
    rw [h0] at h
    cases neg
    · exact SeqAt.RcAt.lists_lengths il ib e1 hu pw w E Q h
    · exact SeqAt.RcNeAt.lists_lengths il ib e1 hu pw w E Q h

theorem beqD {α : Type} [BEq α] [LawfulBEq α] [DecidableEq α] (x y : α) : (x == y) = decide (x = y) := by rw [Bool.eq_iff_iff]; simp

theorem LV.frz {x : PV} {v : Value} {h : Heap} (X : LV φ h x v) (n : ∀ xs, x ≠ .lst xs) : RV φ x v := by
  cases X with
  | f a => exact a
  | l _ _ => exact absurd rfl (n _)
theorem eqL {neg : Bool} {m : Addr} {xs ys : List PV} {vs : Array Value} {n : Nat} {v : Value} {k : Bool → Prop} {R' : Prop} (h1 : s.heap.get? m = some { cls := .type "list", data := .seq vs n }) (h2 : RVs φ xs vs.toList)
    (Xb : LV φ s.heap (.lst ys) v) (h : eqLP xs (fun t => k (xor neg t)) ys) (data : LV φ s.heap (.lst xs) (.ref m) → LV φ s.heap (.lst ys) v → datP (.lst xs) (.lst ys) (fun t => k (xor neg t)) → R') (R : Rel w B σ φ ρ s)
    (nl : (∀ b ws n', v = .ref b → s.heap.get? b = some { cls := .type "list", data := .seq ws n' } → ws.size = 0 → k (xor neg (vs.size == 0)) → R')) : R' := by
  cases ys with
  | cons y ys => exact data (.l h1 h2) Xb h
  | nil =>
    obtain ⟨b, ws, n', rfl, h1', h2'⟩ := Xb.list R
    refine nl b ws n' rfl h1' h2'.array.symm ?_
    have e : (vs.size == 0) = xs.isEmpty := by
      rw [← h2.array]; cases xs <;> rfl
    rw [e]; exact h
theorem eqP_sound {neg : Bool} {a b : PV} {u v : Value} {k : Bool → Prop} (h : eqP a b fun t => k (xor neg t)) (Xa : LV φ s.heap a u) (Xb : LV φ s.heap b v) (R : Rel w B σ φ ρ s) (hA : Bu A) :
    wpAny (model pw w) A (compareOp (if neg then .NotEq else .Eq) u v) (Post w B φ ρ s (kb σ k)) NoE s := by
  have hu : A.units + 64 < cLine := by rw [cline]; have := hA.2; (first | lia | omega)
  have data : ∀ {a b : PV}, LV φ s.heap a u → LV φ s.heap b v → datP a b (fun t => k (xor neg t)) → wpAny (model pw w) A (compareOp (if neg then .NotEq else .Eq) u v) (Post w B φ ρ s (kb σ k)) NoE s := by
    rintro a b Xa Xb ⟨da, db, ⟨⟨e1, e2⟩, e3, e4⟩, h⟩
    obtain ⟨as, ra⟩ := Xa.reads R e1
    obtain ⟨bs, rb⟩ := Xb.reads R e2
    cases neg
    · exact eq_dataH ra rb e3 e4 hu (cmp_here R (by simpa using h))
    · exact ne_dataH ra rb e3 e4 hu (cmp_here R (by simpa using h))
  cases Xa with
  | l h1 h2 =>
    obtain ⟨ys, rfl, h⟩ := asL_of h
    exact eqL h1 h2 Xb h data R fun b ws n' e h1' z hk => by subst e; exact list_eqN h1 h1' z (by omega) (cmp_here R hk)
  | f Xa => cases Xa with
    | int x t =>
      obtain ⟨y, rfl⟩ : ∃ y, b = .int y := by cases b <;> first | exact h.elim | exact ⟨_, rfl⟩
      refine (Xb.frz fun _ e => nomatch e).int_of fun t' => ?_
      replace h : k (xor neg (decide (x = y))) := h
      cases neg
      · exact eq_int (cmp_here R (by rw [beqD]; simpa using h))
      · exact ne_int (cmp_here R (by rw [bne, beqD]; simpa using h))
    | bool x =>
      obtain ⟨y, rfl⟩ : ∃ y, b = .bool y := by cases b <;> first | exact h.elim | exact ⟨_, rfl⟩
      refine (Xb.frz fun _ e => nomatch e).bool_of ?_
      replace h : k (xor neg (x == y)) := h
      cases neg
      · exact eq_bool (cmp_here R (by simpa using h))
      · exact ne_bool (cmp_here R (by simpa [bne] using h))
    | str x t =>
      obtain ⟨y, rfl⟩ : ∃ y, b = .str y := by cases b <;> first | exact h.elim | exact ⟨_, rfl⟩
      refine (Xb.frz fun _ e => nomatch e).str_of fun t' => ?_
      replace h : k (xor neg (decide (x = y))) := h
      cases neg
      · exact eq_str (cmp_here R (by rw [beqD]; simpa using h))
      · exact ne_str (cmp_here R (by rw [bne, beqD]; simpa using h))
    | lst h1 h2 =>
      obtain ⟨ys, rfl, h⟩ := asL_of h
      exact eqL (R.sub _ _ h1) h2 Xb h data R fun b ws n' e h1' z hk => by subst e; exact list_eqN (R.sub _ _ h1) h1' z (by omega) (cmp_here R hk)
    | tup h1 h2 =>
      obtain ⟨ys, rfl, h⟩ := asT_of h
      exact data (.f (.tup h1 h2)) Xb h
    | _ => exact h.elim

theorem is_objs {a b : Addr} {oa ob : Obj} {ca cb : Addr} {neg : Bool} {Q : Value → Shared → Prop} {E : Value → Shared → Prop} (ha : s.heap.get? a = some oa) (hb : s.heap.get? b = some ob) (ca' : oa.cls = .ref ca) (cb' : ob.cls = .ref cb)
    (h : ∀ t, (t = true → a = b) → Q (.bool (xor neg t)) s) : wpAny (model pw w) A (compareOp (if neg then .IsNot else .Is) (.ref a) (.ref b)) Q E s := by
  have key : ∀ {Q' : Bool → Shared → Prop}, (∀ t, (t = true → a = b) → Q' t s) → wpAny (model pw w) A (isSame (.ref a) (.ref b)) Q' E s := by
    intro Q' hq
    unfold isSame
    dsimp only
    refine wpAny_ite ?_
    split
    · rename_i e
      exact wpAny_pure (hq _ fun _ => by simpa using e)
    · refine wpAny_bind (wpAny_load ha (wpAny_bind (wpAny_load hb ?_)))
      rw [ca', cb']
      exact wpAny_pure (hq _ fun e => by cases e)
  cases neg
  · show wpAny _ _ (do return .bool (← isSame (.ref a) (.ref b))) Q E s
    exact wpAny_bind (key fun t ht => wpAny_pure (by simpa using h t ht))
  · show wpAny _ _ (do return .bool (!(← isSame (.ref a) (.ref b)))) Q E s
    exact wpAny_bind (key fun t ht => wpAny_pure (by simpa using h t ht))

theorem isP_sound {neg : Bool} {a b : PV} {u v : Value} {k : Bool → Prop} (h : isP a b fun t => k (xor neg t)) (Xa : RV φ a u) (Xb : RV φ b v) (R : Rel w B σ φ ρ s) :
    wpAny (model pw w) A (compareOp (if neg then .IsNot else .Is) u v) (Post w B φ ρ s (kb σ k)) NoE s := by
  cases Xb with
  | none =>
    have none' : ∀ t, (u == Value.none) = t → k (xor neg t) → wpAny (model pw w) A (compareOp (if neg then .IsNot else .Is) u .none) (Post w B φ ρ s (kb σ k)) NoE s := by
      intro t e h
      cases neg
      · exact is_none (by rw [e]; exact cmp_here R (by simpa using h))
      · exact isNot_none (by rw [e]; exact cmp_here R (by simpa using h))
    cases Xa <;> first | exact none' true rfl h | exact none' false rfl h | exact h.elim
  | obj k0 k1 k2 k3 k4 =>
    cases Xa with
    | obj h0 h1 h2 h3 h4 =>
      refine is_objs (R.sub _ _ h1) (R.sub _ _ k1) rfl rfl fun t ht => cmp_here R ?_
      exact h t fun e => by cases ht e; exact RV.func (.obj h0 h1 h2 h3 h4) (.obj k0 k1 k2 k3 k4)
    | _ => exact h.elim
  | _ => exact h.elim

theorem RVs.uncons {x : PV} {xs : List PV} {vs : List Value} (h : RVs φ (x :: xs) vs) : ∃ v us, vs = v :: us ∧ RV φ x v ∧ RVs φ xs us := by cases h with | cons a b => exact ⟨_, _, rfl, a, b⟩
theorem ints_of {xs : List PV} : ∀ {vs : List Value} {ns : List Int}, RVs φ xs vs → toInts xs = some ns → IntsAre vs ns := by
  induction xs with
  | nil => intro vs ns X e; cases X; cases e; exact .nil
  | cons x r ih =>
    intro vs ns X e
    obtain ⟨v, us, rfl, a, q⟩ := X.uncons
    obtain ⟨i, rfl⟩ : ∃ i, x = .int i := by cases x <;> first | exact ⟨_, rfl⟩ | (simp [toInts] at e; done)
    obtain ⟨ms, e1, rfl⟩ := Option.map_eq_some_iff.mp e
    refine a.int_of fun t => ?_
    exact .cons _ _ (ih q e1)
theorem any_mem (ns : List Int) (x : Int) : ns.any (· == x) = decide (x ∈ ns) := by
  rw [Bool.eq_iff_iff]
  simp only [List.any_eq_true, beq_iff_eq, decide_eq_true_eq]
  exact ⟨fun ⟨y, h, e⟩ => e ▸ h, fun h => ⟨x, h, rfl⟩⟩

theorem dict_far (R : Rel w B σ φ ρ s) {p : Addr × Addr} (hp : p ∈ ρ) (hB : ∃ o, B.heap.get? sysModules = some o) : (p.2 == sysModules) = false := by
  obtain ⟨o, ho⟩ := hB
  have h1 := R.base _ _ ho
  have h2 := R.off p hp
  refine beq_eq_false_iff_ne.mpr fun e => ?_
  rw [e, h1] at h2; cases h2

theorem inP_sound {neg : Bool} {a : PV} {b : XV} {u v : Value} {k : Bool → Prop} (h : inP a b σ fun t => k (xor neg t)) (Xa : RV φ a u) (Xb : RX φ ρ b v) (R : Rel w B σ φ ρ s) (hB : ∃ o, B.heap.get? sysModules = some o) :
    wpAny (model pw w) A (compareOp (if neg then .NotIn else .In) u v) (Post w B φ ρ s (kb σ k)) NoE s := by
  unfold inP at h
  refine asI_el Xa h fun i t h => ?_
  cases Xb with
  | bm _ _ => exact h.elim
  | p X => cases X with
    | tup h1 r =>
      refine someP_el h fun ns e h => ?_
      rw [← any_mem] at h
      cases neg
      · exact in_tuple_ints (R.isTupF h1) (ints_of r e) (cmp_here R (by simpa using h))
      · exact notin_tuple_ints (R.isTupF h1) (ints_of r e) (cmp_here R (by simpa using h))
    | @lst xs vs a n h1 r =>
      refine someP_el h fun ns e h => ?_
      rw [← any_mem] at h
      have il := R.isListF h1
      rw [show vs = vs.toList.toArray by simp] at il
      cases neg
      · exact in_list_ints il (ints_of r e) (cmp_here R (by simpa using h))
      · exact notin_list_ints il (ints_of r e) (cmp_here R (by simpa using h))
    | _ => exact h.elim
  | @c j _ _ e0 =>
    cases q : σ[j]? with
    | none => dsimp only at h; rw [q] at h; exact h.elim
    | some c => cases c with
      | dict f n =>
        dsimp only at h
        rw [q] at h
        obtain ⟨rfl, g, h1, h2, h3⟩ := R.cellDict e0 q
        have hd := dict_far R (List.mem_of_getElem? e0) hB
        have hg : (g i).isSome = (f i).isSome := by
          have := h3 i
          cases e' : f i with
          | none => rw [e'] at this; rw [this]; rfl
          | some x => rw [e'] at this; obtain ⟨v, q2, _⟩ := this; rw [q2]; rfl
        cases neg
        · exact wpAny_in_of (intKind_is pw w i t) hd h1 (by rw [hg]; exact cmp_tok R (by simpa using h))
        · exact wpAny_notIn_of (intKind_is pw w i t) hd h1 (by rw [hg]; exact cmp_tok R (by simpa using h))
      | _ => dsimp only at h; rw [q] at h; exact h.elim

theorem cmpP_sound {o : COp} {a b : XV} {u v : Value} {k : Bool → Prop} (h : cmpP o a b σ k) (Xa : RX φ ρ a u) (Xb : RX φ ρ b v) (R : Rel w B σ φ ρ s) (hA : Bu A) (hB : ∃ o, B.heap.get? sysModules = some o) :
    wpAny (model pw w) A (compareOp (copOf o) u v) (Post w B φ ρ s (kb σ k)) NoE s := by
  have xf : ∀ t, xor false t = t := fun t => by cases t <;> rfl
  have xt : ∀ t, xor true t = !t := fun t => by cases t <;> rfl
  cases o
  · refine look_el R Xa h fun x X1 h => ?_
    refine look_el R Xb h fun y X2 h => ?_
    exact eqP_sound (neg := false) (by simpa only [xf] using h) X1 X2 R hA
  · refine look_el R Xa h fun x X1 h => ?_
    refine look_el R Xb h fun y X2 h => ?_
    exact eqP_sound (neg := true) (by simpa only [xt] using h) X1 X2 R hA
  · refine asP_el Xa h fun x X1 h => ?_
    refine asP_el Xb h fun y X2 h => ?_
    refine asI_el X1 h fun i t h => ?_
    refine asI_el X2 h fun j t' h => ?_
    exact lt_int (cmp_here R h)
  · refine asP_el Xa h fun x X1 h => ?_
    refine asP_el Xb h fun y X2 h => ?_
    refine asI_el X1 h fun i t h => ?_
    refine asI_el X2 h fun j t' h => ?_
    exact le_int (cmp_here R h)
  · refine asP_el Xa h fun x X1 h => ?_
    refine asP_el Xb h fun y X2 h => ?_
    refine asI_el X1 h fun i t h => ?_
    refine asI_el X2 h fun j t' h => ?_
    exact gt_int (cmp_here R h)
  · refine asP_el Xa h fun x X1 h => ?_
    refine asP_el Xb h fun y X2 h => ?_
    refine asI_el X1 h fun i t h => ?_
    refine asI_el X2 h fun j t' h => ?_
    exact ge_int (cmp_here R h)
  · refine asP_el Xa h fun x X1 h => ?_
    refine asP_el Xb h fun y X2 h => ?_
    exact isP_sound (neg := false) (by simpa only [xf] using h) X1 X2 R
  · refine asP_el Xa h fun x X1 h => ?_
    refine asP_el Xb h fun y X2 h => ?_
    exact isP_sound (neg := true) (by simpa only [xt] using h) X1 X2 R
  · refine asP_el Xa h fun x X1 h => ?_
    exact inP_sound (neg := false) (by simpa only [xf] using h) X1 Xb R hB
  · refine asP_el Xa h fun x X1 h => ?_
    exact inP_sound (neg := true) (by simpa only [xt] using h) X1 Xb R hB
end
end Mine
end
section
open PySem PySem.W PyProof.Rows
set_option Elab.async false
set_option maxRecDepth 100000
namespace Mine

section
variable {w : World} {B : Shared} {σ σ₁ : Sig} {φ φ₁ : Fz} {ρ ρ₁ : Rh} {s s₁ : Shared} {A : Around}

/-! ## places of a list, of a dict -/
theorem sub_tail {value slice : Expr} {o i : Value} {T id : String} {Q : Value → Shared → Prop} {E : Value → Shared → Prop} (hs : notSlice slice = true) (hT : s.TypeIs o T)
    (hl : typeLookup (.type T) "__getitem__" = pure (some (.builtin id))) (h : wpAny (model pw w) A (getItem o i) Q E s) : wpAny (model pw w) A (subscriptTail value slice o i) Q E s :=
  tail_any (ops := [o, i]) hT hl h (by cases slice <;> first | rfl | cases hs)

theorem idx_nat {xs : List PV} {n : Nat} {x : PV} (e : idx xs (n : Int) = some x) : xs[n]? = some x := e
theorem idx_neg {xs : List PV} {n : Int} (hn : n < 0) {x : PV} (e : idx xs n = some x) : -(xs.length : Int) ≤ n ∧ xs[(n + xs.length).toNat]? = some x := by
  obtain ⟨m, rfl⟩ := Int.eq_negSucc_of_lt_zero hn
  unfold idx at e
  dsimp only at e
  split at e
  · rename_i h
    refine ⟨by (first | lia | omega), ?_⟩
    rw [← e]; congr 1; (first | lia | omega)
  · cases e
theorem RVs.at {vs : Array Value} {xs : List PV} (X : RVs φ xs vs.toList) {j : Nat} {x : PV} (e : xs[j]? = some x) : ∃ v, vs[j]? = some v ∧ RV φ x v := by
  obtain ⟨v, h1, h2⟩ := X.get e
  exact ⟨v, by rw [← Array.getElem?_toList]; exact h1, h2⟩

theorem here {x : PV} {v : Value} {k : PV → Prop} (R : Rel w B σ φ ρ s) (X : RV φ x v) (h : k x) : Post w B φ ρ s (kp σ k) v s := Post.here R (.p X) ⟨_, rfl, rfl, h⟩

theorem getItem_listV {m : Addr} {vs : Array Value} {xs : List PV} {i : Int} {t : Tok} {x : PV} {k : PV → Prop} (R : Rel w B σ φ ρ s) (hl : s.heap.IsList m vs) (X : RVs φ xs vs.toList) (hb : i.natAbs ≤ lim) (e : idx xs i = some x) (h : k x) :
    wpAny (model pw w) A (getItem (.ref m) (.int i t)) (Post w B φ ρ s (kp σ k)) NoE s := by
  rw [lim_is] at hb
  by_cases hn : 0 ≤ i
  · obtain ⟨n, rfl⟩ := Int.eq_ofNat_of_zero_le hn
    obtain ⟨v, h1, h2⟩ := X.at (idx_nat e)
    exact wpAny_getItem_list hl hn (by (first | lia | omega)) h1 (here R h2 h)
  · obtain ⟨h0, e'⟩ := idx_neg (by (first | lia | omega)) e
    obtain ⟨v, h1, h2⟩ := X.at e'
    rw [X.array] at h1 h0
    exact wpAny_getItem_list_neg hl (by (first | lia | omega)) h0 (by (first | lia | omega)) h1 (here R h2 h)

theorem getItem_tupV {m : Addr} {vs : Array Value} {xs : List PV} {i : Int} {t : Tok} {x : PV} {k : PV → Prop} (R : Rel w B σ φ ρ s) (hl : IsTup s.heap m vs) (X : RVs φ xs vs.toList) (hb : i.natAbs ≤ lim) (e : idx xs i = some x) (h : k x) :
    wpAny (model pw w) A (getItem (.ref m) (.int i t)) (Post w B φ ρ s (kp σ k)) NoE s := by
  rw [lim_is] at hb
  have hz := X.array
  by_cases hn : 0 ≤ i
  · obtain ⟨n, rfl⟩ := Int.eq_ofNat_of_zero_le hn
    have e' := idx_nat e
    obtain ⟨v, h1, h2⟩ := X.at e'
    refine getItem_tuple (j := n) hl (by (first | lia | omega)) (by (first | lia | omega)) ?_ h1 (here R h2 h)
    have := (List.getElem?_eq_some_iff.mp e').1
    unfold seqIndex?
    have c1 : ¬ ((n : Int) < 0) := by (first | lia | omega)
    simp only [c1, if_false]
    rw [if_pos (by simp; (first | lia | omega))]
    rfl
  · obtain ⟨h0, e'⟩ := idx_neg (by (first | lia | omega)) e
    obtain ⟨v, h1, h2⟩ := X.at e'
    refine getItem_tuple hl (by (first | lia | omega)) (by (first | lia | omega)) ?_ h1 (here R h2 h)
    unfold seqIndex?
    have c1 : i < 0 := by (first | lia | omega)
    simp only [c1, if_true, hz]
    rw [if_pos (by simp; (first | lia | omega))]

theorem subP_sound {value slice : Expr} {a b : XV} {u v : Value} {k : PV → Prop} (hs : notSlice slice = true) (h : subP a b σ k) (Xa : RX φ ρ a u) (Xb : RX φ ρ b v) (R : Rel w B σ φ ρ s) :
    wpAny (model pw w) A (subscriptTail value slice u v) (Post w B φ ρ s (kp σ k)) NoE s := by
  unfold subP at h
  split at h
  · rename_i i
    split at h
    · rename_i xs q
      refine asP_el Xb h fun y X1 h => ?_
      refine asI_el X1 h fun n t hh => ?_
      have hb := hh.1
      have h := hh.2
      refine someP_el h fun x e h => ?_
      · refine Xa.c_of fun a m e1 => ?_
        obtain ⟨rfl, vs, n', h1, h2⟩ := R.cellList e1 q
        have il : s.heap.IsList _ vs := ⟨_, h1, rfl, _, rfl⟩
        exact sub_tail hs il.typeIs slot_list_getitem.lookup (getItem_listV R il h2 hb e h)
    · rename_i f n q
      refine asP_el Xb h fun y X1 h => ?_
      refine asI_el X1 h fun n t h => ?_
      refine someP_el h fun x e h => ?_
      · refine Xa.c_of fun a m e1 => ?_
        obtain ⟨rfl, g, h1, h2, h3⟩ := R.cellDict e1 q
        have := h3 n
        rw [e] at this
        obtain ⟨v, g1, g2⟩ := this
        exact sub_tail hs h1.typeIs slot_dict_getitem.lookup (wpAny_getItem_of (intKind_is pw w n t) h1 g1 (Post.tok R (.p g2) ⟨_, rfl, rfl, h⟩))
    · exact h.elim
  · refine asP_el Xb h fun y X1 h => ?_
    refine asI_el X1 h fun n t hh => ?_
    have hb := hh.1
    have h := hh.2
    refine someP_el h fun x e h => ?_
    · refine Xa.p_of.lst_of fun a vs n h1 h2 => ?_
      have il := R.isListF h1
      exact sub_tail hs il.typeIs slot_list_getitem.lookup (getItem_listV R il h2 hb e h)
  · refine asP_el Xb h fun y X1 h => ?_
    refine asI_el X1 h fun n t hh => ?_
    have hb := hh.1
    have h := hh.2
    refine someP_el h fun x e h => ?_
    · refine Xa.p_of.tup_of fun a vs n h1 h2 => ?_
      have il := R.isTupF h1
      exact sub_tail hs il.typeIs slot_tuple_getitem.lookup (getItem_tupV R il h2 hb e h)
  · exact h.elim

/-! ## slices -/
theorem LV.isList (R : Rel w B σ φ ρ s) {xs : List PV} {v : Value} (X : LV φ s.heap (.lst xs) v) : ∃ m vs, v = .ref m ∧ s.heap.IsList m vs ∧ RVs φ xs vs.toList := by
  obtain ⟨m, vs, n, rfl, h1, h2⟩ := X.list R
  exact ⟨m, vs, rfl, ⟨_, h1, rfl, _, rfl⟩, h2⟩

theorem slice_V {value slice : Expr} {m : Addr} {vs : Array Value} {xs : List PV} {vl vu vk : Value} {lo hi st : Option Int} {ops : List Value} {k : PV → Prop}
    (R : Rel w B σ φ ρ s) (hl : s.heap.IsList m vs) (pl : IsPart vl lo) (pu : IsPart vu hi) (pk : IsPart vk st) (h0 : st ≠ some 0) (X : RVs φ xs (slicePick vs lo hi st).toList) (hz : vs.size ≤ lim)
    (hs : subscripted slice false (.ref m) (.ref s.heap.objs.size) = operate ops (getItem (.ref m) (.ref s.heap.objs.size))) (h : k (.lst xs)) :
    wpAny (model pw w) A (subscriptTail value slice (.ref m) (.ref s.heap.objs.size)) (Post w B φ ρ s (kp σ k)) NoE { s with heap := s.heap.push { cls := .type "slice", data := .fields #[vl, vu, vk] } } := by
  have E1 : Ext φ ρ s.heap φ ρ (s.heap.push { cls := .type "slice", data := .fields #[vl, vu, vk] }) := Ext.push ..
  have R1 : Rel w B σ φ ρ { s with heap := s.heap.push { cls := .type "slice", data := .fields #[vl, vu, vk] } } := R.push _ s.toks
  refine tail_any (ops := ops) (Heap.IsList.typeIs (s := { s with heap := s.heap.push { cls := .type "slice", data := .fields #[vl, vu, vk] } }) (hl.push _)) slot_list_getitem.lookup
    (wpAny_getItem_list_slice (hl.push _) (Heap.IsSliceOf.new ..) pl pu pk h0 ?_ (by rw [lim_is] at hz; rw [sizeLine_is]; (first | lia | omega))) hs
  exact Post.trans E1 (Post.new R1 rfl (fun φ' le hn => .p (.lst hn (X.mono le))) ⟨_, rfl, rfl, h⟩)

theorem slTo_pick {vs : Array Value} {xs : List PV} (X : RVs φ xs vs.toList) (i : Int) : RVs φ (slTo xs i) (slicePick vs none (some i) none).toList := by
  have hz := X.array
  cases i with
  | ofNat n =>
    have := slicePick_upto' vs n
    rw [show (Int.ofNat n) = (n : Int) from rfl, this]
    exact X.take n
  | negSucc n =>
    have := slicePick_butLast vs (n + 1) (by (first | lia | omega))
    rw [show Int.negSucc n = -((n + 1 : Nat) : Int) from rfl, this]
    show RVs φ (xs.take (xs.length - (n + 1))) _
    rw [hz]
    exact X.take _
theorem slFrom_pick {vs : Array Value} {xs : List PV} (X : RVs φ xs vs.toList) (i : Nat) : RVs φ (xs.drop i) (slicePick vs (some (i : Int)) none none).toList := by
  rw [slicePick_from']
  exact X.drop i
theorem rev_pick {vs : Array Value} {xs : List PV} (X : RVs φ xs vs.toList) : RVs φ xs.reverse (slicePick vs none none (some (-1))).toList := by
  rw [krv_pick]
  exact X.reverse
theorem two_range (α : Type) : ∀ (l : List α), (List.range ((l.length + 1) / 2)).filterMap (fun k => l[2 * k]?) = everyTwo l
  | [] => by simp [everyTwo]
  | [x] => by simp [everyTwo, show List.range 1 = [0] from rfl]
  | x :: y :: r => by
    have ih := two_range α r
    have e : ((x :: y :: r).length + 1) / 2 = (r.length + 1) / 2 + 1 := by simp only [List.length_cons]; (first | lia | omega)
    rw [e, List.range_succ_eq_map, List.filterMap_cons]
    simp only [Nat.mul_zero, List.getElem?_cons_zero, List.filterMap_map, everyTwo]
    congr 1
    all_goals first | exact ih | skip
theorem two_pick {vs : Array Value} {xs : List PV} (X : RVs φ xs vs.toList) : RVs φ (everyTwo xs) (slicePick vs none none (some 2)).toList := by
  have e : slicePick vs none none (some 2) = (everyTwo vs.toList).toArray := by
    unfold slicePick
    rw [show sliceBounds none none (some 2) vs.size = (0, (vs.size : Int), 2) from rfl]
    rw [← two_range Value vs.toList]
    congr 1
    unfold sliceRange
    have h1 : ((2 : Int) > 0) := by decide
    simp only [h1, if_true]
    have e2 : (if (0 : Int) < (vs.size : Int) then ((vs.size : Int) - 0 + 2 - 1) / 2 else 0).toNat = (vs.toList.length + 1) / 2 := by
      rw [Array.length_toList]; split <;> (first | lia | omega)
    rw [e2, List.filterMap_map]
    congr 1
    funext k
    simp only [Function.comp_apply]
    rw [← Array.getElem?_toList]
    congr 1
    (first | lia | omega)
  rw [e]
  exact X.everyTwo
end
end Mine
end
section
open PySem PySem.W PyProof.Rows
set_option Elab.async false
set_option maxRecDepth 100000
namespace Mine

/-! ## what is asked of the written part of the heap -/
noncomputable def ini (c : Nat) : Nat := if c < 11 then 60 + c else (initOf c).getD 0
noncomputable def clsOk (K : Frag) (c : Nat) : Bool :=
  nsIn K mainGlobals (clsName c) == some (some (.ref (clsAddr c))) && plainGet K (clsAddr c) "" && hasDictIn K (clsAddr c) && makesIn K (clsAddr c) &&
  findIn K (.ref (clsAddr c)) "__init__" == some (some (.ref (fnAddr (ini c)))) && isFn K (.ref (fnAddr (ini c))) && keepIn K (.ref (clsAddr c)) &&
  findIn K (.ref (clsAddr c)) "__setattr__" == some (some (.builtin "object.__setattr__")) && plainOver K (clsAddr c)
noncomputable def ckOk (K : Frag) (c : Nat) : Bool :=
  findIn K (.ref (clsAddr c)) "__class__" == some (some (.builtin "object.__class__")) && mroIn K (clsAddr c) (.type "object") == some true
noncomputable def clOk (K : Frag) : Bool := specialIn K (.builtin "object.__class__") "__get__" == some (some (.builtin "getset_descriptor.__get__")) && takesIn K (.builtin "object.__class__") == some true
noncomputable def attrOk (K : Frag) (c a : Nat) : Bool := match attrOf c a with
  | .field i => findIn K (.ref (clsAddr c)) (attrName a) == some none && (fldNames c)[i]? == some (attrName a)
  | .const (.int n) => (match findIn K (.ref (clsAddr c)) (attrName a) with
    | some (some (.int m t)) => m == n && specialIn K (.int m t) "__get__" == some none
    | _ => false) && !copiedNames.contains (attrName a) && !(fldNames c).contains (attrName a)
  | .const _ => false
  | .meth f => findIn K (.ref (clsAddr c)) (attrName a) == some (some (.ref (fnAddr f))) && isFn K (.ref (fnAddr f)) && !(fldNames c).contains (attrName a)
  | .no => true
noncomputable def fnOk (K : Frag) (f : Nat) (fi : FnInfo) : Bool := (match K.lookup (fnAddr f) with
  | some ⟨_, _, .func fd, _⟩ => chkFd fd fi && codeIn K fd.code fd.qualname
  | _ => false) && (30 ≤ f || nsIn K mainGlobals (fnName f) == some (some (.ref (fnAddr f))))
noncomputable def isiT (K : Frag) (t : Value) (c : Nat) : Option Bool := kitOne K t (if c = 27 then .type "bool" else .ref (clsAddr c))
noncomputable def isiOk (K : Frag) (c : Nat) : Bool :=
  (c == 27 || nsIn K mainGlobals (clsName c) == some (some (.ref (clsAddr c)))) &&
  isiT K (.type "int") c == some false && isiT K (.type "NoneType") c == some false && isiT K (.type "bool") c == some (c == 27) &&
  (List.range 11).all fun c' => isiT K (.ref (clsAddr c')) c == some (c' == c)
noncomputable def biNames : List Str := [Str.ofString "len", Str.ofString "range", Str.ofString "isinstance", Str.ofString "abs", Str.ofString "list", Str.ofString "tuple", Str.ofString "bool"]
structure Facts (K : Frag) : Prop where
  cls : ∀ c, c < 15 → clsOk K c = true
  ck : ∀ c, c < 11 → ckOk K c = true
  cl : clOk K = true
  attr : ∀ c, c < 15 → ∀ a, a < 41 → attrOk K c a = true
  fn : ∀ f fi, fnInfo f = some fi → fnOk K f fi = true
  fnk : ∀ f, f < 71 → fnIn K (fnAddr f) = true
  fns : ∀ f, f < 30 → nsIn K mainGlobals (fnName f) = some (some (.ref (fnAddr f)))
  isi : ∀ c, c < 28 → isiOk K c = true
  bi : ∀ x ∈ biNames, nsIn K mainGlobals x = some none
  gc : ∀ i n, gconst i = some n → ∃ t, nsIn K mainGlobals (gname i) = some (some (.int n t))

structure Base (K : Frag) (w : World) (B : Shared) : Prop where
  inK : K.In B.heap
  g : ∃ mg, B.heap.Ns mainGlobals mg
  b : ∃ mb, B.heap.Ns builtinsNs mb ∧ ∀ x : Str, x ≠ "__name__" → mb x = bootBuiltins x
  lim : B.heap.NoLimit
  sysm : ∃ o, B.heap.get? sysModules = some o
  facts : Facts K

theorem lookup_key {α : Type} {a : Nat} {v : α} : ∀ {l : List (Nat × α)}, l.lookup a = some v → ∃ p ∈ l, p.1 = a
  | (x, y) :: r, h => by
    rw [List.lookup_cons] at h
    cases e : a == x with
    | true => exact ⟨_, .head _, (beq_iff_eq.mp e).symm⟩
    | false =>
      rw [e] at h
      obtain ⟨p, hp, q⟩ := lookup_key h
      exact ⟨p, .tail _ hp, q⟩
theorem attrTab_lt : ∀ r ∈ attrTab, ∀ p ∈ r, p.1 < 41 := by decide
theorem attrOf_lt {c a : Nat} (h : attrOf c a ≠ .no) : c < 15 ∧ a < 41 := by
  unfold attrOf at h
  cases e : attrTab[c]? with
  | none => rw [e] at h; exact absurd rfl h
  | some r =>
    rw [e] at h
    refine ⟨(List.getElem?_eq_some_iff.mp e).1, ?_⟩
    dsimp only [Option.getD_some] at h
    cases e2 : r.lookup a with
    | none => rw [e2] at h; exact absurd rfl h
    | some v =>
      obtain ⟨p, hp, rfl⟩ := lookup_key e2
      exact attrTab_lt r (List.mem_of_getElem? e) p hp

section
variable {K : Frag} {w : World} {B : Shared} {σ σ₁ : Sig} {φ φ₁ : Fz} {ρ ρ₁ : Rh} {s s₁ : Shared} {A : Around} {ce : CE} {env : Env} {L : Locs}

theorem Base.now (b : Base K w B) (R : Rel w B σ φ ρ s) : K.In s.heap := b.inK.keeps R.keepB
theorem Base.limNow (b : Base K w B) (R : Rel w B σ φ ρ s) : s.heap.NoLimit := b.lim.keeps R.keepB

/-! ## names -/
theorem name_top (b : Base K w B) (R : Rel w B σ φ ρ s) (F : FrameOk ce env L φ ρ s.heap) {x : Str} {pos : Pos} {v : Value} {Q : Value → Shared → Prop} (hx : isGlob ce x = true) (e : nsIn K mainGlobals x = some (some v)) (h : Q v s) :
    wpAny (model pw w) A (eval (.Name x pos) env) Q NoE s := by
  obtain ⟨mg, G⟩ := b.g
  unfold isGlob at hx
  rw [Bool.and_eq_true] at hx
  obtain ⟨h1, h2⟩ := hx
  refine Calls.Name_function_global F.kind (F.globs x h1) ?_ (by unfold notDebug at h2; simpa using h2)
  refine Calls.loadGlobal_global (mg := mg) (by rw [F.glob]; exact G.keeps R.keepB) (mg_of b.inK G e) h
theorem name_bi (b : Base K w B) (R : Rel w B σ φ ρ s) (F : FrameOk ce env L φ ρ s.heap) {x : Str} {pos : Pos} {v : Value} {Q : Value → Shared → Prop} (hx : isGlob ce x = true) (e : nsIn K mainGlobals x = some none)
    (hv : bootBuiltins x = some v) (hn : x ≠ "__name__") (h : Q v s) : wpAny (model pw w) A (eval (.Name x pos) env) Q NoE s := by
  obtain ⟨mg, G⟩ := b.g
  obtain ⟨mb, G2, hb⟩ := b.b
  unfold isGlob at hx
  rw [Bool.and_eq_true] at hx
  obtain ⟨h1, h2⟩ := hx
  refine Calls.Name_function_global F.kind (F.globs x h1) ?_ (by unfold notDebug at h2; simpa using h2)
  exact Calls.loadGlobal_builtin (mg := mg) (mb := mb) (by rw [F.glob]; exact G.keeps R.keepB) (mg_none_of b.inK G e) (by rw [F.blt]; exact G2.keeps R.keepB) ((hb x hn).trans hv) h
theorem name_var (F : FrameOk ce env L φ ρ s.heap) {x : Str} {i : Nat} {pos : Pos} {v : XV} {Q : Value → Shared → Prop} (hx : slotIs ce x i = true) (e : L[i]? = some (some v)) (h : ∀ u, RX φ ρ v u → Q u s) :
    wpAny (model pw w) A (eval (.Name x pos) env) Q NoE s := by
  unfold slotIs at hx
  rw [Bool.and_eq_true] at hx
  obtain ⟨h1, h2⟩ := hx
  refine wpAny_Name ?_ (by unfold notDebug at h2; simpa using h2)
  split at h1
  · rename_i j bb hl
    have hj : i = j := by simpa using h1
    subst hj
    have hk := F.slots x i bb hl
    cases bb with
    | false =>
      obtain ⟨m, n1, n2⟩ := F.ns
      obtain ⟨u, h3, h4⟩ := n2 x i v hl e
      exact wpAny_loadName_local F.kind (by simpa using hk) n1 h3 (h u h4)
    | true =>
      obtain ⟨c, c1, _, _, _, ov, c5, c6⟩ := F.cells x i hl
      obtain ⟨u, rfl, h4⟩ := c6 v e
      exact wpAny_loadName_cell F.kind (by simpa using hk) c1 c5 (h u h4)
  · cases h1

/-! ## fields -/
theorem Ents.keys {ns es vs} (E : Ents ns es vs) : es.any (·.refKey) = false := by
  induction E with
  | nil => rfl
  | cons _ ih => rw [List.any_cons, ih]; rfl
theorem isStr_lit (n x : Str) (t : Tok) : (Value.str n t).isStr x = (n == x) := rfl
theorem Ents.get {ns es vs} (E : Ents ns es vs) : ∀ {i : Nat} {n : Str}, ns.Nodup → ns[i]? = some n → ∃ v, vs[i]? = some v ∧ getL n es = some (some v) := by
  induction E with
  | nil => intro i n _ e; cases e
  | @cons m ns hs t v es vs r ih =>
    intro i n nd e
    cases i with
    | zero =>
      cases e
      refine ⟨v, rfl, ?_⟩
      unfold getL
      rw [List.find?_cons_of_pos (by simp [isStr_lit])]
    | succ i =>
      have e' : ns[i]? = some n := e
      obtain ⟨v', h1, h2⟩ := ih (List.nodup_cons.mp nd).2 e'
      refine ⟨v', h1, ?_⟩
      have hne : m ≠ n := by
        rintro rfl
        exact (List.nodup_cons.mp nd).1 (List.mem_of_getElem? e')
      unfold getL at h2 ⊢
      rw [List.find?_cons_of_neg (by simpa [isStr_lit] using hne)]
      split at h2
      · exact h2
      · split at h2 <;> cases h2
theorem Ents.miss : ∀ {ns es vs}, Ents ns es vs → ∀ {n : Str}, n ∉ ns → getL n es = some none := by
  intro ns es vs E n hn
  have h0 := E.keys
  have h1 : es.find? (·.key.isStr n) = none := by
    clear h0
    induction E with
    | nil => rfl
    | @cons m ns h t v es vs r ih =>
      rw [List.find?_cons_of_neg]
      · exact ih fun q => hn (.tail _ q)
      · have : m ≠ n := by rintro rfl; exact hn (.head _)
        simpa [isStr_lit] using this
  unfold getL
  rw [h1, h0]
  rfl
theorem Ents.length {ns es vs} (h : Ents ns es vs) : vs.length = ns.length ∧ es.length = ns.length := by
  induction h with
  | nil => exact ⟨rfl, rfl⟩
  | cons _ ih => exact ⟨congrArg (· + 1) ih.1, congrArg (· + 1) ih.2⟩
theorem fld_nodup : ∀ c, c < 15 → (fldNames c).Nodup := by decide

theorem RV.handed {x : PV} {v : Value} (X : RV φ x v) : handedIn v = true := by cases X <;> rfl
theorem RX.handed {x : XV} {v : Value} (X : RX φ ρ x v) : handedIn v = true := by
  cases X with
  | p a => exact a.handed
  | c _ => rfl
  | bm _ _ => rfl

structure ClsF (K : Frag) (C : Addr) (f : Addr) (nm : Str) : Prop where
  ns : nsIn K mainGlobals nm = some (some (.ref C))
  ga : findIn K (.ref C) "__getattribute__" = some (some (.builtin "object.__getattribute__"))
  gn : findIn K (.ref C) "__getattr__" = some none
  hd : hasDictIn K C = true
  mks : makesIn K C = true
  ini : findIn K (.ref C) "__init__" = some (some (.ref f))
  fn : typeIn K (.ref f) = some (.type "function")
  keep : keepIn K (.ref C) = true
  sa : findIn K (.ref C) "__setattr__" = some (some (.builtin "object.__setattr__"))
  po : plainOver K C = true
theorem Facts.clsF (f : Facts K) {c : Nat} (h : c < 15) : ClsF K (clsAddr c) (fnAddr (ini c)) (clsName c) := by
  have := f.cls c h
  unfold clsOk at this
  simp only [Bool.and_eq_true] at this
  obtain ⟨⟨⟨⟨⟨⟨⟨⟨h1, h2⟩, h3⟩, h4⟩, h5⟩, h6⟩, h7⟩, h8⟩, h9⟩ := this
  exact ⟨beq_iff_eq.mp h1, (plainGet_of h2).1, (plainGet_of h2).2, h3, h4, beq_iff_eq.mp h5, beq_iff_eq.mp h6, h7, beq_iff_eq.mp h8, h9⟩

/-- the place of an own thing's words, frozen or not -/
theorem getA {c a : Nat} {x d : Addr} {es : List DictEntry} {n : Nat} {expr : Bool} {Q : Value → Shared → Prop} (b : Base K w B) (R : Rel w B σ φ ρ s) (hx : s.heap.get? x = some (instObj (clsAddr c) d)) (hd : s.heap.get? d = some (dictOf es n)) (hc : c < 15)
    {attr : Option Value} (hf : findIn K (.ref (clsAddr c)) (attrName a) = some attr) {v : Value} (hv : handedIn v = true)
    (h0 : (noGet K attr = true ∧ getL (attrName a) es = some (some v)) ∨ (attr = some v ∧ specialIn K v "__get__" = some none ∧ copiedNames.contains (attrName a) = false ∧ getL (attrName a) es = some none))
    (h : Q v { s with toks := s.toks + 1 }) : wpAny (model pw w) A (getAttr (.ref x) (attrName a) expr) Q NoE s := by
  have I : InstAt s.heap x (instObj (clsAddr c) d) (clsAddr c) (some (dictOf es n)) := ⟨hx, rfl, rfl, hd⟩
  have F := b.facts.clsF hc
  refine get_value (b.now R) I F.ga ?_ hv h
  rcases h0 with ⟨h1, h2⟩ | ⟨rfl, h2, h3, h4⟩
  · exact findObj_own F.hd hf h1 h2
  · exact findObj_cls F.hd hf h2 hv h3 h4

theorem const_of {K : Frag} {C : Value} {x : Str} {n : Int} {f : Int → Tok → Bool} (h : (match findIn K C x with
    | some (some (.int m t)) => m == n && f m t
    | _ => false) = true) : ∃ t, findIn K C x = some (some (.int n t)) ∧ f n t = true := by
  revert h
  cases findIn K C x with
  | none => exact nofun
  | some o => cases o with
    | none => exact nofun
    | some v => cases v with
      | int m t =>
        intro h
        obtain ⟨h1, h2⟩ := Bool.and_eq_true_iff.mp h
        cases beq_iff_eq.mp h1
        exact ⟨t, rfl, h2⟩
      | _ => exact nofun
theorem attrP_sound {a : Nat} {v : XV} {u : Value} {expr : Bool} {k : XV → Prop} (b : Base K w B) (R : Rel w B σ φ ρ s) (X : RX φ ρ v u) (hnb : ∀ f i, v ≠ .bm f i) (hm : ∀ i c fs f, v = .c i → σ[i]? = some (.inst c fs) → attrOf c a ≠ .meth f) (h : attrP v a σ k) :
    wpAny (model pw w) A (getAttr u (attrName a) expr) (Post w B φ ρ s fun x σ' => σ' = σ ∧ k x) NoE s := by
  cases X with
  | bm _ _ => exact absurd rfl (hnb _ _)
  | p X => cases X with
    | @obj c fs x d es n vs h0 h1 h2 h3 r =>
      replace h : attrP (.p (.obj c fs)) a σ k := h
      unfold attrP at h
      dsimp only at h
      have H : attrOf c a ≠ .no := fun q => by rw [q] at h; exact h
      obtain ⟨hc, ha⟩ := attrOf_lt H
      have ok := b.facts.attr c hc a ha
      unfold attrOk at ok
      cases q : attrOf c a with
      | field i =>
        rw [q] at ok h
        dsimp only at ok
        refine someP_el h fun y e h => ?_
        rw [Bool.and_eq_true, beq_iff_eq, beq_iff_eq] at ok
        obtain ⟨v, g1, g2⟩ := h3.get (fld_nodup c hc) ok.2
        obtain ⟨v', g3, g4⟩ := r.get e
        cases Option.some.inj (g1.symm.trans g3)
        exact getA b R (R.sub _ _ h1) (R.sub _ _ h2) hc ok.1 g4.handed (.inl ⟨rfl, g2⟩) (Post.tok R (.p g4) ⟨rfl, h⟩)
      | const y =>
        rw [q] at ok h
        obtain ⟨m, rfl⟩ : ∃ m, y = .int m := by cases y <;> first | exact ⟨_, rfl⟩ | exact nomatch ok
        dsimp only at ok
        rw [Bool.and_eq_true, Bool.and_eq_true, Bool.not_eq_true', Bool.not_eq_true'] at ok
        obtain ⟨⟨o1, o2⟩, o3⟩ := ok
        obtain ⟨t, hf, o1⟩ := const_of o1
        refine getA b R (R.sub _ _ h1) (R.sub _ _ h2) hc hf rfl (.inr ⟨rfl, beq_iff_eq.mp o1, o2, h3.miss ?_⟩) (Post.tok R (.p (.int _ _)) ⟨rfl, h⟩)
        simpa using o3
      | meth f => rw [q] at h; exact h.elim
      | no => exact absurd q H
    | _ => exact h.elim
  | @c i x d e1 =>
    cases q0 : σ[i]? with
    | none => unfold attrP at h; dsimp only at h; rw [q0] at h; exact h.elim
    | some cl => cases cl with
      | inst c fs =>
        unfold attrP at h
        dsimp only at h
        rw [q0] at h
        dsimp only at h
        refine R.cellInst_el e1 q0 fun h1 es n vs h2 h3 h4 h5 => ?_
        cases q : attrOf c a with
        | field j =>
          rw [q] at h
          refine someP_el h fun y e h => ?_
          obtain ⟨hc, ha⟩ := attrOf_lt (c := c) (a := a) (by rw [q]; exact nofun)
          have ok := b.facts.attr c hc a ha
          unfold attrOk at ok
          rw [q] at ok
          dsimp only at ok
          rw [Bool.and_eq_true, beq_iff_eq, beq_iff_eq] at ok
          have hj := (List.getElem?_eq_some_iff.mp e).1
          obtain ⟨v, g1, g2⟩ := h4.get ((List.take_sublist _ _).nodup (fld_nodup c hc)) (i := j) (n := attrName a) (by rw [List.getElem?_take_of_lt hj]; exact ok.2)
          obtain ⟨v', g3, g4⟩ := h5.get e
          cases Option.some.inj (g1.symm.trans g3)
          exact getA b R (R.sub _ _ h1) h2 hc ok.1 g4.handed (.inl ⟨rfl, g2⟩) (Post.tok R g4 ⟨rfl, h⟩)
        | meth f => exact absurd q (hm i c fs f rfl q0)
        | _ => rw [q] at h; exact h.elim
      | _ => unfold attrP at h; dsimp only at h; rw [q0] at h; exact h.elim

theorem methP_sound {a : Nat} {v : XV} {u : Value} {pl : Sem Bool} {k : Nat → Prop} {Q : Value × List Value → Shared → Prop} (b : Base K w B) (R : Rel w B σ φ ρ s) (X : RX φ ρ v u) (h : methP v a σ k)
    (hq : ∀ f, k f → Q (.ref (fnAddr f), [u]) s) : wpAny (model pw w) A (getMethod u (attrName a) pl) Q NoE s := by
  have key : ∀ {c f : Nat} {x d : Addr} {es : List DictEntry} {n : Nat}, attrOf c a = .meth f → s.heap.get? x = some (instObj (clsAddr c) d) → s.heap.get? d = some (dictOf es n) → (attrName a ∉ fldNames c → getL (attrName a) es = some none) → k f →
      wpAny (model pw w) A (getMethod (.ref x) (attrName a) pl) (fun r s' => ∃ f, k f ∧ r = (.ref (fnAddr f), [.ref x]) ∧ s' = s) NoE s := by
    intro c f x d es n q hx hd hl hk
    obtain ⟨hc, ha⟩ := attrOf_lt (c := c) (a := a) (by rw [q]; exact nofun)
    have ok := b.facts.attr c hc a ha
    unfold attrOk at ok
    rw [q] at ok
    simp only [Bool.and_eq_true, beq_iff_eq, Bool.not_eq_true'] at ok
    have F := b.facts.clsF hc
    have I : InstAt s.heap x (instObj (clsAddr c) d) (clsAddr c) (some (dictOf es n)) := ⟨hx, rfl, rfl, hd⟩
    refine method_fn (b.now R) I F.ga F.gn ok.1.1 (beq_iff_eq.mp ok.1.2) ?_ ⟨f, hk, rfl, rfl⟩
    show (lookIn (attrName a) (dictOf es n)).map _ = _
    rw [lookIn_dict, hl (by simpa using ok.2)]
    rfl
  have fin : ∀ {x : Addr}, u = .ref x → wpAny (model pw w) A (getMethod (.ref x) (attrName a) pl) (fun r s' => ∃ f, k f ∧ r = (.ref (fnAddr f), [.ref x]) ∧ s' = s) NoE s → wpAny (model pw w) A (getMethod u (attrName a) pl) Q NoE s := by
    rintro x rfl z
    exact wpAny_mono z (fun r s' ⟨f, hk, e1, e2⟩ => by subst e1 e2; exact hq f hk) fun _ _ x => x
  have meth : ∀ {r : AttrR}, (match r with | .meth f => k f | _ => False) → ∃ f, r = .meth f ∧ k f := fun {r} h => by
    cases r <;> first | exact ⟨_, rfl, h⟩ | exact h.elim
  cases X with
  | bm _ _ => exact h.elim
  | p X => cases X with
    | @obj c fs x d es n vs h0 h1 h2 h3 r =>
      obtain ⟨f, q, h⟩ := meth h
      exact fin rfl (key q (R.sub _ _ h1) (R.sub _ _ h2) h3.miss h)
    | _ => exact h.elim
  | @c i x d e1 =>
    unfold methP at h
    dsimp only at h
    cases q0 : σ[i]? with
    | none => rw [q0] at h; exact h.elim
    | some cl => cases cl with
      | inst c fs =>
        rw [q0] at h
        refine R.cellInst_el e1 q0 fun h1 es n vs h2 h3 h4 h5 => ?_
        obtain ⟨f, q, h⟩ := meth h
        exact fin rfl (key q (R.sub _ _ h1) h2 (fun z => h4.miss fun y => z (List.mem_of_mem_take y)) h)
      | _ => rw [q0] at h; exact h.elim
end
end Mine
end
section
open PySem PySem.W PyProof.Rows
set_option Elab.async false
set_option maxRecDepth 100000
namespace Mine

section
variable {K : Frag} {w : World} {B : Shared} {σ σ₁ : Sig} {φ φ₁ : Fz} {ρ ρ₁ : Rh} {s s₁ : Shared} {A : Around} {ce : CE} {env : Env} {L : Locs}

/-! ## calls of built-in things -/
theorem len_sound {x : PV} {v : Value} {k : XV → Sig → Prop}
    (h : match x with | .lst xs => xs.length ≤ lim ∧ k (.p (.int xs.length)) σ | .tup xs => xs.length ≤ lim ∧ k (.p (.int xs.length)) σ | _ => False) (R : Rel w B σ φ ρ s) (X : LV φ s.heap x v) :
    wpAny (model pw w) A (call (.builtin "len") [v]) (Post w B φ ρ s k) NoE s := by
  cases x with
  | lst xs =>
    obtain ⟨m, vs, rfl, il, r⟩ := X.isList R
    have hz := r.array
    have hl := h.1
    rw [lim_is] at hl
    refine Calls.call_len_list il (by (first | omega | lia)) ?_
    rw [← hz]
    exact Post.tok R (.p (.int _ _)) h.2
  | tup xs =>
    · refine (X.frz fun _ e => nomatch e).tup_of fun a vs n h1 r => ?_
      · have hz := r.array
        have hl := h.1
        rw [lim_is] at hl
        refine PyProof.Rows.len_tuple (R.isTupF h1) (by (first | omega | lia)) ?_
        rw [← hz]
        exact Post.tok R (.p (.int _ _)) h.2
  | _ => exact h.elim

theorem range1_sound {n : Int} {t : Tok} {k : XV → Sig → Prop} (R : Rel w B σ φ ρ s) (h : k (.p (.rng 0 n 1)) σ) :
    wpAny (model pw w) A (call (.type "range") [.int n t]) (Post w B φ ρ s k) NoE s :=
  call_range_1 (Post.new R rfl (fun _ _ hn => .p (.rng hn)) h)
theorem range3_sound {a b c : Int} {t u v : Tok} {k : XV → Sig → Prop} (R : Rel w B σ φ ρ s) (hb : b = -1) (hc : c = -1) (h0 : -1 ≤ a) (h1 : a ≤ lim) (h : k (.p (.rng a b c)) σ) :
    wpAny (model pw w) A (call (.type "range") [.int a t, .int b u, .int c v]) (Post w B φ ρ s k) NoE s := by
  subst hb hc
  rw [lim_is] at h1
  refine call_range_3 (by decide) (Post.new R rfl (fun _ _ hn => .p (.rng hn)) h) (.inl (PyProof.noPylong_small (by (first | omega | lia))))
theorem abs_sound {n : Int} {t : Tok} {k : XV → Sig → Prop} (R : Rel w B σ φ ρ s) (h : k (.p (.int n.natAbs)) σ) :
    wpAny (model pw w) A (call (.builtin "abs") [.int n t]) (Post w B φ ρ s k) NoE s := by
  refine PyProof.Rows.call_abs_int fun u tk => ?_
  rw [show (if n < 0 then -n else n) = (n.natAbs : Int) by split <;> (first | omega | lia)]
  exact Post.tok R (.p (.int _ _)) h
theorem Post.grown (R : Rel w B σ φ ρ s) {h' : Heap} {t : Nat} {o : Obj} {a : Addr} (hk : ∀ b o, s.heap.get? b = some o → h'.get? b = some o) (ha : h'.get? a = some o) (hn : s.heap.get? a = none) {x : XV} {k : XV → Sig → Prop}
    (X : ∀ φ', FzLe φ φ' → φ' a = some o → RX φ' ρ x (.ref a)) (h : k x σ) : Post w B φ ρ s k (.ref a) { s with heap := h', toks := t } := by
  have hf : φ a = none := by
    cases e : φ a with
    | none => rfl
    | some o => rw [R.sub _ _ e] at hn; cases hn
  have R1 : Rel w B σ φ ρ { s with heap := h', toks := t } := R.keeps hk
  have hr : ∀ p ∈ ρ, a ≠ p.2 := by
    rintro p hp rfl
    obtain ⟨i, hi, rfl⟩ := List.mem_iff_getElem.mp hp
    obtain ⟨o, ho⟩ := R.live (List.getElem?_eq_getElem hi)
    rw [ho] at hn; cases hn
  refine ⟨φ.put a o, ρ, σ, x, (Ext.keeps hk).put hn, R1.freeze ha hf hr, X _ (Fz.le_put hf) (Fz.put_self _ _ _), h⟩
theorem listOf_sound {x : PV} {v : Value} {k : XV → Sig → Prop}
    (h : match x with | .lst xs => xs.length ≤ lim ∧ k (.p (.lst xs)) σ | .tup xs => xs.length ≤ lim ∧ k (.p (.lst xs)) σ | _ => False) (R : Rel w B σ φ ρ s) (X : RV φ x v) :
    wpAny (model pw w) A (call (.type "list") [v]) (Post w B φ ρ s k) NoE s := by
  have key : ∀ {xs : List PV} {a : Addr} {T : String} {vs : Array Value} {n : Nat}, (T = "list" ∨ T = "tuple") → φ a = some { cls := .type T, data := .seq vs n } → RVs φ xs vs.toList → xs.length ≤ lim → k (.p (.lst xs)) σ →
      wpAny (model pw w) A (call (.type "list") [.ref a]) (Post w B φ ρ s k) NoE s := by
    intro xs a T vs n hT h1 r hl hk
    have hz := r.array
    refine call_list_seq a hT (R.sub _ _ h1) rfl rfl (fun h' c' hk' hD => ?_) (by rw [← hz, sizeLine_is]; rw [lim_is] at hl; (first | omega | lia))
    have hn : s.heap.get? s.heap.objs.size = none := none_of_size (Nat.le_refl _)
    exact Post.grown R hk' hD hn (fun φ' le hn => .p (.lst hn (r.mono le))) hk
  cases x with
  | lst xs => exact X.lst_of fun a vs n h1 r => key (.inl rfl) h1 r h.1 h.2
  | tup xs => exact X.tup_of fun a vs n h1 r => key (.inr rfl) h1 r h.1 h.2
  | _ => exact h.elim
theorem tupleOf_sound {x : PV} {v : Value} {k : XV → Sig → Prop}
    (h : asL x fun xs => xs.length ≤ lim ∧ k (.p (.tup xs)) σ) (R : Rel w B σ φ ρ s) (X : RV φ x v) :
    wpAny (model pw w) A (call (.type "tuple") [v]) (Post w B φ ρ s k) NoE s := by
  cases x with
  | lst xs =>
    refine X.lst_of fun a vs n h1 r => ?_
    · have hz := r.array
      have hl := h.1
      rw [lim_is] at hl
      refine call_tuple_list (R.isListF h1) (fun h' hk => ?_) (by rw [← hz, sizeLine_is]; (first | omega | lia))
      have R1 : Rel w B σ φ ρ { s with heap := h' } := R.keeps hk
      have E1 : Ext φ ρ s.heap φ ρ h' := Ext.keeps hk
      exact Post.trans (s₁ := { s with heap := h' }) E1 (Post.new R1 rfl (fun φ' le hn => .p (.tup hn (r.mono le))) h.2)
  | _ => exact h.elim

/-! ## isinstance -/
theorem isiB {c : Nat} (f : Facts K) (h : c < 28) : isiOk K c = true := f.isi c h
noncomputable def tyOf : PV → Option Value
  | .int _ => some (.type "int") | .bool _ => some (.type "bool") | .none => some (.type "NoneType")
  | .obj c _ => some (.ref (clsAddr c))
  | .str _ => none
  | .gl _ => none
  | .tup _ => none
  | .lst _ => none
  | .rng _ _ _ => none
theorem isiF_one (f : Facts K) {x : PV} {c : Nat} {t : Value} {b : Bool} (hc : c < 28) (e : isiF x c = some b) (ht : tyOf x = some t) (hx : ∀ c' fs, x = .obj c' fs → c' < 11) : kitOne K t (if c = 27 then .type "bool" else .ref (clsAddr c)) = some b := by
  have := isiB f hc
  unfold isiOk at this
  simp only [Bool.and_eq_true, beq_iff_eq, List.all_eq_true, List.mem_range] at this
  obtain ⟨⟨⟨⟨_, h1⟩, h2⟩, h3⟩, h4⟩ := this
  cases x <;> simp only [tyOf, Option.some.injEq, reduceCtorEq] at ht <;> subst ht <;> simp only [isiF] at e
  · cases e; exact h2
  · cases e; exact h3
  · cases e; exact h1
  · rename_i c' fs
    have h5 := h4 c' (hx c' fs rfl)
    unfold isiT at h5
    rw [h5]
    split at e
    · rename_i q; subst q; cases e
      have := hx c' fs rfl
      have : ¬ (c' = 27) := by (first | omega | lia)
      simp [this]
    · exact e
theorem isi_all (f : Facts K) {x : PV} {t : Value} (ht : tyOf x = some t) (hx : ∀ c' fs, x = .obj c' fs → c' < 11) {k : Bool → Prop} : ∀ {cs : List Nat}, (∀ c ∈ cs, c < 28) → isiP (.p x) cs k →
    ∃ b, kitAny K t (cs.map fun c => if c = 27 then .type "bool" else .ref (clsAddr c)) = some b ∧ k b
  | [], _, h => ⟨false, rfl, h⟩
  | c :: r, hl, h => by
    refine someP_el (show someP (isiF x c) _ from h) fun b e h => ?_
    have := isiF_one f (hl c (.head _)) e ht hx
    rw [List.map_cons]
    unfold kitAny
    rw [this]
    rcases br_of h with ⟨rfl, h⟩ | ⟨rfl, h⟩
    · exact ⟨true, rfl, h⟩
    · exact isi_all f ht hx (fun c hc => hl c (.tail _ hc)) h
theorem kitx {x : PV} {v t : Value} (b : Base K w B) (R : Rel w B σ φ ρ s) (X : RV φ x v) (ht : tyOf x = some t) : ∃ H : Heap → Prop, KitX K v t H ∧ ∀ h', (∀ a o, φ a = some o → h'.get? a = some o) → H h' := by
  cases X with
  | none => cases ht; exact ⟨_, kitx_none, fun _ _ => trivial⟩
  | bool _ => cases ht; exact ⟨_, kitx_bool, fun _ _ => trivial⟩
  | int _ _ => cases ht; exact ⟨_, kitx_int, fun _ _ => trivial⟩
  | @obj c fs a d es n vs h0 h1 h2 h3 r =>
    cases ht
    have F := b.facts.clsF (Nat.lt_trans h0 (by decide : 11 < 15))
    have C := b.facts.ck c h0
    have L := b.facts.cl
    unfold ckOk at C
    unfold clOk at L
    simp only [Bool.and_eq_true, beq_iff_eq] at C L
    refine ⟨_, kitx_own (ox := instObj (clsAddr c) d) (od := dictOf es n) ?_ F.hd C.1 L.1 L.2 C.2, fun h' hk => ⟨hk _ _ h1, rfl, rfl, hk _ _ h2⟩⟩
    unfold plainGet
    rw [F.ga, F.gn]
    rfl
  | str _ _ => cases ht
  | tup _ _ => cases ht
  | lst _ _ => cases ht
  | rng _ => cases ht
theorem RV.ne_loader {x : PV} {v : Value} (X : RV φ x v) : v ≠ .builtin "__main__.__loader__#opaque" := by cases X <;> exact fun e => by cases e
theorem isiP_ty {v : XV} {u : Value} {cs : List Nat} {k : Bool → Prop} (X : RX φ ρ v u) (hne : cs ≠ []) (h : isiP v cs k) : ∃ x t, v = .p x ∧ RV φ x u ∧ tyOf x = some t ∧ ∀ c' fs, x = .obj c' fs → c' < 11 := by
  cases cs with
  | nil => exact absurd rfl hne
  | cons c r =>
    obtain ⟨x, rfl, X1, h⟩ := asP_of X h
    refine someP_el h fun b e _ => ?_
    cases X1 with
    | none => exact ⟨_, _, rfl, .none, rfl, fun _ _ e => by cases e⟩
    | bool _ => exact ⟨_, _, rfl, .bool _, rfl, fun _ _ e => by cases e⟩
    | int _ _ => exact ⟨_, _, rfl, .int _ _, rfl, fun _ _ e => by cases e⟩
    | obj h0 h1 h2 h3 r => exact ⟨_, _, rfl, .obj h0 h1 h2 h3 r, rfl, fun _ _ e => by cases e; exact h0⟩
    | str _ _ => cases e
    | tup _ _ => cases e
    | lst _ _ => cases e
    | rng _ => cases e
theorem isi_one_sound {v : XV} {u : Value} {c : Nat} {k : Bool → Prop} (b : Base K w B) (R : Rel w B σ φ ρ s) (X : RX φ ρ v u) (hc : c < 28) (h : isiP v [c] k) :
    wpAny (model pw w) A (call (.builtin "isinstance") [u, if c = 27 then .type "bool" else .ref (clsAddr c)]) (Post w B φ ρ s (kb σ k)) NoE s := by
  obtain ⟨x, t, rfl, X1, ht, hx⟩ := isiP_ty X (by simp) h
  obtain ⟨H, Z, hH⟩ := kitx b R X1 ht
  obtain ⟨y, e, h⟩ := isi_all b.facts ht hx (cs := [c]) (by simpa using hc) h
  refine kia_one (b := y) Z (b.now R) (hH _ R.sub) ?_ X1.ne_loader fun tk => cmp_tok R h
  rw [List.map_cons, List.map_nil] at e
  unfold kitAny at e
  split at e
  · rename_i q; rw [q]; exact e
  · rename_i q; rw [q]; unfold kitAny at e; exact e
  · cases e
theorem isi_tup_sound {v : XV} {u : Value} {cs : List Nat} {tp : Addr} {vs : Array Value} {n : Nat} {k : Bool → Prop} (b : Base K w B) (R : Rel w B σ φ ρ s) (X : RX φ ρ v u) (hc : ∀ c ∈ cs, c < 28) (hne : cs ≠ []) (h : isiP v cs k)
    (ht : s.heap.get? tp = some { cls := .type "tuple", data := .seq vs n }) (hvs : vs.toList = cs.map fun c => if c = 27 then .type "bool" else .ref (clsAddr c)) :
    wpAny (model pw w) A (call (.builtin "isinstance") [u, .ref tp]) (Post w B φ ρ s (kb σ k)) NoE s := by
  obtain ⟨x, t, rfl, X1, htt, hx⟩ := isiP_ty X hne h
  obtain ⟨H, Z, hH⟩ := kitx b R X1 htt
  obtain ⟨y, e, h⟩ := isi_all b.facts htt hx hc h
  refine kia_tup (b := y) (its := vs.toList) Z (b.now R) (hH _ R.sub) (by rw [Array.toArray_toList]; exact ht) (by rw [hvs]; exact e) X1.ne_loader fun tk => cmp_tok R h
end
end Mine
end
section
open PySem PySem.W PyProof.Rows
set_option Elab.async false
set_option maxRecDepth 100000
namespace Mine

section
variable {K : Frag} {w : World} {B : Shared} {σ σ₁ : Sig} {φ φ₁ : Fz} {ρ ρ₁ : Rh} {s s₁ : Shared} {A : Around} {ce : CE} {env : Env} {L : Locs}

/-! ## things that hand out items -/
structure IterAt (w : World) (A : Around) (φ : Fz) (h : Heap) (I : Addr) (xs : List PV) (fp : List Addr) (P : Nat → Value → Prop) (St : Nat → Heap → Prop) : Prop where
  walks : Walks pw w A I fp [I] xs.length P St
  start : St 0 h
  own : ∃ o, h.get? I = some o
  obj : ∀ i h', St i h' → ∃ o, h'.get? I = some o
  stay : ∀ i h' h'', St i h' → (∀ o, h'.get? I = some o → h''.get? I = some o) → (∀ b o, φ b = some o → h''.get? b = some o) → St i h''
  fps : ∀ b ∈ fp, b = I ∨ ∃ o, φ b = some o
  item : ∀ i v, i < xs.length → P i v → ∃ x, xs[i]? = some x ∧ RV φ x v

theorem rangeSize_neg (a b : Int) : Builtin.Range.rangeSize a b (-1) = ((a - b).toNat : Int) := by
  unfold Builtin.Range.rangeSize
  rw [if_neg (by decide)]
  split
  · rw [show (-(-1 : Int)) = 1 by decide, Int.ediv_one]; (first | omega | lia)
  · (first | omega | lia)
theorem fits {x : Int} {N : Nat} (h : x.natAbs ≤ N) (hN : N ≤ 2 ^ 40) : Builtin.Range.rangeFitsLong x = true := by
  unfold Builtin.Range.rangeFitsLong
  rw [Bool.and_eq_true, decide_eq_true_eq, decide_eq_true_eq]
  omega
theorem diff_le {a b : Int} (ha : a.natAbs ≤ lim) (hb : b.natAbs ≤ lim) : ((a - b).toNat : Int).natAbs ≤ lim + lim :=
  Int.toNat_le.mpr (Int.add_le_add (Int.le_trans Int.le_natAbs (Int.ofNat_le.mpr ha)) (Int.le_trans (Int.natAbs_neg b ▸ Int.le_natAbs : -b ≤ b.natAbs) (Int.ofNat_le.mpr hb)))
theorem small_neg {a b : Int} (ha : a.natAbs ≤ lim) (hb : b.natAbs ≤ lim) : Builtin.Range.small a b (-1) = true := by
  have h1 := fits ha (by decide)
  have h2 := fits hb (by decide)
  have h3 : Builtin.Range.rangeFitsLong (Builtin.Range.rangeSize a b (-1)) = true := by
    rw [rangeSize_neg]; exact fits (N := lim + lim) (diff_le ha hb) (by decide)
  have h4 : Builtin.Range.rangeFitsLong (b + (-1 + 1)) = true := by rw [show b + (-1 + 1) = b from Int.add_zero b]; exact h2
  unfold Builtin.Range.small
  rw [h1, h2, h3, if_neg (by decide), h4]
  rw [Bool.or_true]; rfl

theorem pyIter_sound {v : XV} {u : Value} {k : List PV → Prop} {Q : Value → Shared → Prop} (hA : A.handled = none) (R : Rel w B σ φ ρ s) (X : RX φ ρ v u) (h : items v k)
    (hq : ∀ o xs fp P St, o.isFreed = false → k xs → IterAt w A φ (s.heap.push o) s.heap.objs.size xs fp P St → Q (.ref s.heap.objs.size) { s with heap := s.heap.push o }) :
    wpAny (model pw w) A (pyIter u) Q NoE s := by
  cases X with
  | c _ => exact h.elim
  | bm _ _ => exact h.elim
  | p X => cases X with
    | @lst xs vs a n h1 r =>
      have il := R.isListF h1
      have hz := r.array
      have hlt : a < s.heap.objs.size := R.lt h1
      have hne : a ≠ s.heap.objs.size := Nat.ne_of_lt hlt
      have W := Walks.list (prog := pw) (w := w) (A := A) hA s.heap.objs.size a hne vs
      rw [← hz] at W
      refine wpAny_pyIter_list il (hq _ _ _ _ _ rfl h (IterAt.mk (walks := W)
        (start := ⟨⟨_, Heap.get?_push_size _ rfl, rfl, rfl⟩, il.push _⟩)
        (own := ⟨_, Heap.get?_push_size _ rfl⟩)
        (obj := fun i h' st => by obtain ⟨o, e, _⟩ := st.1; exact ⟨o, e⟩)
        (stay := fun i h' h'' st k1 k2 => ⟨by obtain ⟨o, e, q⟩ := st.1; exact ⟨o, k1 o e, q⟩, ⟨_, k2 _ _ h1, rfl, _, rfl⟩⟩)
        (fps := fun b hb => by
          rcases List.mem_cons.mp hb with rfl | hb
          · exact .inl rfl
          · rw [List.mem_singleton.mp hb]; exact .inr ⟨_, h1⟩)
        (item := fun i v hi e => by
          have : vs.toList[i]? = some v := by rw [Array.getElem?_toList]; exact e
          obtain ⟨v', e1, e2⟩ := r.get (List.getElem?_eq_getElem hi)
          rw [this] at e1; cases e1
          exact ⟨_, List.getElem?_eq_getElem hi, e2⟩)))
    | @tup xs vs a n h1 r =>
      have il : s.heap.IsTuple a vs := R.isTupF h1
      have hz := r.array
      have hlt : a < s.heap.objs.size := R.lt h1
      have hne : a ≠ s.heap.objs.size := Nat.ne_of_lt hlt
      have W := Walks.tuple (prog := pw) (w := w) (A := A) hA s.heap.objs.size a hne vs
      rw [← hz] at W
      refine wpAny_pyIter_tuple il (hq _ _ _ _ _ rfl h (IterAt.mk (walks := W)
        (start := ⟨⟨_, Heap.get?_push_size _ rfl, rfl, rfl⟩, ⟨_, Heap.get?_push_of_some _ (R.sub _ _ h1), rfl, _, rfl⟩⟩)
        (own := ⟨_, Heap.get?_push_size _ rfl⟩)
        (obj := fun i h' st => by obtain ⟨o, e, _⟩ := st.1; exact ⟨o, e⟩)
        (stay := fun i h' h'' st k1 k2 => ⟨by obtain ⟨o, e, q⟩ := st.1; exact ⟨o, k1 o e, q⟩, ⟨_, k2 _ _ h1, rfl, _, rfl⟩⟩)
        (fps := fun b hb => by
          rcases List.mem_cons.mp hb with rfl | hb
          · exact .inl rfl
          · rw [List.mem_singleton.mp hb]; exact .inr ⟨_, h1⟩)
        (item := fun i v hi e => by
          have : vs.toList[i]? = some v := by rw [Array.getElem?_toList]; exact e
          obtain ⟨v', e1, e2⟩ := r.get (List.getElem?_eq_getElem hi)
          rw [this] at e1; cases e1
          exact ⟨_, List.getElem?_eq_getElem hi, e2⟩)))
    | @rng lo hi st a t u' v' h1 =>
      obtain ⟨⟨hs, hl1, hl2⟩, h⟩ := h
      have ir : IsRange s.heap a lo hi st t u' v' := R.sub _ _ h1
      have hlen : Builtin.Range.rangeSize lo hi st = ((rangeL lo hi st).length : Int) ∧ Builtin.Range.small lo hi st = true ∧ ∀ i, i < (rangeL lo hi st).length → (rangeL lo hi st)[i]? = some (.int (lo + (i : Nat) * st)) := by
        rw [lim_is] at hl1 hl2
        rcases hs with rfl | rfl
        · refine ⟨?_, small_one (by (first | omega | lia)) (by (first | omega | lia)) (by (first | omega | lia)) (by (first | omega | lia)), fun i hi => ?_⟩
          · rw [PyProof.Rows.rangeSize_nat]; simp [rangeL]
          · simp only [rangeL, if_true, List.length_map, List.length_range] at hi ⊢
            rw [List.getElem?_map, List.getElem?_range hi]; simp
        · refine ⟨?_, small_neg (by rw [lim_is]; exact hl1) (by rw [lim_is]; exact hl2), fun i hi => ?_⟩
          · rw [rangeSize_neg]; simp [rangeL]
          · have e1 : ¬ ((-1 : Int) = 1) := by decide
            simp only [rangeL, e1, if_false, List.length_map, List.length_range] at hi ⊢
            rw [List.getElem?_map, List.getElem?_range hi]
            simp only [Option.map_some, Option.some.injEq, PV.int.injEq]
            (first | omega | lia)
      obtain ⟨e1, e2, e3⟩ := hlen
      have W := Walks.range (prog := pw) (w := w) (A := A) hA s.heap.objs.size lo st (rangeL lo hi st).length
      refine wpAny_pyIter_range ir e2 (hq _ _ _ _ _ rfl h (IterAt.mk (walks := W)
        (start := by show IsRangeIter _ _ _ _ _; rw [e1]; simpa using Heap.get?_push_size _ rfl)
        (own := ⟨_, Heap.get?_push_size _ rfl⟩)
        (obj := fun i h' st => ⟨_, st⟩)
        (stay := fun i h' h'' st k1 k2 => k1 _ st)
        (fps := fun b hb => by rw [List.mem_singleton.mp hb]; exact .inl rfl)
        (item := fun i v hi e => by
          obtain ⟨t, rfl⟩ := e
          exact ⟨_, e3 i hi, .int _ _⟩)))
    | _ => exact h.elim
end
end Mine
end
section
open PySem PySem.W PyProof.Rows
set_option Elab.async false
set_option maxRecDepth 100000
namespace Mine

section
variable {K : Frag} {w : World} {B : Shared} {σ σ₁ : Sig} {φ φ₁ : Fz} {ρ ρ₁ : Rh} {s s₁ : Shared} {A : Around} {ce : CE} {env : Env} {L : Locs}

/-! ## the frame of a comprehension -/
theorem closureFor_go (env : Env) : ∀ (names : List (Str × NameKind)) (acc : List (Str × Addr)), (∀ y ∈ names, y.2 = .free → ∃ c, env.cells.lookup y.1 = some c) →
    ∃ cl, (forIn names acc (fun (x : Str × NameKind) cs => (if (x.2 == NameKind.free) = true then do let a ← cellOf env x.1; pure (ForInStep.yield ((x.1, a) :: cs)) else pure (ForInStep.yield cs) : Sem _)) = pure cl) ∧
      ∀ z, cl.lookup z = if (names.any fun y => y.1 == z && y.2 == .free) = true then env.cells.lookup z else acc.lookup z
  | [], acc, _ => ⟨acc, rfl, fun z => by simp⟩
  | (n, kd) :: r, acc, h => by
    rw [List.forIn_cons]
    by_cases hk : kd = .free
    · subst hk
      obtain ⟨c, hc⟩ := h _ (.head _) rfl
      obtain ⟨cl, e, hl⟩ := closureFor_go env r ((n, c) :: acc) fun y hy => h y (.tail _ hy)
      refine ⟨cl, ?_, fun z => ?_⟩
      · simp only [beq_self_eq_true, if_true]
        have : cellOf env n = pure c := by unfold cellOf; rw [hc]
        rw [this]
        exact e
      · rw [hl z]
        simp only [List.any_cons, beq_self_eq_true, Bool.and_true, Bool.or_eq_true]
        by_cases hz : n = z
        · subst hz
          simp [hc]
        · have h1 : (n == z) = false := beq_eq_false_iff_ne.mpr hz
          have h2 : (z == n) = false := beq_eq_false_iff_ne.mpr (Ne.symm hz)
          simp only [h1, Bool.false_eq_true, false_or, List.lookup_cons, h2]
    · obtain ⟨cl, e, hl⟩ := closureFor_go env r acc fun y hy => h y (.tail _ hy)
      have hb : (kd == NameKind.free) = false := beq_eq_false_iff_ne.mpr hk
      refine ⟨cl, ?_, fun z => ?_⟩
      · simp only [hb, Bool.false_eq_true, if_false]
        exact e
      · rw [hl z]
        simp only [List.any_cons, hb, Bool.and_false, Bool.false_or]
theorem closureFor_is (env : Env) (sc : Scope) (h : ∀ y ∈ sc.names, y.2 = .free → ∃ c, env.cells.lookup y.1 = some c) :
    ∃ cl, closureFor sc env = pure cl ∧ ∀ z, cl.lookup z = if (sc.names.any fun y => y.1 == z && y.2 == .free) = true then env.cells.lookup z else none := by
  obtain ⟨cl, e, hl⟩ := closureFor_go env sc.names [] h
  refine ⟨cl, ?_, fun z => by rw [hl z]; rfl⟩
  unfold closureFor
  have : (forIn sc.names ([] : List (Str × Addr)) fun x cs => (match x with
    | (name, kind) => (if (kind == NameKind.free) = true then do let a ← cellOf env name; pure (ForInStep.yield ((name, a) :: cs)) else pure (ForInStep.yield cs) : Sem _))) = pure cl := e
  show (forIn sc.names ([] : List (Str × Addr)) _ >>= fun cs => pure cs) = pure cl
  refine Eq.trans (congrArg (· >>= fun cs => pure cs) ?_) (pure_bind cl _)
  refine Eq.trans ?_ e
  rfl

theorem relabel_lookup (names : List (Str × NameKind)) (env : Env) (y : Str) : (names.map fun (x : Str × NameKind) => match x with | (n, k) => if (k == NameKind.free && env.scope.kind == ScopeKind.function && env.kindOf n == some NameKind.cell) = true then (n, NameKind.cell) else (n, k)).lookup y =
    (names.lookup y).map fun k => if (k == NameKind.free && env.scope.kind == ScopeKind.function && env.kindOf y == some NameKind.cell) = true then NameKind.cell else k := by
  induction names with
  | nil => rfl
  | cons x r ih =>
    obtain ⟨n, k⟩ := x
    simp only [List.map_cons]
    by_cases hy : y = n
    · subst hy
      by_cases hc : (k == NameKind.free && env.scope.kind == ScopeKind.function && env.kindOf y == some NameKind.cell) = true
      · rw [if_pos hc, List.lookup_cons_self, List.lookup_cons_self, Option.map_some, if_pos hc]
      · rw [if_neg hc, List.lookup_cons_self, List.lookup_cons_self, Option.map_some, if_neg hc]
    · have hb : (y == n) = false := beq_eq_false_iff_ne.mpr hy
      split <;> simp only [List.lookup_cons, hb] <;> exact ih
theorem compSlots_lookup {names : List (Str × NameKind)} {x : Str} : ∀ {sl : List (Str × (Nat × Bool))} {y : Str},
    ((sl.filter fun z => names.lookup z.1 == some .free && !(z.1 == x)).map fun z => (z.1, (z.2.1, true))).lookup y = if (names.lookup y == some .free && !(y == x)) = true then (sl.lookup y).map fun z => (z.1, true) else none
  | [], y => by simp
  | (n, p) :: r, y => by
    have ih := compSlots_lookup (names := names) (x := x) (sl := r) (y := y)
    by_cases hy : y = n
    · subst hy
      by_cases hc : (names.lookup y == some .free && !(y == x)) = true
      · rw [List.filter_cons, if_pos hc]
        simp [hc]
      · rw [List.filter_cons, if_neg hc, ih]
        simp only [hc, if_false]
        simp
    · have hb : (y == n) = false := beq_eq_false_iff_ne.mpr hy
      simp only [List.lookup_cons, hb]
      rw [← ih]
      by_cases hc : (names.lookup n == some .free && !(n == x)) = true
      · rw [List.filter_cons, if_pos hc]
        simp only [List.map_cons, List.lookup_cons, hb]
      · rw [List.filter_cons, if_neg hc]
theorem lookup_mem {α : Type} : ∀ {l : List (Str × α)} {x : Str} {v : α}, l.lookup x = some v → (x, v) ∈ l
  | [], _, _, h => by simp at h
  | (n, p) :: r, x, v, h => by
    by_cases hx : x = n
    · subst hx; simp at h; subst h; exact .head _
    · have hb : (x == n) = false := beq_eq_false_iff_ne.mpr hx
      rw [List.lookup_cons, hb] at h
      exact .tail _ (lookup_mem h)

structure CompOk (ce : CE) (sc : Scope) (x : Str) (slot : Nat) : Prop where
  kind : sc.kind = .function
  tgt : sc.names.lookup x = some .local
  nd : notDebug x = true
  names : ∀ y ∈ sc.names, y.2 ≠ .cell ∧ sc.names.lookup y.1 = some y.2 ∧ (y.2 = .free → ∃ i, ce.slots.lookup y.1 = some (i, true))
  slots : ∀ y ∈ ce.slots, y.2.1 ≠ slot
theorem compOk_of {ce : CE} {sc : Scope} {x : Str} {slot : Nat} (h : compOk ce sc x slot = true) : CompOk ce sc x slot := by
  unfold compOk at h
  simp only [Bool.and_eq_true, beq_iff_eq, List.all_eq_true, bne_iff_ne, ne_eq, Bool.or_eq_true] at h
  obtain ⟨⟨⟨⟨h1, h2⟩, h3⟩, h4⟩, h5⟩ := h
  refine ⟨h1, h2, h3, fun y hy => ?_, fun y hy => by simpa using h5 y hy⟩
  obtain ⟨⟨⟨a, b⟩, c⟩, d⟩ := h4 y hy
  refine ⟨a, c, fun e => ?_⟩
  rcases d with d | d
  · exact absurd e d
  · split at d
    · rename_i i bb q
      subst d
      exact ⟨i, q⟩
    · cases d

theorem closure_ok (C : CompOk ce sc x slot) (F : FrameOk ce env L φ ρ s.heap) : ∃ cl, closureFor sc env = pure cl ∧ ∀ z, cl.lookup z = if (sc.names.any fun y => y.1 == z && y.2 == .free) = true then env.cells.lookup z else none :=
  closureFor_is env sc fun y hy e => by
    obtain ⟨i, hi⟩ := (C.names y hy).2.2 e
    obtain ⟨c, hc, _⟩ := F.cells _ _ hi
    exact ⟨c, hc⟩

/-- the frame inside -/
theorem comp_frame {sc : Scope} {x : Str} {slot : Nat} {cl : List (Str × Addr)} {Cc : Addr} {m : Str → Option Value} {v : Value} {y : PV} {h : Heap} (C : CompOk ce sc x slot) (F : FrameOk ce env L φ ρ h)
    (hcl : ∀ z, cl.lookup z = if (sc.names.any fun y => y.1 == z && y.2 == .free) = true then env.cells.lookup z else none)
    (hC : h.Ns Cc m) (hm : m x = some v) (X : RV φ y v) (h1 : φ Cc = none) (h2 : ∀ p ∈ ρ, Cc ≠ p.2) (h3 : ∀ z i c, ce.slots.lookup z = some (i, true) → env.cells.lookup z = some c → c ≠ Cc) :
    FrameOk (compCE ce sc x slot) (compEnvC sc cl Cc env) (L.set slot (some (.p y))) φ ρ h := by
  have look : ∀ z i b, (compCE ce sc x slot).slots.lookup z = some (i, b) → (z = x ∧ i = slot ∧ b = false) ∨ (z ≠ x ∧ b = true ∧ sc.names.lookup z = some .free ∧ ce.slots.lookup z = some (i, true)) := by
    intro z i b e
    unfold compCE at e
    dsimp only at e
    by_cases hz : z = x
    · subst hz
      simp at e
      obtain ⟨rfl, rfl⟩ := e
      exact .inl ⟨rfl, rfl, rfl⟩
    · have hb : (z == x) = false := beq_eq_false_iff_ne.mpr hz
      rw [List.lookup_cons, hb] at e
      dsimp only at e
      rw [compSlots_lookup] at e
      split at e
      · rename_i q
        simp only [Bool.and_eq_true, beq_iff_eq] at q
        obtain ⟨⟨j, b'⟩, e1, e2⟩ := Option.map_eq_some_iff.mp e
        obtain ⟨k, hk⟩ := (C.names _ (lookup_mem q.1)).2.2 rfl
        rw [e1] at hk
        cases hk
        cases e2
        exact .inr ⟨hz, rfl, q.1, e1⟩
      · cases e
  have anyfree : ∀ z, sc.names.lookup z = some .free → (sc.names.any fun y => y.1 == z && y.2 == .free) = true := fun z e => List.any_eq_true.mpr ⟨_, lookup_mem e, by simp⟩
  refine ⟨C.kind, F.glob, F.blt, fun z i b e => ?_, fun z e => ?_, fun z z' i b c e e' => ?_, ⟨m, hC, fun z i u e e' => ?_⟩, ⟨h1, h2⟩, fun z i e => ?_, fun z z' c e e' => ?_, fun z c e => ?_⟩
  · show (relabel sc env).names.lookup z = _
    unfold relabel
    dsimp only
    rw [relabel_lookup]
    rcases look z i b e with ⟨rfl, rfl, rfl⟩ | ⟨h0, rfl, h4, h5⟩
    · rw [C.tgt]; rfl
    · rw [h4]
      have h6 := F.slots _ _ _ h5
      simp only [if_true] at h6
      simp [F.kind, h6]
  · show (relabel sc env).names.lookup z = _
    unfold relabel
    dsimp only
    rw [relabel_lookup]
    unfold compCE at e
    dsimp only at e
    rw [List.contains_iff_mem, List.mem_map] at e
    obtain ⟨q, hq, rfl⟩ := e
    obtain ⟨hq1, hq2⟩ := List.mem_filter.mp hq
    rw [(C.names q hq1).2.1, beq_iff_eq.mp hq2]
    rfl
  · rcases look z i b e with ⟨rfl, rfl, rfl⟩ | ⟨h0, rfl, h4, h5⟩
    · rcases look z' _ c e' with ⟨rfl, _, rfl⟩ | ⟨h0', rfl, h4', h5'⟩
      · rfl
      · exact absurd rfl (C.slots _ (lookup_mem h5'))
    · rcases look z' _ c e' with ⟨rfl, rfl, rfl⟩ | ⟨h0', rfl, h4', h5'⟩
      · exact absurd rfl (C.slots _ (lookup_mem h5))
      · exact F.inj _ _ _ _ _ h5 h5'
  · rcases look z i false e with ⟨rfl, rfl, _⟩ | ⟨_, q, _⟩
    · have : u = .p y := by
        rw [List.getElem?_set] at e'
        simp only [if_true] at e'
        split at e'
        · cases e'; rfl
        · cases e'
      subst this
      exact ⟨v, hm, .p X⟩
    · cases q
  · rcases look z i true e with ⟨_, _, q⟩ | ⟨h0, _, h4, h5⟩
    · cases q
    · refine F.cells_el h5 fun c c1 c2 c3 c4 ov _ _ c5 _ c6 => ?_
      refine ⟨c, ?_, c2, c3, h3 _ _ _ h5 c1, ov, c5, fun u e' => c6 u ?_⟩
      · show cl.lookup z = _
        rw [hcl, if_pos (anyfree z h4)]
        exact c1
      · rw [List.getElem?_set_ne (fun q => C.slots _ (lookup_mem h5) q.symm)] at e'
        exact e'
  · have key : ∀ z c, cl.lookup z = some c → env.cells.lookup z = some c := fun z c e => by
      rw [hcl] at e
      split at e
      · exact e
      · cases e
    exact F.apart _ _ _ (key _ _ e) (key _ _ e')
  · have e : cl.lookup z = some c := e
    rw [hcl] at e
    split at e
    · exact F.live z c e
    · cases e
end
end Mine
end
section
open PySem PySem.W PyProof.Rows
set_option Elab.async false
set_option maxRecDepth 100000
namespace Mine

section
variable {K : Frag} {w : World} {B : Shared} {σ σ₁ : Sig} {φ φ₁ : Fz} {ρ ρ₁ : Rh} {s s₁ : Shared} {A : Around} {ce : CE} {env : Env} {L : Locs}

theorem append_cell {l : Addr} {items : Array Value} {n : Nat} {x : Value} {Q : Value → Shared → Prop} (hl : s.heap.get? l = some { cls := .type "list", data := .seq items n })
    (hQ : ∀ h', h'.get? l = some { cls := .type "list", data := .seq (items.push x) (n + 1) } → Heap.SameBut l s.heap h' → Q .none { s with heap := h' }) (hsz : items.size ≤ sizeLine) :
    wpAny (model pw w) A (call (.builtin "list.append") [.ref l, x]) Q NoE s := by
  refine wpAny_call_entry slot_list_append ⟨_, hl, rfl⟩ entry_list_append ?_ (args_list_append _ _)
  show wpAny _ _ (updateSeq l (·.push x) >>= fun _ => ret .none) _ _ s
  refine wpAny_bind ?_
  refine wpAny_updateSeq hl rfl (wpAny_pure ⟨.none, rfl, hQ _ ?_ (Heap.SameBut.update ..)⟩)
  have := Heap.get?_update_self (Obj.mapSeq (·.push x)) hl (by rw [Obj.mapSeq_push_plain]; rfl)
  rw [Obj.mapSeq_push_plain] at this
  exact this

theorem compP_eq {body : PV → Sig → (PV → Sig → Prop) → Prop} : ∀ (xs : List PV) (σ : Sig) (k : List PV → Sig → Prop), compP body xs σ k = compIfP (fun _ σ k => k true σ) body xs σ k
  | [], _, _ => rfl
  | x :: xs, σ, k => by
    show body x σ (fun y σ₁ => compP body xs σ₁ fun ys σ₂ => k (y :: ys) σ₂) = body x σ (fun y σ₁ => compIfP _ body xs σ₁ fun ys σ₂ => k (y :: ys) σ₂)
    congr 1
    funext y σ₁
    exact compP_eq _ _ _

theorem Ext.off {h h₁ : Heap} (E : Ext φ ρ h φ₁ ρ₁ h₁) {a : Addr} {o : Obj} (e : h.get? a = some o) (f : φ a = none) (r : ∀ p ∈ ρ, a ≠ p.2) : h₁.get? a = some o ∧ φ₁ a = none ∧ ∀ p ∈ ρ₁, a ≠ p.2 := by
  refine ⟨E.keep a o e r, (E.fz a o e).trans f, ?_⟩
  obtain ⟨r2, rfl, hr⟩ := E.pre
  intro p hp
  rcases List.mem_append.mp hp with hp | hp
  · exact r p hp
  · rintro rfl; rw [hr p hp] at e; cases e
theorem ns_at {h : Heap} {a : Addr} {m : Str → Option Value} (x : h.Ns a m) : ∃ o, h.get? a = some o := let ⟨o, _, _, e, _⟩ := x; ⟨o, e⟩

theorem offs_ne {φ : Fz} {ρ : Rh} {a b : Addr} {o : Obj} (fa : φ a = none) (ra : ∀ p ∈ ρ, a ≠ p.2) (q : φ b = some o ∨ ∃ p ∈ ρ, p.2 = b) : b ≠ a := by
  rintro rfl
  rcases q with q | ⟨p, hp, q⟩
  · rw [fa] at q; cases q
  · exact ra p hp q.symm
theorem Ext.below {φ φ₁ : Fz} {ρ ρ₁ : Rh} {h₁ h h' : Heap} {I : Nat} (E : Ext φ₁ ρ₁ h₁ φ ρ h) (lt : ∀ (b : Nat) o, h₁.get? b = some o → @LT.lt Nat _ b I) (k : ∀ (b : Nat) o, @LT.lt Nat _ b I → h.get? b = some o → h'.get? b = some o) : Ext φ₁ ρ₁ h₁ φ ρ h' :=
  ⟨fun a o e => let ⟨o', e'⟩ := E.live a o e; ⟨o', k a o' (lt a o e) e'⟩, fun a o e n => k a o (lt a o e) (E.keep a o e n), E.fz, E.pre⟩
theorem not_new {φ : Fz} {ρ : Rh} {σ : Sig} {s : Shared} (R : Rel w B σ φ ρ s) {a : Addr} (ha : s.heap.get? a = none) : φ a = none ∧ ∀ p ∈ ρ, a ≠ p.2 := by
  constructor
  · cases e : φ a with
    | none => rfl
    | some o => rw [R.sub _ _ e] at ha; cases ha
  · rintro p hp rfl
    obtain ⟨i, hi, rfl⟩ := List.mem_iff_getElem.mp hp
    obtain ⟨o, ho⟩ := R.live (List.getElem?_eq_getElem hi)
    rw [ho] at ha; cases ha

/-- what holds between the turns of a comprehension -/
structure CI (w : World) (B : Shared) (φ₁ : Fz) (ρ₁ : Rh) (h₁ : Heap) (St : Nat → Heap → Prop) (I D Cc : Addr) (i : Nat) (s : Shared) (φ : Fz) (ρ : Rh) (σ : Sig) (ys : List PV) (vs : Array Value) (n : Nat) (m : Str → Option Value) : Prop where
  E : Ext φ₁ ρ₁ h₁ φ ρ s.heap
  R : Rel w B σ φ ρ s
  st : St i s.heap
  d : s.heap.get? D = some { cls := .type "list", data := .seq vs n }
  r : RVs φ ys vs.toList
  len : ys.length ≤ i
  fD : φ D = none ∧ ∀ p ∈ ρ, D ≠ p.2
  ns : s.heap.Ns Cc m
  fC : φ Cc = none ∧ ∀ p ∈ ρ, Cc ≠ p.2
  fI : φ I = none ∧ ∀ p ∈ ρ, I ≠ p.2

/-- the fixed places of a comprehension -/
structure CX (w : World) (A : Around) (φ₁ : Fz) (h₁ H1 : Heap) (xs : List PV) (fp : List Addr) (P : Nat → Value → Prop) (St : Nat → Heap → Prop) (I D Cc : Nat) : Prop where
  IA : IterAt w A φ₁ H1 I xs fp P St
  lt : ∀ (b : Nat) o, h₁.get? b = some o → @LT.lt Nat _ b I
  hD : D = I + 1
  hC : Cc = D + 1
theorem CX.ID {φ₁ : Fz} {h₁ H1 : Heap} {xs : List PV} {fp : List Addr} {P : Nat → Value → Prop} {St : Nat → Heap → Prop} {I D Cc : Nat} (X : CX w A φ₁ h₁ H1 xs fp P St I D Cc) : I ≠ D := by rw [X.hD]; exact Nat.ne_of_lt (Nat.lt_succ_self _)
theorem CX.DC {φ₁ : Fz} {h₁ H1 : Heap} {xs : List PV} {fp : List Addr} {P : Nat → Value → Prop} {St : Nat → Heap → Prop} {I D Cc : Nat} (X : CX w A φ₁ h₁ H1 xs fp P St I D Cc) : D ≠ Cc := by rw [X.hC]; exact Nat.ne_of_lt (Nat.lt_succ_self _)
theorem CX.lC {φ₁ : Fz} {h₁ H1 : Heap} {xs : List PV} {fp : List Addr} {P : Nat → Value → Prop} {St : Nat → Heap → Prop} {I D Cc : Nat} (X : CX w A φ₁ h₁ H1 xs fp P St I D Cc) : @LT.lt Nat _ I Cc := by rw [X.hC, X.hD]; exact Nat.lt_succ_of_lt (Nat.lt_succ_self _)
theorem CX.IC {φ₁ : Fz} {h₁ H1 : Heap} {xs : List PV} {fp : List Addr} {P : Nat → Value → Prop} {St : Nat → Heap → Prop} {I D Cc : Nat} (X : CX w A φ₁ h₁ H1 xs fp P St I D Cc) : I ≠ Cc := Nat.ne_of_lt X.lC

section
variable {h₁ H1 : Heap} {xs : List PV} {fp : List Addr} {P : Nat → Value → Prop} {St : Nat → Heap → Prop} {I D Cc : Nat} {i : Nat} {s' : Shared} {φ' : Fz} {ρ' : Rh} {σ' : Sig} {ys : List PV} {vs : Array Value} {n : Nat} {m : Str → Option Value}
/-- things happen that leave the places alone -/
theorem CI.on {s₅ : Shared} {φ₅ : Fz} {ρ₅ : Rh} {σ₅ : Sig} (X : CX w A φ₁ h₁ H1 xs fp P St I D Cc) (le1 : FzLe φ₁ φ') (c : CI w B φ₁ ρ₁ h₁ St I D Cc i s' φ' ρ' σ' ys vs n m) (E5 : Ext φ' ρ' s'.heap φ₅ ρ₅ s₅.heap) (R5 : Rel w B σ₅ φ₅ ρ₅ s₅) :
    CI w B φ₁ ρ₁ h₁ St I D Cc i s₅ φ₅ ρ₅ σ₅ ys vs n m := by
  obtain ⟨oI, hI⟩ := X.IA.obj _ _ c.st
  obtain ⟨oC, hC⟩ := ns_at c.ns
  have d := E5.off c.d c.fD.1 c.fD.2
  have i1 := E5.off hI c.fI.1 c.fI.2
  have c1 := E5.off hC c.fC.1 c.fC.2
  have le := Ext.le c.R E5
  exact ⟨c.E.trans E5, R5, X.IA.stay _ _ _ c.st (fun o e => by rw [hI] at e; cases e; exact i1.1) (fun b o e => R5.sub _ _ (le _ _ (le1 _ _ e))), d.1, c.r.mono le, c.len, d.2, c.ns.at' fun o e => by rw [hC] at e; cases e; exact c1.1, c1.2, i1.2⟩
/-- the iterator moves and the name is stored -/
theorem CI.step (X : CX w A φ₁ h₁ H1 xs fp P St I D Cc) (le1 : FzLe φ₁ φ') (c : CI w B φ₁ ρ₁ h₁ St I D Cc i s' φ' ρ' σ' ys vs n m) {h₂ h₄ : Heap} {tk : Nat} {m' : Str → Option Value} (st : St (i + 1) h₂) (k2 : ∀ b o, b ≠ I → s'.heap.get? b = some o → h₂.get? b = some o)
    (k4 : Heap.SameBut Cc h₂ h₄) (n4 : h₄.Ns Cc m') : CI w B φ₁ ρ₁ h₁ St I D Cc (i + 1) { s' with heap := h₄, toks := tk } φ' ρ' σ' ys vs n m' := by
  have e24 : ∀ b o, b ≠ I → b ≠ Cc → s'.heap.get? b = some o → h₄.get? b = some o := fun b o h1 h2 e => k4.extBut b o h2 (k2 b o h1 e)
  have kk : ∀ b o, s'.heap.get? b = some o → (φ' b = some o ∨ ∃ p ∈ ρ', p.2 = b) → h₄.get? b = some o := fun b o e q => e24 b o (offs_ne c.fI.1 c.fI.2 q) (offs_ne c.fC.1 c.fC.2 q) e
  exact ⟨c.E.below X.lt fun b o l e => e24 b o (Nat.ne_of_lt l) (Nat.ne_of_lt (Nat.lt_trans l X.lC)) e, c.R.heap kk, X.IA.stay (i + 1) h₂ h₄ st (fun o e => k4.extBut _ _ X.IC e) fun b o e => kk b o (c.R.sub _ _ (le1 _ _ e)) (.inl (le1 _ _ e)),
    e24 D _ (Ne.symm X.ID) X.DC c.d, c.r, Nat.le_succ_of_le c.len, c.fD, n4, c.fC, c.fI⟩
/-- an item more -/
theorem CI.item (X : CX w A φ₁ h₁ H1 xs fp P St I D Cc) (le1 : FzLe φ₁ φ') (c : CI w B φ₁ ρ₁ h₁ St I D Cc (i + 1) s' φ' ρ' σ' ys vs n m) (hl : ys.length ≤ i) {h' : Heap} {z : PV} {u : Value} (Z : RV φ' z u) (hd : h'.get? D = some { cls := .type "list", data := .seq (vs.push u) (n + 1) })
    (k : Heap.SameBut D s'.heap h') : CI w B φ₁ ρ₁ h₁ St I D Cc (i + 1) { s' with heap := h' } φ' ρ' σ' (ys ++ [z]) (vs.push u) (n + 1) m := by
  have kk : ∀ b o, s'.heap.get? b = some o → (φ' b = some o ∨ ∃ p ∈ ρ', p.2 = b) → h'.get? b = some o := fun b o e q => k.extBut b o (offs_ne c.fD.1 c.fD.2 q) e
  exact ⟨c.E.below X.lt fun b o l e => k.extBut b o (Nat.ne_of_lt (Nat.lt_trans l (by rw [X.hD]; exact Nat.lt_succ_self _))) e, c.R.heap kk, X.IA.stay _ _ _ c.st (fun o e => k.extBut _ _ X.ID e) fun b o e => kk b o (c.R.sub _ _ (le1 _ _ e)) (.inl (le1 _ _ e)),
    hd, by rw [Array.toList_push]; exact c.r.snoc Z, by rw [List.length_append]; exact Nat.succ_le_succ hl, c.fD, c.ns.sameBut k (Ne.symm X.DC), c.fC, c.fI⟩
end

inductive CS (w : World) (B : Shared) (test : PV → Sig → (Bool → Sig → Prop) → Prop) (body : PV → Sig → (PV → Sig → Prop) → Prop) (k : List PV → Sig → Prop) (xs : List PV) (φ₁ : Fz) (ρ₁ : Rh) (h₁ : Heap) (St : Nat → Heap → Prop) (I D Cc : Nat) (j : Nat) (s' : Shared) : Prop
  | mk (i : Nat) (φ' : Fz) (ρ' : Rh) (σ' : Sig) (ys : List PV) (vs : Array Value) (n : Nat) (m : Str → Option Value) (hi : i ≤ xs.length) (hj : j = xs.length - i) (c : CI w B φ₁ ρ₁ h₁ St I D Cc i s' φ' ρ' σ' ys vs n m)
      (h : compIfP test body (xs.drop i) σ' fun rest σ'' => k (ys ++ rest) σ'') : CS w B test body k xs φ₁ ρ₁ h₁ St I D Cc j s'
theorem ex3_el {α β γ : Type} {P Q R : α → β → γ → Prop} {G : Prop} (h : ∃ a b c, P a b c ∧ Q a b c ∧ R a b c) (g : ∀ a b c, P a b c → Q a b c → R a b c → G) : G := by
  obtain ⟨a, b, c, p, q, r⟩ := h
  exact g a b c p q r
theorem comp_loop {test : PV → Sig → (Bool → Sig → Prop) → Prop} {body : PV → Sig → (PV → Sig → Prop) → Prop} {k : List PV → Sig → Prop} {use : Option (Value → Sem Unit)} {Q : Value → Shared → Prop}
    {x : Str} {px : Pos} {slot : Nat} {elt' iter' : Expr} {ifs' : List Expr} {sc : Scope} {pos : Pos} {cl : List (Str × Addr)} {H1 : Heap} {xs : List PV} {fp : List Addr} {P : Nat → Value → Prop} {St : Nat → Heap → Prop} {I D Cc : Nat}
    (R1 : Rel w B σ₁ φ₁ ρ₁ s₁) (F1 : FrameOk ce env L φ₁ ρ₁ s₁.heap) (C : CompOk ce sc x slot) (hlk : ∀ z, cl.lookup z = if (sc.names.any fun y => y.1 == z && y.2 == .free) = true then env.cells.lookup z else none)
    (X : CX w A φ₁ s₁.heap H1 xs fp P St I D Cc) (hlen : xs.length ≤ lim)
    (ht : ∀ env' y σ' k', test y σ' k' → ∀ φ' ρ' s', Rel w B σ' φ' ρ' s' → FrameOk (compCE ce sc x slot) env' (L.set slot (some (.p y))) φ' ρ' s'.heap →
      wpAny (model pw w) A (forIn ifs' true fun c r => if r = true then do let ok ← isTrue c env' (eval c env'); pure (ForInStep.yield ok) else pure (ForInStep.yield r))
        (fun b s'' => ∃ φ'' ρ'' σ'', Ext φ' ρ' s'.heap φ'' ρ'' s''.heap ∧ Rel w B σ'' φ'' ρ'' s'' ∧ k' b σ'') NoE s')
    (hb : ∀ env' y σ' k', body y σ' k' → SemE w B A (compCE ce sc x slot) env' (eval elt' env') (L.set slot (some (.p y))) σ' fun v σ'' => asP v fun z => k' z σ'')
    (hE : ∀ s' φ' ρ' σ' ys vs n m, Ext φ₁ ρ₁ s₁.heap φ' ρ' s'.heap → Rel w B σ' φ' ρ' s' → s'.heap.get? D = some { cls := .type "list", data := .seq vs n } → RVs φ' ys vs.toList → (φ' D = none ∧ ∀ p ∈ ρ', D ≠ p.2) →
      s'.heap.Ns Cc m → (φ' Cc = none ∧ ∀ p ∈ ρ', Cc ≠ p.2) → k ys σ' → compPost (model pw w) A NoE use Q (.ref D) Cc (.ok .next) s')
    {s₃ : Shared} {n : Nat} {m : Str → Option Value} (c0 : CI w B φ₁ ρ₁ s₁.heap St I D Cc 0 s₃ φ₁ ρ₁ σ₁ [] #[] n m) (h0 : compIfP test body xs σ₁ k) :
    codeAny (model pw w) A (.compLoop (.ListComp elt' [⟨.Name x px, iter', ifs', 0⟩] sc pos) 0 (.ref I) (.ref D) (compEnvC sc cl Cc env)) (compPost (model pw w) A NoE use Q (.ref D) Cc) s₃ := by
  refine codeAny_compLoop_tests
    (CS w B test body k xs φ₁ ρ₁ s₁.heap St I D Cc) ?_ xs.length
    (.mk 0 φ₁ ρ₁ σ₁ [] #[] _ _ (Nat.zero_le _) rfl c0 h0)
  intro j s' hm
  refine CS.rec (fun i φ' ρ' σ' ys vs n m hi hj c hc' => ?_) hm
  subst hj
  have le1 : FzLe φ₁ φ' := Ext.le R1 c.E
  by_cases hlt : i < xs.length
  · refine X.IA.walks.item i _ _ _ hlt c.st fun v h₂ tk₂ hPv hst₂ hk₂ => ?_
    have hk2 : ∀ b o, b ≠ I → s'.heap.get? b = some o → h₂.get? b = some o := fun b o hb e => hk₂ b o (by simpa using hb) e
    obtain ⟨y, hy, Xy⟩ := X.IA.item i v hlt hPv
    refine wpAny_assign_Name (wpAny_storeName_local (lookup_relabel_local C.tgt) (c.ns.at' fun o e => hk2 _ o (Ne.symm X.IC) e) (fun h₄ hn₄ hs₄ => ?_) (by simp [compEnvC, relabel, C.kind]))
    have c4 := CI.step (tk := tk₂ + 1) X le1 c hst₂ hk2 hs₄ hn₄
    have FF : FrameOk ce env L φ' ρ' h₄ := F1.ext R1 c4.E
    have FC : FrameOk (compCE ce sc x slot) (compEnvC sc cl Cc env) (L.set slot (some (.p y))) φ' ρ' h₄ := by
      refine comp_frame C FF hlk hn₄ (v := v) (by simp) (Xy.mono le1) c.fC.1 c.fC.2 fun z i' a e' e => ?_
      obtain ⟨a', c1, _, _, _, ov, ⟨o, c5, _⟩, _⟩ := F1.cells z i' e'
      cases Option.some.inj (e.symm.trans c1)
      exact Nat.ne_of_lt (Nat.lt_trans (X.lt _ _ c5) X.lC)
    have hdrop : xs.drop i = y :: xs.drop (i + 1) := by
      rw [List.drop_eq_getElem_cons hlt]
      rw [List.getElem?_eq_getElem hlt] at hy
      cases hy; rfl
    rw [hdrop] at hc'
    have next : ∀ (s₅ : Shared) φ₅ ρ₅ σ₅ ys₅ vs₅ n₅ m₅, CI w B φ₁ ρ₁ s₁.heap St I D Cc (i + 1) s₅ φ₅ ρ₅ σ₅ ys₅ vs₅ n₅ m₅ → compIfP test body (xs.drop (i + 1)) σ₅ (fun rest σ'' => k (ys₅ ++ rest) σ'') →
        ∃ m', m' < xs.length - i ∧ CS w B test body k xs φ₁ ρ₁ s₁.heap St I D Cc m' s₅ :=
      fun s₅ φ₅ ρ₅ σ₅ ys₅ vs₅ n₅ m₅ a b => ⟨xs.length - (i + 1), Nat.sub_succ_lt_self _ _ hlt, .mk (i + 1) φ₅ ρ₅ σ₅ ys₅ vs₅ n₅ m₅ hlt rfl a b⟩
    refine wpAny_mono (ht _ y σ' _ hc' φ' ρ' _ c4.R FC) (fun b s₅ z => ex3_el z fun φ₅ ρ₅ σ₅ E5 R5 h5 => ?_) fun _ _ z => z.elim
    have c5 := c4.on X le1 E5 R5
    cases b with
    | false => exact next s₅ φ₅ ρ₅ σ₅ ys vs n _ c5 h5
    | true =>
      refine wpAny_mono (hb _ y σ₅ _ h5 φ₅ ρ₅ _ R5 (FC.ext c4.R E5)) (fun u s₆ z => z.el fun φ₆ ρ₆ σ₆ z E6 R6 X6 h6 => ?_) fun _ _ z => z.elim
      have le5 : FzLe φ₁ φ₅ := le1.trans (Ext.le c4.R E5)
      have c6 := c5.on X le5 E6 R6
      refine asP_el X6 h6 fun z' Xz h6 => ?_
      refine append_cell c6.d (fun h₇ hD₇ hs₇ => ?_) (by rw [← c.r.array, sizeLine_is]; have := c.len; rw [lim_is] at hlen; omega) |> fun z => wpAny_mono z (fun _ _ z => z) fun _ _ z => z.elim
      exact next { s₆ with heap := h₇ } φ₆ ρ₆ σ₆ (ys ++ [z']) _ _ _ (c6.item X (le5.trans (Ext.le R5 E6)) c.len Xz hD₇ hs₇) (by simpa only [List.append_assoc, List.singleton_append] using h6)
  · obtain rfl : i = xs.length := Nat.le_antisymm hi (Nat.not_lt.mp hlt)
    refine X.IA.walks.done _ _ _ c.st fun h₂ tk₂ hk₂ => ?_
    have hk2 : ∀ b o, b ≠ I → s'.heap.get? b = some o → h₂.get? b = some o := fun b o hb e => hk₂ b o (by simpa using hb) e
    rw [List.drop_length] at hc'
    exact hE { s' with heap := h₂, toks := tk₂ } φ' ρ' σ' ys vs n m (c.E.below X.lt fun b o l e => hk2 b o (Nat.ne_of_lt l) e) (c.R.heap fun b o e q => hk2 b o (offs_ne c.fI.1 c.fI.2 q) e) (hk2 _ _ (Ne.symm X.ID) c.d) c.r c.fD (c.ns.at' fun o e => hk2 _ o (Ne.symm X.IC) e) c.fC (by
      have : k (ys ++ []) σ' := hc'
      rwa [List.append_nil] at this)

theorem comp_core {test : PV → Sig → (Bool → Sig → Prop) → Prop} {body : PV → Sig → (PV → Sig → Prop) → Prop} {k : List PV → Sig → Prop} {use : Option (Value → Sem Unit)} {Q : Value → Shared → Prop} {E' : Value → Shared → Prop}
    {x : Str} {px fpos pos : Pos} {slot : Nat} {elt' iter' : Expr} {ifs' : List Expr} {sc : Scope}
    (hA : A.handled = none) (R : Rel w B σ φ ρ s) (F : FrameOk ce env L φ ρ s.heap) (C : CompOk ce sc x slot) (hns : notSet iter' = true)
    (hi : SemE w B A ce env (eval iter' env) L σ fun v σ₁ => items v fun xs => xs.length ≤ lim ∧ compIfP test body xs σ₁ k)
    (ht : ∀ env' y σ' k', test y σ' k' → ∀ φ' ρ' s', Rel w B σ' φ' ρ' s' → FrameOk (compCE ce sc x slot) env' (L.set slot (some (.p y))) φ' ρ' s'.heap →
      wpAny (model pw w) A (forIn ifs' true fun c r => if r = true then do let ok ← isTrue c env' (eval c env'); pure (ForInStep.yield ok) else pure (ForInStep.yield r))
        (fun b s'' => ∃ φ'' ρ'' σ'', Ext φ' ρ' s'.heap φ'' ρ'' s''.heap ∧ Rel w B σ'' φ'' ρ'' s'' ∧ k' b σ'') NoE s')
    (hb : ∀ env' y σ' k', body y σ' k' → SemE w B A (compCE ce sc x slot) env' (eval elt' env') (L.set slot (some (.p y))) σ' fun v σ'' => asP v fun z => k' z σ'')
    (hRR : ∀ D Cc s' φ' ρ' σ' ys vs n m, Ext φ ρ s.heap φ' ρ' s'.heap → Rel w B σ' φ' ρ' s' → s'.heap.get? D = some { cls := .type "list", data := .seq vs n } → RVs φ' ys vs.toList → φ' D = none → (∀ p ∈ ρ', D ≠ p.2) → s.heap.get? D = none →
      s'.heap.Ns Cc m → φ' Cc = none → (∀ p ∈ ρ', Cc ≠ p.2) → s.heap.get? Cc = none → D ≠ Cc → k ys σ' → compPost (model pw w) A NoE use Q (.ref D) Cc (.ok .next) s') :
    wpAny (model pw w) A (comprehension (.ListComp elt' [⟨.Name x px, iter', ifs', 0⟩] sc pos) sc env fpos (newList []) false (eval iter' env) use) Q NoE s := by
  obtain ⟨cl, hcl, hlk⟩ := closure_ok C F
  refine wpAny_comprehension_free (g := ⟨.Name x px, iter', ifs', 0⟩) (gs := []) rfl ?_ hcl C.kind (fun y hy e => by rw [(C.names y hy).2.1, e]) ?_
  · intro v
    show foldedSetIterable iter' env v = pure v
    unfold foldedSetIterable
    cases iter' <;> first | rfl | cases hns
  refine SemE.next hi R F fun xv s₁ φ₁ ρ₁ σ₁ xv' E1 R1 F1 X1 h1 => ?_
  refine pyIter_sound hA R1 X1 h1 fun oI xs fp P St hoI ⟨hlen, hcomp⟩ IA => ?_
  refine wpAny_newObj_type (wpAny_newFunctionEnv (fun y hy => (C.names y hy).1) (by intro y hy; simp at hy) (fun h₃ hns₃ hsb₃ => ?_) C.kind)
  dsimp only at hns₃ hsb₃ ⊢
  generalize hI : s₁.heap.objs.size = I at *
  have hh2 : (s₁.heap.push oI).objs.size = I + 1 := by rw [Heap.size_push, hI]
  generalize hH1 : s₁.heap.push oI = H1 at *
  generalize hD : H1.objs.size = D at *
  have hDI : D = I + 1 := hh2
  generalize hH2 : H1.push { cls := .type "list", dict := none, data := .seq ([] : List Value).toArray } = H2 at *
  have hCc : H2.objs.size = D + 1 := by rw [← hH2, Heap.size_push, hD]
  generalize hCe : H2.objs.size = Cc at *
  have old1 : ∀ b o, s₁.heap.get? b = some o → H1.get? b = some o := fun b o e => by rw [← hH1]; exact Heap.get?_push_of_some _ e
  have old2 : ∀ b o, H1.get? b = some o → H2.get? b = some o := fun b o e => by rw [← hH2]; exact Heap.get?_push_of_some _ e
  have old3 : ∀ (b : Nat) o, @LT.lt Nat _ b Cc → H2.get? b = some o → h₃.get? b = some o := fun b o hb e => hsb₃.extBut b o (Nat.ne_of_lt hb) (Heap.get?_push_of_some _ e)
  have lt1 : ∀ (b : Nat) o, s₁.heap.get? b = some o → @LT.lt Nat _ b I := fun b o e => by rw [← hI]; exact Heap.lt_size e
  have X : CX w A φ₁ s₁.heap H1 xs fp P St I D Cc := ⟨IA, lt1, hDI, hCc⟩
  have old : ∀ b o, s₁.heap.get? b = some o → h₃.get? b = some o := fun b o e => old3 b o (Nat.lt_trans (lt1 b o e) X.lC) (old2 _ _ (old1 _ _ e))
  have hIn : s₁.heap.get? I = none := none_of_size (by rw [hI]; exact Nat.le_refl _)
  have hDn : s₁.heap.get? D = none := none_of_size (by rw [hI, hDI]; exact Nat.le_succ _)
  have hCn : s₁.heap.get? Cc = none := none_of_size (by rw [hI]; exact Nat.le_of_lt X.lC)
  have st3 : St 0 h₃ := IA.stay 0 H1 h₃ IA.start (fun o e => old3 _ _ X.lC (old2 _ _ e)) (fun b o e => old _ _ (R1.sub _ _ e))
  have gone : ∀ a, s₁.heap.get? a = none → s.heap.get? a = none := fun a ha => by
    cases e : s.heap.get? a with
    | none => rfl
    | some o => obtain ⟨o', e'⟩ := E1.live _ _ e; rw [ha] at e'; cases e'
  have c0 : CI w B φ₁ ρ₁ s₁.heap St I D Cc 0 { s₁ with heap := h₃, toks := s₁.toks + ([] : List (Str × Value)).length } φ₁ ρ₁ σ₁ [] #[] 0 _ :=
    ⟨Ext.keeps old, R1.keeps old, st3, old3 _ _ (by rw [hCc]; exact Nat.lt_succ_self _) (by rw [← hH2, ← hD]; exact Heap.get?_push_size _ rfl), .nil, Nat.zero_le _, not_new R1 hDn, hns₃, not_new R1 hCn, not_new R1 hIn⟩
  have loop := comp_loop (elt' := elt') (iter' := iter') (px := px) (pos := pos) (use := use) (Q := Q) R1 F1 C hlk X hlen ht hb (fun s' φ' ρ' σ' ys vs n m a b c d e f g h => hRR D Cc s' φ' ρ' σ' ys vs n m (E1.trans a) b c d e.1 e.2 (gone _ hDn) f g.1 g.2 (gone _ hCn) X.DC h) c0 hcomp
  exact codeAny_compStart_list loop (IA.walks.self 0 _ _ _ st3 loop)
end
end Mine
end
section
open PySem PySem.W PyProof.Rows
set_option Elab.async false
set_option maxRecDepth 100000
namespace Mine

noncomputable def Own (env : Env) (a : Addr) : Prop := a = env.locals ∨ ∃ x, env.cells.lookup x = some a

/-- as Ext, within a def: the frame's own things change, and from the n₀-th on a place may move -/
structure ExtO (env : Env) (n₀ : Nat) (φ : Fz) (ρ : Rh) (h : Heap) (φ' : Fz) (ρ' : Rh) (h' : Heap) : Prop where
  live : ∀ a o, h.get? a = some o → ∃ o', h'.get? a = some o'
  keep : ∀ a o, h.get? a = some o → (∀ p ∈ ρ, a ≠ p.2) → ¬ Own env a → h'.get? a = some o
  fz : ∀ a o, h.get? a = some o → φ a ≠ none ∨ (∀ p ∈ ρ, a ≠ p.2) → φ' a = φ a
  pre : ∃ ρ₂, ρ' = ρ.take n₀ ++ ρ₂ ∧ ∀ p ∈ ρ₂, p ∈ ρ.drop n₀ ∨ h.get? p.2 = none
  len : n₀ ≤ ρ.length

section
variable {K : Frag} {w : World} {B : Shared} {σ σ₁ : Sig} {φ φ₁ φ₂ : Fz} {ρ ρ₁ ρ₂ : Rh} {s s₁ : Shared} {A : Around} {ce : CE} {env : Env} {L : Locs} {n₀ : Nat} {h h₁ h₂ : Heap}

theorem Ext.toO (E : Ext φ ρ h φ₁ ρ₁ h₁) (hn : n₀ ≤ ρ.length) : ExtO env n₀ φ ρ h φ₁ ρ₁ h₁ := by
  obtain ⟨r, e, hr⟩ := E.pre
  refine ⟨E.live, fun a o e n _ => E.keep a o e n, fun a o e _ => E.fz a o e, ⟨ρ.drop n₀ ++ r, by rw [e, ← List.append_assoc, List.take_append_drop], fun p hp => ?_⟩, hn⟩
  rcases List.mem_append.mp hp with hp | hp
  · exact .inl hp
  · exact .inr (hr p hp)
theorem ExtO.refl (hn : n₀ ≤ ρ.length) : ExtO env n₀ φ ρ h φ ρ h := (Ext.refl φ ρ h).toO hn
theorem ExtO.off (E : ExtO env n₀ φ ρ h φ₁ ρ₁ h₁) {a : Addr} {o : Obj} (e : h.get? a = some o) (f : φ a = none) (r : ∀ p ∈ ρ, a ≠ p.2) : φ₁ a = none ∧ ∀ p ∈ ρ₁, a ≠ p.2 := by
  refine ⟨(E.fz a o e (.inr r)).trans f, ?_⟩
  obtain ⟨r2, rfl, hr⟩ := E.pre
  intro p hp
  rcases List.mem_append.mp hp with hp | hp
  · exact r p (List.mem_of_mem_take hp)
  · rcases hr p hp with q | q
    · exact r p (List.mem_of_mem_drop q)
    · rintro rfl; rw [q] at e; cases e
theorem ExtO.notin (E : ExtO env n₀ φ ρ h φ₁ ρ₁ h₁) {a : Addr} {o : Obj} (e : h.get? a = some o) (r : ∀ p ∈ ρ, a ≠ p.2) : ∀ p ∈ ρ₁, a ≠ p.2 := by
  obtain ⟨r2, rfl, hr⟩ := E.pre
  intro p hp
  rcases List.mem_append.mp hp with hp | hp
  · exact r p (List.mem_of_mem_take hp)
  · rcases hr p hp with q | q
    · exact r p (List.mem_of_mem_drop q)
    · rintro rfl; rw [q] at e; cases e
theorem ExtO.trans (x : ExtO env n₀ φ ρ h φ₁ ρ₁ h₁) (y : ExtO env n₀ φ₁ ρ₁ h₁ φ₂ ρ₂ h₂) : ExtO env n₀ φ ρ h φ₂ ρ₂ h₂ := by
  obtain ⟨r1, e1, p1⟩ := x.pre
  obtain ⟨r2, e2, p2⟩ := y.pre
  have hl : (ρ.take n₀).length = n₀ := by rw [List.length_take]; exact Nat.min_eq_left x.len
  have ht : ρ₁.take n₀ = ρ.take n₀ := by rw [e1, List.take_append_of_le_length (Nat.le_of_eq hl.symm), List.take_take, Nat.min_self]
  have hd : ρ₁.drop n₀ = r1 := by rw [e1]; have := List.drop_left' (l₁ := ρ.take n₀) (l₂ := r1) hl; exact this
  refine ⟨fun a o e => ?_, fun a o e n w => ?_, fun a o e q => ?_, ⟨r2, by rw [e2, ht], fun p hp => ?_⟩, x.len⟩
  · obtain ⟨o', e'⟩ := x.live a o e; exact y.live a o' e'
  · exact y.keep a o (x.keep a o e n w) (x.notin e n) w
  · obtain ⟨o', e'⟩ := x.live a o e
    rw [y.fz a o' e' ?_, x.fz a o e q]
    rcases q with q | q
    · exact .inl (by rw [x.fz a o e (.inl q)]; exact q)
    · exact .inr (x.notin e q)
  · rcases p2 p hp with q | q
    · rw [hd] at q; exact p1 p q
    · refine .inr ?_
      cases e : h.get? p.2 with
      | none => rfl
      | some o => obtain ⟨o', e'⟩ := x.live _ _ e; rw [q] at e'; cases e'

theorem ExtO.le (R : Rel w B σ φ ρ s) (x : ExtO env n₀ φ ρ s.heap φ₁ ρ₁ h₁) : FzLe φ φ₁ := fun a o e => (x.fz a o (R.sub a o e) (.inl (by rw [e]; exact fun z => by cases z))).trans e

/-! ## a name is stored -/
/-- a store into one's own frame -/
theorem FrameOk.store (F : FrameOk ce env L φ ρ s.heap) (R : Rel w B σ φ ρ s) (hn : n₀ ≤ ρ.length) {x : Str} {i : Nat} {v : XV} {u : Value} {Q : Unit → Shared → Prop} (hx : slotIs ce x i = true) (X : RX φ ρ v u)
    (hq : ∀ h' tk, ExtO env n₀ φ ρ s.heap φ ρ h' → Rel w B σ φ ρ { s with heap := h', toks := tk } → FrameOk ce env (L.set i (some v)) φ ρ h' → Q () { s with heap := h', toks := tk }) :
    wpAny (model pw w) A (storeName env x u) Q NoE s := by
  unfold slotIs at hx
  rw [Bool.and_eq_true] at hx
  obtain ⟨h1, h2⟩ := hx
  have rel : ∀ {b : Addr} {h' : Heap} {tk : Nat}, Heap.SameBut b s.heap h' → φ b = none → (∀ p ∈ ρ, b ≠ p.2) → Rel w B σ φ ρ { s with heap := h', toks := tk } := fun hs a b => R.same hs.extBut a b
  have ext : ∀ {b : Addr} {h' : Heap}, Heap.SameBut b s.heap h' → Own env b → (∃ o, h'.get? b = some o) → ExtO env n₀ φ ρ s.heap φ ρ h' := fun {b h'} hs ho hl =>
    ⟨fun a o e => by
      by_cases q : a = b
      · subst q; exact hl
      · exact ⟨o, hs.extBut a o q e⟩, fun a o e _ no => hs.extBut a o (by rintro rfl; exact no ho) e, fun _ _ _ _ => rfl, ⟨ρ.drop n₀, (List.take_append_drop _ _).symm, fun p hp => .inl hp⟩, hn⟩
  split at h1
  · rename_i j bb hl
    have hj : i = j := by simpa using h1
    subst hj
    have hk := F.slots x i bb hl
    obtain ⟨m, n1, n2⟩ := F.ns
    cases bb with
    | false =>
      refine wpAny_storeName_local (by simpa using hk) n1 (fun h' hn' hs' => ?_) (by rw [F.kind]; rfl)
      have hL' : ∃ o, h'.get? env.locals = some o := ns_at hn'
      refine hq h' _ (ext hs' (.inl rfl) hL') (rel hs' F.locOff.1 F.locOff.2) ⟨F.kind, F.glob, F.blt, F.slots, F.globs, F.inj, ⟨_, hn', fun y i' v' e1 e2 => ?_⟩, F.locOff, fun y i' e1 => ?_, F.apart, fun y c e1 => ?_⟩
      · by_cases hy : y = x
        · subst hy
          rw [hl] at e1; cases e1
          rw [List.getElem?_set] at e2
          simp only [if_true] at e2
          split at e2
          · cases e2; exact ⟨u, by simp, X⟩
          · cases e2
        · have hi : i ≠ i' := by
            rintro rfl
            exact hy (F.inj _ _ _ _ _ e1 hl)
          rw [List.getElem?_set_ne hi] at e2
          obtain ⟨u', a, b⟩ := n2 y i' v' e1 e2
          exact ⟨u', by simp [hy, a], b⟩
      · refine F.cells_el e1 fun c c1 c2 c3 c4 ov o c5 _ c7 c6 => ?_
        refine ⟨c, c1, c2, c3, c4, ov, c7 _ (hs'.extBut _ _ c4 c5), fun v' e2 => ?_⟩
        have hi : i ≠ i' := by
          rintro rfl
          have := F.inj _ _ _ _ _ e1 hl
          subst this
          rw [hl] at e1; cases e1
        rw [List.getElem?_set_ne hi] at e2
        exact c6 v' e2
      · obtain ⟨o, h2⟩ := F.live y c e1
        by_cases q : c = env.locals
        · subst q; exact hL'
        · exact ⟨o, hs'.extBut _ _ q h2⟩
    | true =>
      refine F.cells_el hl fun c c1 c2 c3 c4 ov _ _ c5 _ c6 => ?_
      refine wpAny_storeName_cell F.kind (by simpa using hk) c1 c5 fun h' hc' hs' => ?_
      obtain ⟨oL, hoL⟩ := ns_at n1
      have hc'' : ∃ o, h'.get? c = some o := by obtain ⟨o, e, _⟩ := hc'; exact ⟨o, e⟩
      refine hq h' s.toks (ext hs' (.inr ⟨x, c1⟩) hc'') (rel hs' c2 c3) ⟨F.kind, F.glob, F.blt, F.slots, F.globs, F.inj, ⟨_, n1.sameBut hs' (Ne.symm c4), fun y i' v' e1 e2 => ?_⟩, F.locOff, fun y i' e1 => ?_, F.apart, fun y c' e1 => ?_⟩
      · have hi : i ≠ i' := by
          rintro rfl
          have := F.inj _ _ _ _ _ e1 hl
          subst this
          rw [hl] at e1; cases e1
        rw [List.getElem?_set_ne hi] at e2
        exact n2 y i' v' e1 e2
      · by_cases hy : y = x
        · subst hy
          rw [hl] at e1; cases e1
          refine ⟨c, c1, c2, c3, c4, _, hc', fun v' e2 => ?_⟩
          rw [List.getElem?_set] at e2
          simp only [if_true] at e2
          split at e2
          · cases e2; exact ⟨u, rfl, X⟩
          · cases e2
        · refine F.cells_el e1 fun d d1 d2 d3 d4 ov' o d5 _ d7 d6 => ?_
          have hcd : d ≠ c := by
            rintro rfl
            exact hy (F.apart _ _ _ d1 c1)
          refine ⟨d, d1, d2, d3, d4, ov', d7 _ (hs'.extBut _ _ hcd d5), fun v' e2 => ?_⟩
          have hi : i ≠ i' := by
            rintro rfl
            exact hy (F.inj _ _ _ _ _ e1 hl)
          rw [List.getElem?_set_ne hi] at e2
          exact d6 v' e2
      · obtain ⟨o, h2⟩ := F.live y c' e1
        by_cases q : c' = c
        · subst q; exact hc''
        · exact ⟨o, hs'.extBut _ _ q h2⟩
  · cases h1

/-! ## what stands behind a statement -/
noncomputable def PostS (w : World) (B : Shared) (ce : CE) (env : Env) (n₀ : Nat) (φ : Fz) (ρ : Rh) (s : Shared) (k : Fl → Locs → Sig → Prop) : Flow → Shared → Prop := fun f s' => match f with
  | .next => ∃ φ' ρ' σ' L', ExtO env n₀ φ ρ s.heap φ' ρ' s'.heap ∧ Rel w B σ' φ' ρ' s' ∧ FrameOk ce env L' φ' ρ' s'.heap ∧ k .next L' σ'
  | .ret v => ∃ φ' ρ' σ' L' x, ExtO env n₀ φ ρ s.heap φ' ρ' s'.heap ∧ Rel w B σ' φ' ρ' s' ∧ RX φ' ρ' x v ∧ k (.ret x) L' σ'
  | _ => False
theorem PostS.next_el {k : Fl → Locs → Sig → Prop} {s' : Shared} {G : Prop} (h : PostS w B ce env n₀ φ ρ s k .next s') (g : ∀ φ' ρ' σ' L', ExtO env n₀ φ ρ s.heap φ' ρ' s'.heap → Rel w B σ' φ' ρ' s' → FrameOk ce env L' φ' ρ' s'.heap → k .next L' σ' → G) : G := by
  obtain ⟨φ', ρ', σ', L', a, b, c, d⟩ := h
  exact g φ' ρ' σ' L' a b c d
theorem PostS.ret_el {k : Fl → Locs → Sig → Prop} {v : Value} {s' : Shared} {G : Prop} (h : PostS w B ce env n₀ φ ρ s k (.ret v) s') (g : ∀ φ' ρ' σ' L' x, ExtO env n₀ φ ρ s.heap φ' ρ' s'.heap → Rel w B σ' φ' ρ' s' → RX φ' ρ' x v → k (.ret x) L' σ' → G) : G := by
  obtain ⟨φ', ρ', σ', L', x, a, b, c, d⟩ := h
  exact g φ' ρ' σ' L' x a b c d
theorem PostS.trans {k : Fl → Locs → Sig → Prop} (E : ExtO env n₀ φ ρ s.heap φ₁ ρ₁ s₁.heap) {f : Flow} {s' : Shared} (h : PostS w B ce env n₀ φ₁ ρ₁ s₁ k f s') : PostS w B ce env n₀ φ ρ s k f s' := by
  cases f with
  | next => exact h.next_el fun φ' ρ' σ' L' a b c d => ⟨φ', ρ', σ', L', E.trans a, b, c, d⟩
  | ret v => exact h.ret_el fun φ' ρ' σ' L' x a b c d => ⟨φ', ρ', σ', L', x, E.trans a, b, c, d⟩
  | brk => exact h.elim
  | cont => exact h.elim
noncomputable def SemS (w : World) (B : Shared) (A : Around) (ce : CE) (env : Env) (n₀ : Nat) (t : Sem Flow) (L : Locs) (σ : Sig) (k : Fl → Locs → Sig → Prop) : Prop :=
  ∀ φ ρ s, Rel w B σ φ ρ s → FrameOk ce env L φ ρ s.heap → n₀ ≤ ρ.length → wpAny (model pw w) A t (PostS w B ce env n₀ φ ρ s k) NoE s
theorem PostS.next (R : Rel w B σ₁ φ₁ ρ₁ s₁) (F : FrameOk ce env L φ₁ ρ₁ s₁.heap) (E : ExtO env n₀ φ ρ s.heap φ₁ ρ₁ s₁.heap) {k : Fl → Locs → Sig → Prop} (h : k .next L σ₁) : PostS w B ce env n₀ φ ρ s k .next s₁ := ⟨_, _, _, _, E, R, F, h⟩
theorem ExtO.len' (x : ExtO env n₀ φ ρ h φ₁ ρ₁ h₁) : n₀ ≤ ρ₁.length := by
  obtain ⟨r, e, _⟩ := x.pre
  rw [e, List.length_append, List.length_take]
  have := x.len
  (first | lia | omega)
end
end Mine
end
section
open PySem PySem.W PyProof.Rows Builtin Builtin.ObjectAttr
set_option Elab.async false
set_option maxRecDepth 100000
namespace Mine

/-! ## arguments -/
theorem lookup_zip_isSome : ∀ {ns : List Str} {vs : List Value}, ns.length = vs.length → ∀ n ∈ ns, ((ns.zip vs).lookup n).isSome = true
  | [], _, _, n, h => by cases h
  | m :: ns, [], h, _, _ => by cases h
  | m :: ns, v :: vs, h, n, hn => by
    by_cases e : n = m
    · subst e; simp
    · have hb : (n == m) = false := beq_eq_false_iff_ne.mpr e
      rw [List.zip_cons_cons, List.lookup_cons, hb]
      exact lookup_zip_isSome (Nat.succ.inj h) n (by simpa [e] using hn)
theorem filterMap_zip : ∀ {ns : List Str} {vs : List Value}, ns.Nodup → ns.length = vs.length → ns.filterMap (fun n => ((ns.zip vs).lookup n).map (n, ·)) = ns.zip vs
  | [], [], _, _ => rfl
  | [], _ :: _, _, h => by cases h
  | _ :: _, [], _, h => by cases h
  | m :: ns, v :: vs, nd, h => by
    have ih := filterMap_zip (List.nodup_cons.mp nd).2 (Nat.succ.inj h)
    rw [List.zip_cons_cons, List.filterMap_cons, List.lookup_cons_self, Option.map_some]
    dsimp only
    congr 1
    refine Eq.trans ?_ ih
    have key : ∀ l : List Str, (∀ n ∈ l, n ≠ m) → l.filterMap (fun n => (List.lookup n ((m, v) :: ns.zip vs)).map (n, ·)) = l.filterMap (fun n => ((ns.zip vs).lookup n).map (n, ·)) := by
      intro l
      induction l with
      | nil => intro _; rfl
      | cons x l ih2 =>
        intro hl
        rw [List.filterMap_cons, List.filterMap_cons, ih2 fun n hn => hl n (.tail _ hn), List.lookup_cons, beq_eq_false_iff_ne.mpr (hl x (.head _))]
    exact key ns fun n hn e => (List.nodup_cons.mp nd).1 (e ▸ hn)

theorem bind_plain {fd : FuncData} {as : List Arg} {vals : List Value} (hp : fd.params = ⟨[], as, Option.none, [], [], Option.none, []⟩) (hd : fd.defaults = .none) (nd : (as.map (·.arg)).Nodup) (hl : as.length = vals.length) :
    bindArgs fd ⟨vals, []⟩ = pure ((as.map (·.arg)).zip vals) := by
  unfold bindArgs
  rw [hp, hd]
  have hl' : (as.map (·.arg)).length = vals.length := by simpa using hl
  have hm : ((as.map (·.arg)).filter fun n => (((as.map (·.arg)).zip vals).lookup n).isNone) = [] := by
    rw [List.filter_eq_nil_iff]
    intro n hn
    have := lookup_zip_isSome hl' n hn
    rw [Option.isNone_iff_eq_none]
    intro e; rw [e] at this; cases this
  have hf := filterMap_zip nd hl'
  have hs : seqItems? Value.none = pure Option.none := rfl
  rw [hs]
  simp only [List.map_nil, List.nil_append, List.append_nil, List.forIn_nil, pure_bind, Option.getD_none, Array.toList_empty, List.length_nil, Nat.sub_zero, Nat.zero_sub, List.drop_nil, List.length_map, hl, Nat.lt_irrefl,
    gt_iff_lt, decide_false, Bool.false_and, Bool.false_eq_true, if_false, List.isEmpty_nil, Bool.not_true, List.zip_nil_right]
  rw [← hl, show (as.map (·.arg)).take as.length = as.map (·.arg) from List.take_of_length_le (by simp), hm]
  simp only [List.isEmpty_nil, Bool.not_true, Bool.false_eq_true, if_false, pure_bind]
  rw [hf]

/-! ## a field is stored -/
theorem putL_new {name : Str} {hsh : Int} {t : Tok} {v : Value} {ns es vs} (E : Ents ns es vs) (h : name ∉ ns) : Ents (ns ++ [name]) (putL name hsh (.str name t) v es) (vs ++ [v]) := by
  induction E with
  | nil => exact .cons .nil
  | @cons m ns hs t' v' es vs r ih =>
    have hne : m ≠ name := by rintro rfl; exact h (.head _)
    have hb : (Value.str m t').isStr name = false := by rw [isStr_lit]; exact beq_eq_false_iff_ne.mpr hne
    unfold putL
    simp only [hb, Bool.false_eq_true, if_false]
    exact .cons (ih fun q => h (.tail _ q))
theorem putL_old {name : Str} {hsh : Int} {t : Tok} {v : Value} {ns es vs} (E : Ents ns es vs) : ∀ {j : Nat}, ns.Nodup → ns[j]? = some name → Ents ns (putL name hsh (.str name t) v es) (vs.set j v) := by
  induction E with
  | nil => intro j _ h; cases h
  | @cons m ns hs t' v' es vs r ih =>
    intro j nd h
    cases j with
    | zero =>
      cases h
      have hb : (Value.str name t').isStr name = true := by rw [isStr_lit]; exact beq_self_eq_true _
      unfold putL
      simp only [hb, if_true]
      exact .cons r
    | succ j =>
      have e : ns[j]? = some name := h
      have hne : m ≠ name := by rintro rfl; exact (List.nodup_cons.mp nd).1 (List.mem_of_getElem? e)
      have hb : (Value.str m t').isStr name = false := by rw [isStr_lit]; exact beq_eq_false_iff_ne.mpr hne
      unfold putL
      simp only [hb, Bool.false_eq_true, if_false]
      exact .cons (ih (List.nodup_cons.mp nd).2 e)
section
variable {K : Frag} {w : World} {B : Shared} {σ σ₁ : Sig} {φ φ₁ : Fz} {ρ ρ₁ : Rh} {s s₁ : Shared} {A : Around} {ce : CE} {env : Env} {L : Locs} {n₀ : Nat}

theorem setA {c a : Nat} {x d : Addr} {es : List DictEntry} {n : Nat} {v : Value} {Q : Unit → Shared → Prop} (b : Base K w B) (R : Rel w B σ φ ρ s) (hx : s.heap.get? x = some (instObj (clsAddr c) d)) (hd : s.heap.get? d = some (dictOf es n)) (hc : c < 15)
    (hf : findIn K (.ref (clsAddr c)) (attrName a) = some none) {ns : List Str} {vs : List Value} (E : Ents ns es vs) (hz : ns.length ≤ 100)
    (h : ∀ h' es' n' tk hsh t, h'.get? d = some (dictOf es' n') → Heap.SameBut d s.heap h' → es' = putL (attrName a) hsh (.str (attrName a) t) v es → Q () { s with heap := h', toks := tk }) :
    wpAny (model pw w) A (setAttr (.ref x) (attrName a) v) Q NoE s := by
  have F := b.facts.clsF hc
  have I : InstAt s.heap x (instObj (clsAddr c) d) (clsAddr c) (some (dictOf es n)) := ⟨hx, rfl, rfl, hd⟩
  have X := b.now R
  refine set_plain X I F.sa (osa_open (s := { s with toks := s.toks + 1 }) X I F.po (r := none) (by unfold takerIn; rw [hf]; rfl) fun bb => ?_)
  obtain ⟨cd, hcl, hdict⟩ := any_some F.hd
  have Lc := looks_clsIn (M := model pw w) X hcl
  have D' := hd
  show wpAny (model pw w) A.in1 (storeInOwnDict (.ref x) (.ref (clsAddr c)) _ (attrName a) v bb) _ _ _
  refine wpAny_bind (wpAny_pure (wpAny_bind (wpAny_bind (wpAny_loadPart hx (wpAny_bind (Lc.at ?_))))))
  rw [hdict]
  refine wpAny_pure (a := some d) (wpAny_bind (wpAny_pure (wpAny_bind ?_)))
  unfold nsSet
  refine wpAny_bind (wpAny_bind (wpAny_askSetting (wpAny_pure (wpAny_bind (wpAny_mkText (wpAny_bind (wpAny_loadPart D' ?_)))))))
  dsimp only
  have nokeys : (!es.toArray.any (·.key.isStr (attrName a)) && es.toArray.any (·.refKey)) = false := by
    rw [show es.toArray.any (·.refKey) = es.any (·.refKey) by simp, E.keys, Bool.and_false]
  rw [aRefKeyMayBeTheName_at, nokeys]
  refine wpAny_updatePart D' ?_
  have new : ∀ hsh tk, (s.heap.update d (Obj.putName (attrName a) hsh (.str (attrName a) tk) v)).get? d = some (dictOf (putL (attrName a) hsh (.str (attrName a) tk) v es) (putN (attrName a) es n)) := fun hsh tk => by
    have := Heap.get?_update_self (Obj.putName (attrName a) hsh (.str (attrName a) tk) v) D' (by rw [putName_dict]; rfl)
    rw [putName_dict] at this
    exact this
  have small : ∀ hsh tk, (putL (attrName a) hsh (.str (attrName a) tk) v es).length ≤ 101 := fun hsh tk => by
    have h0 := E.length.2
    have : ∀ l : List DictEntry, (putL (attrName a) hsh (.str (attrName a) tk) v l).length ≤ l.length + 1 := by
      intro l
      induction l with
      | nil => simp [putL]
      | cons e r ih => unfold putL; split <;> simp <;> (first | lia | omega)
    have := this es
    (first | lia | omega)
  refine wpAny_bind (wpAny_lookBehind (new _ _) (pastItsLine_dict (by rw [List.size_toArray, sizeLine_eq]; have := small (PyData.keyHash (model pw w).w.params (attrName a)) (s.toks + 1); exact Nat.le_trans this (by (first | lia | omega)))) ?_)
  exact wpAny_pure (h _ _ _ _ _ _ (new _ _) (Heap.SameBut.update ..) rfl)
end
end Mine
end
section
open PySem PySem.W PyProof.Rows Builtin Builtin.ObjectAttr
set_option Elab.async false
set_option maxRecDepth 100000
namespace Mine

section
variable {K : Frag} {w : World} {B : Shared} {σ σ₁ : Sig} {φ φ₁ : Fz} {ρ ρ₁ : Rh} {s s₁ : Shared} {A : Around} {ce : CE} {env : Env} {L : Locs} {n₀ : Nat}

theorem setAttr_sound {i c a j : Nat} {fs : List XV} {v : XV} {uo u : Value} {Q : Unit → Shared → Prop} (b : Base K w B) (R : Rel w B σ φ ρ s) (Xo : RX φ ρ (.c i) uo) (hi : σ[i]? = some (.inst c fs)) (ha : attrOf c a = .field j) (hj : j ≤ fs.length) (X : RX φ ρ v u)
    (hq : ∀ h' tk, Rel w B (σ.set i (.inst c (if j < fs.length then fs.set j v else fs ++ [v]))) φ ρ { s with heap := h', toks := tk } → Ext φ ρ s.heap φ ρ h' → Q () { s with heap := h', toks := tk }) :
    wpAny (model pw w) A (setAttr uo (attrName a) u) Q NoE s := by
  obtain ⟨hc, haa⟩ := attrOf_lt (c := c) (a := a) (by rw [ha]; exact fun z => by cases z)
  have ok := b.facts.attr c hc a haa
  unfold attrOk at ok
  rw [ha] at ok
  simp only [Bool.and_eq_true, beq_iff_eq] at ok
  refine Xo.c_of fun x d e1 => ?_
  · refine R.cellInst_el e1 hi fun h1 es n vs h2 h3 h4 h5 => ?_
    have hjn : j < (fldNames c).length := (List.getElem?_eq_some_iff.mp ok.2).1
    have h100 : ∀ c, c < 15 → (fldNames c).length ≤ 100 := by decide
    have hz : ((fldNames c).take fs.length).length ≤ 100 := by
      rw [List.length_take]; exact Nat.le_trans (Nat.min_le_right _ _) (h100 c hc)
    refine setA b R (R.sub _ _ h1) h2 hc ok.1 h4 hz fun h' es' n' tk hsh t g1 g2 g3 => ?_
    have hl5 := h5.length
    have C : CellAt w φ ρ h' (.inst c (if j < fs.length then fs.set j v else fs ++ [v])) (x, d) := by
      by_cases hlt : j < fs.length
      · rw [if_pos hlt]
        refine ⟨h1, es', n', vs.set j u, g1, by rw [List.length_set]; exact h3, ?_, h5.set j X⟩
        rw [List.length_set, g3]
        exact putL_old h4 ((List.take_sublist _ _).nodup (fld_nodup c hc)) (by rw [List.getElem?_take_of_lt hlt]; exact ok.2)
      · have e : j = fs.length := by (first | lia | omega)
        subst e
        rw [if_neg hlt]
        refine ⟨h1, es', n', vs ++ [u], g1, by rw [List.length_append]; exact hjn, ?_, h5.snoc X⟩
        rw [List.length_append, List.length_singleton, List.take_add_one, ok.2, g3]
        refine putL_new h4 ?_
        have nd := fld_nodup c hc
        rw [← List.take_append_drop (fs.length) (fldNames c)] at nd
        rw [List.nodup_append] at nd
        intro hm
        exact nd.2.2 _ hm (attrName a) (by
          rw [List.mem_drop_iff_getElem]
          exact ⟨0, by (first | lia | omega), by
            have := (List.getElem?_eq_some_iff.mp ok.2).2
            simpa using this⟩) rfl
    exact hq h' tk (R.setCell e1 g2 C) (Ext.setCell (List.mem_of_getElem? e1) g2 ⟨_, g1⟩)

/-! ## the frame of a call -/
theorem slots_ge : ∀ {names : List (Str × NameKind)} {n : Nat} {x : Str} {i : Nat} {bb : Bool}, (slotsFrom n names).lookup x = some (i, bb) → n ≤ i ∧ (x, if bb then NameKind.cell else NameKind.local) ∈ names
  | [], _, _, _, _, h => by simp [slotsFrom] at h
  | (y, k) :: r, n, x, i, bb, h => by
    have step : ∀ {m : Nat}, n ≤ m → (slotsFrom m r).lookup x = some (i, bb) → n ≤ i ∧ (x, if bb then NameKind.cell else NameKind.local) ∈ (y, k) :: r := fun hm e => ⟨Nat.le_trans hm (slots_ge e).1, .tail _ (slots_ge e).2⟩
    unfold slotsFrom at h
    split at h
    · by_cases e : x = y
      · subst e; rw [List.lookup_cons_self] at h; cases h; exact ⟨Nat.le_refl _, .head _⟩
      · rw [List.lookup_cons, beq_eq_false_iff_ne.mpr e] at h; exact step (Nat.le_succ _) h
    · by_cases e : x = y
      · subst e; rw [List.lookup_cons_self] at h; cases h; exact ⟨Nat.le_refl _, .head _⟩
      · rw [List.lookup_cons, beq_eq_false_iff_ne.mpr e] at h; exact step (Nat.le_succ _) h
    · exact step (Nat.le_refl _) h
theorem slots_inj : ∀ {names : List (Str × NameKind)} {n : Nat} {x y : Str} {i : Nat} {b c : Bool}, (slotsFrom n names).lookup x = some (i, b) → (slotsFrom n names).lookup y = some (i, c) → x = y
  | [], _, _, _, _, _, _, h, _ => by simp [slotsFrom] at h
  | (z, k) :: r, n, x, y, i, b, c, h, h' => by
    have step : ∀ {bb : Bool}, ((z, (n, bb)) :: slotsFrom (n + 1) r).lookup x = some (i, b) → ((z, (n, bb)) :: slotsFrom (n + 1) r).lookup y = some (i, c) → x = y := by
      intro bb h h'
      by_cases e : x = z
      · subst e
        rw [List.lookup_cons_self] at h; cases h
        by_cases e' : y = x
        · exact e'.symm
        · rw [List.lookup_cons, beq_eq_false_iff_ne.mpr e'] at h'
          have := (slots_ge h').1; (first | lia | omega)
      · rw [List.lookup_cons, beq_eq_false_iff_ne.mpr e] at h
        by_cases e' : y = z
        · subst e'
          rw [List.lookup_cons_self] at h'; cases h'
          have := (slots_ge h).1; (first | lia | omega)
        · rw [List.lookup_cons, beq_eq_false_iff_ne.mpr e'] at h'
          exact slots_inj h h'
    unfold slotsFrom at h h'
    cases k with
    | «local» => exact step h h'
    | cell => exact step h h'
    | _ => exact slots_inj h h'
theorem slots_first : ∀ {names : List (Str × NameKind)} {n np j : Nat} {x : Str} {k : NameKind}, (∀ y ∈ names.take np, y.2 = .local ∨ y.2 = .cell) → (names.map (·.1)).Nodup → j < np → names[j]? = some (x, k) → ∃ b, (slotsFrom n names).lookup x = some (n + j, b)
  | [], _, _, _, _, _, _, _, _, h => by simp at h
  | (y, k') :: r, n, 0, j, x, k, _, _, hj, _ => by (first | lia | omega)
  | (y, k') :: r, n, np + 1, 0, x, k, ha, nd, hj, h => by
    have e : (y, k') = (x, k) := by simpa using h
    cases e
    rcases ha _ (.head _) with q | q <;> (dsimp only at q; subst q; exact ⟨_, by unfold slotsFrom; rw [List.lookup_cons_self]; rfl⟩)
  | (y, k') :: r, n, np + 1, j + 1, x, k, ha, nd, hj, h => by
    have h' : r[j]? = some (x, k) := by simpa using h
    obtain ⟨b, e⟩ := slots_first (n := n + 1) (np := np) (fun z hz => ha z (.tail _ hz)) (List.nodup_cons.mp nd).2 (by (first | lia | omega)) h'
    have hne : x ≠ y := by
      rintro rfl
      exact (List.nodup_cons.mp nd).1 (List.mem_map.mpr ⟨_, List.mem_of_getElem? h', rfl⟩)
    refine ⟨b, ?_⟩
    rcases ha _ (.head _) with q | q <;> (dsimp only at q; subst q; unfold slotsFrom; rw [List.lookup_cons, beq_eq_false_iff_ne.mpr hne, show n + (j + 1) = n + 1 + j by (first | lia | omega)]; exact e)
theorem lookup_nodup {α : Type} : ∀ {l : List (Str × α)} {x : Str} {v : α}, (l.map (·.1)).Nodup → (x, v) ∈ l → l.lookup x = some v
  | [], _, _, _, h => by cases h
  | (y, u) :: r, x, v, nd, h => by
    rcases List.mem_cons.mp h with e | h
    · cases e; exact List.lookup_cons_self
    · have hne : x ≠ y := by
        intro q
        exact (List.nodup_cons.mp nd).1 (List.mem_map.mpr ⟨_, h, q⟩)
      rw [List.lookup_cons, beq_eq_false_iff_ne.mpr hne]
      exact lookup_nodup (List.nodup_cons.mp nd).2 h
theorem bindL_miss {kf : Str → Option NameKind} {x : Str} : ∀ {ns : List Str} {vs : List Value} {m : Str → Option Value}, x ∉ ns → bindL kf (ns.zip vs) m x = m x
  | [], _, _, _ => rfl
  | _ :: _, [], _, _ => rfl
  | n :: ns, v :: vs, m, h => by
    rw [List.zip_cons_cons]
    unfold bindL
    rw [bindL_miss fun q => h (.tail _ q)]
    have hne : x ≠ n := by rintro rfl; exact h (.head _)
    split
    · simp [hne]
    · rfl
theorem bindC_miss {kf : Str → Option NameKind} {x : Str} : ∀ {ns : List Str} {vs : List Value} {m : Str → Option Value}, x ∉ ns → bindC kf (ns.zip vs) m x = m x
  | [], _, _, _ => rfl
  | _ :: _, [], _, _ => rfl
  | n :: ns, v :: vs, m, h => by
    rw [List.zip_cons_cons]
    unfold bindC
    rw [bindC_miss fun q => h (.tail _ q)]
    have hne : x ≠ n := by rintro rfl; exact h (.head _)
    split
    · rfl
    · simp [hne]
theorem bindL_hit {kf : Str → Option NameKind} {x : Str} {v : Value} (hk : kf x = some .local) : ∀ {ns : List Str} {vs : List Value} {m : Str → Option Value} {i : Nat}, ns.Nodup → ns[i]? = some x → vs[i]? = some v → bindL kf (ns.zip vs) m x = some v
  | [], _, _, _, _, h, _ => by simp at h
  | _ :: _, [], _, _, _, _, h => by simp at h
  | n :: ns, u :: vs, m, 0, nd, h, h' => by
    have e : n = x := by simpa using h
    have e' : u = v := by simpa using h'
    subst e e'
    rw [List.zip_cons_cons]
    unfold bindL
    rw [bindL_miss (List.nodup_cons.mp nd).1, if_pos hk]; simp
  | n :: ns, u :: vs, m, i + 1, nd, h, h' => by
    rw [List.zip_cons_cons]
    unfold bindL
    exact bindL_hit hk (List.nodup_cons.mp nd).2 (by simpa using h) (by simpa using h')
theorem bindC_hit {kf : Str → Option NameKind} {x : Str} {v : Value} (hk : kf x = some .cell) : ∀ {ns : List Str} {vs : List Value} {m : Str → Option Value} {i : Nat}, ns.Nodup → ns[i]? = some x → vs[i]? = some v → bindC kf (ns.zip vs) m x = some v
  | [], _, _, _, _, h, _ => by simp at h
  | _ :: _, [], _, _, _, _, h => by simp at h
  | n :: ns, u :: vs, m, 0, nd, h, h' => by
    have e : n = x := by simpa using h
    have e' : u = v := by simpa using h'
    subst e e'
    rw [List.zip_cons_cons]
    unfold bindC
    rw [bindC_miss (List.nodup_cons.mp nd).1, if_neg (by rw [hk]; decide)]; simp
  | n :: ns, u :: vs, m, i + 1, nd, h, h' => by
    rw [List.zip_cons_cons]
    unfold bindC
    exact bindC_hit hk (List.nodup_cons.mp nd).2 (by simpa using h) (by simpa using h')
theorem cellsFrom_some : ∀ {names : List (Str × NameKind)} {n : Nat} {acc : List (Str × Addr)} {x : Str}, ((x, NameKind.cell) ∈ names ∨ (acc.lookup x).isSome = true) → ((cellsFrom n names acc).lookup x).isSome = true
  | [], _, _, _, h => by
    rcases h with h | h
    · cases h
    · exact h
  | (y, k) :: r, n, acc, x, h => by
    unfold cellsFrom
    by_cases hk : k = .cell
    · subst hk
      simp only [beq_self_eq_true, if_true]
      refine cellsFrom_some ?_
      by_cases e : x = y
      · subst e; exact .inr (by simp)
      · rcases h with h | h
        · rcases List.mem_cons.mp h with q | q
          · cases q; exact absurd rfl e
          · exact .inl q
        · refine .inr ?_
          rw [List.lookup_cons, beq_eq_false_iff_ne.mpr e]; exact h
    · have hb : (k == NameKind.cell) = false := beq_eq_false_iff_ne.mpr hk
      simp only [hb, Bool.false_eq_true, if_false]
      refine cellsFrom_some ?_
      rcases h with h | h
      · rcases List.mem_cons.mp h with q | q
        · cases q; exact absurd rfl hk
        · exact .inl q
      · exact .inr h

structure FdOk (fd : FuncData) (fi : FnInfo) (as : List Arg) (body : List Stmt) : Prop where
  clo : fd.closure = []
  glob : fd.globals = mainGlobals
  blt : fd.builtins = builtinsNs
  kind : fd.scope.kind = .function
  gen : fd.scope.isGenerator = false
  co : fd.scope.isCoroutine = false
  par : fd.params = ⟨[], as, Option.none, [], [], Option.none, []⟩
  np : as.length = fi.np
  first : as.map (·.arg) = (fd.scope.names.take fi.np).map (·.1)
  nd : (fd.scope.names.map (·.1)).Nodup
  kinds : ∀ y ∈ fd.scope.names.take fi.np, y.2 = .local ∨ y.2 = .cell
  dfl : fd.defaults = .none
  hbody : fd.body = .stmts body
  chk : chkSs (ceOf fd.scope) fi.body body = true
theorem noV_of {v : Value} (h : noV v = true) : v = .none := by
  cases v <;> first | rfl | exact absurd h Bool.false_ne_true
theorem body_of {b : FuncBody} {k : List Stmt → Bool} (h : xBody b k = true) : ∃ l, b = .stmts l ∧ k l = true := by
  cases b <;> first | exact ⟨_, rfl, h⟩ | exact absurd h Bool.false_ne_true
theorem args_plain {p : Arguments} {k : Bool} (h : xNil p.posonlyargs (xNone p.vararg (xNil p.kwonlyargs (xNil p.kw_defaults (xNone p.kwarg (xNil p.defaults k))))) = true) : p = ⟨[], p.args, Option.none, [], [], Option.none, []⟩ ∧ k = true := by
  obtain ⟨a, b, c, d, e, f, g⟩ := p
  exact xNil_inv (M := fun a => Arguments.mk a b c d e f g = ⟨[], b, Option.none, [], [], Option.none, []⟩ ∧ k = true) h fun h => xNone_inv (M := fun c => Arguments.mk [] b c d e f g = ⟨[], b, Option.none, [], [], Option.none, []⟩ ∧ k = true) h fun h =>
    xNil_inv (M := fun d => Arguments.mk [] b Option.none d e f g = ⟨[], b, Option.none, [], [], Option.none, []⟩ ∧ k = true) h fun h => xNil_inv (M := fun e => Arguments.mk [] b Option.none [] e f g = ⟨[], b, Option.none, [], [], Option.none, []⟩ ∧ k = true) h fun h =>
    xNone_inv (M := fun f => Arguments.mk [] b Option.none [] [] f g = ⟨[], b, Option.none, [], [], Option.none, []⟩ ∧ k = true) h fun h => xNil_inv (M := fun g => Arguments.mk [] b Option.none [] [] Option.none g = ⟨[], b, Option.none, [], [], Option.none, []⟩ ∧ k = true) h fun h => ⟨rfl, h⟩
theorem fdOk_of {fd : FuncData} {fi : FnInfo} (h : chkFd fd fi = true) : ∃ as body, FdOk fd fi as body := by
  unfold chkFd at h
  simp only [Bool.and_eq_true] at h
  obtain ⟨⟨⟨⟨⟨⟨⟨⟨⟨⟨⟨h1, h2⟩, h3⟩, h4⟩, h5⟩, h6⟩, h7⟩, h8⟩, h9⟩, h10⟩, h11⟩, h12⟩ := h
  obtain ⟨hp, h7⟩ := args_plain h7
  simp only [Bool.and_eq_true, beq_iff_eq] at h7
  obtain ⟨body, hb, h12⟩ := body_of h12
  refine ⟨fd.params.args, body, by simpa using h1, beq_iff_eq.mp h2, beq_iff_eq.mp h3, beq_iff_eq.mp h4, by simpa using h5, by simpa using h6, hp, h7.1, h7.2, by simpa using h8, fun y hy => ?_, noV_of h11, hb, h12⟩
  have := List.all_eq_true.mp h10 y hy
  simpa using this

theorem names_take {fd : FuncData} {fi : FnInfo} {as : List Arg} {body : List Stmt} (O : FdOk fd fi as body) : fi.np ≤ fd.scope.names.length := by
  have := congrArg List.length O.first
  simp only [List.length_map, List.length_take, O.np] at this
  (first | lia | omega)
end
end Mine
end
section
open PySem PySem.W PyProof.Rows Builtin Builtin.ObjectAttr
set_option Elab.async false
set_option maxRecDepth 100000
namespace Mine

section
variable {K : Frag} {w : World} {B : Shared} {σ σ₁ : Sig} {φ φ₁ : Fz} {ρ ρ₁ : Rh} {s s₁ : Shared} {A : Around} {ce : CE} {env : Env} {L : Locs} {n₀ : Nat}

/-- the places at the start of a def -/
noncomputable def startL (args : List XV) (fi : FnInfo) : Locs := args.map some ++ List.replicate (fi.ns - fi.np) none
theorem startL_get {args : List XV} {fi : FnInfo} {i : Nat} {v : XV} (h : (startL args fi)[i]? = some (some v)) : args[i]? = some v := by
  unfold startL at h
  by_cases hi : i < args.length
  · rw [List.getElem?_append_left (by simpa using hi), List.getElem?_map] at h
    simpa using h
  · rw [List.getElem?_append_right (by simpa using hi), List.getElem?_replicate] at h
    split at h <;> simp at h

theorem callEnv_frame {fd : FuncData} {fi : FnInfo} {as : List Arg} {body : List Stmt} {args : List XV} {vals : List Value} {a : Addr} (O : FdOk fd fi as body) (R : Rel w B σ φ ρ s) (X : RXs φ ρ args vals) (hl : args.length = fi.np)
    (C : InCallC s (callEnvC fd s.heap.objs.size a).locals (bindL (callEnvC fd s.heap.objs.size a).kindOf ((as.map (·.arg)).zip vals) fun _ => none) (callEnvC fd s.heap.objs.size a).cells (bindC (callEnvC fd s.heap.objs.size a).kindOf ((as.map (·.arg)).zip vals) fun _ => none) s₁) :
    FrameOk (ceOf fd.scope) (callEnvC fd s.heap.objs.size a) (startL args fi) φ ρ s₁.heap := by
  have fresh : ∀ b, s.heap.get? b = none → φ b = none ∧ ∀ p ∈ ρ, b ≠ p.2 := fun b hb => by
    refine ⟨?_, ?_⟩
    · cases e : φ b with
      | none => rfl
      | some o => rw [R.sub _ _ e] at hb; cases hb
    · rintro p hp rfl
      obtain ⟨i, hi, rfl⟩ := List.mem_iff_getElem.mp hp
      obtain ⟨o, ho⟩ := R.live (List.getElem?_eq_getElem hi)
      rw [ho] at hb; cases hb
  have eL : (callEnvC fd s.heap.objs.size a).locals = s.heap.objs.size := rfl
  have nl : s.heap.get? (callEnvC fd s.heap.objs.size a).locals = none := none_of_size (Nat.le_refl _)
  have nc : ∀ x c, (callEnvC fd s.heap.objs.size a).cells.lookup x = some c → s.heap.get? c = none ∧ c ≠ (callEnvC fd s.heap.objs.size a).locals := fun x c e => by
    have h1 : s.heap.objs.size < c := C.above x c (mem_of_lookup e)
    exact ⟨none_of_size (Nat.le_of_lt h1), fun q => by rw [q] at h1; exact Nat.lt_irrefl _ h1⟩
  have slot : ∀ x i b, (ceOf fd.scope).slots.lookup x = some (i, b) → fd.scope.names.lookup x = some (if b then .cell else .local) := fun x i b e => lookup_nodup O.nd (slots_ge e).2
  have hnames : ∀ i, i < fi.np → ∃ x k, fd.scope.names[i]? = some (x, k) ∧ (as.map (·.arg))[i]? = some x := fun i hi => by
    have h0 : i < fd.scope.names.length := Nat.lt_of_lt_of_le hi (names_take O)
    refine ⟨(fd.scope.names[i]).1, (fd.scope.names[i]).2, List.getElem?_eq_getElem h0, ?_⟩
    rw [O.first, List.getElem?_map, List.getElem?_take_of_lt hi, List.getElem?_eq_getElem h0]; rfl
  have arg : ∀ x i b v, (ceOf fd.scope).slots.lookup x = some (i, b) → (startL args fi)[i]? = some (some v) → ∃ u, vals[i]? = some u ∧ RX φ ρ v u ∧ (as.map (·.arg))[i]? = some x := fun x i b v e e' => by
    have e2 := startL_get e'
    have hi : i < fi.np := by rw [← hl]; exact (List.getElem?_eq_some_iff.mp e2).1
    obtain ⟨u, g1, g2⟩ := X.get e2
    obtain ⟨y, k, g3, g4⟩ := hnames i hi
    obtain ⟨b', g5⟩ := slots_first (n := 0) (np := fi.np) O.kinds O.nd hi g3
    rw [Nat.zero_add] at g5
    have : y = x := slots_inj g5 e
    subst this
    exact ⟨u, g1, g2, g4⟩
  have ndA : (as.map (·.arg)).Nodup := by
    rw [O.first]
    exact List.Nodup.sublist ((List.take_sublist _ _).map _) O.nd
  refine ⟨O.kind, O.glob, O.blt, fun x i b e => slot x i b e, fun x e => ?_, fun x y i b c e e' => slots_inj e e', ⟨_, C.toInCall.ns, fun x i v e e' => ?_⟩, fresh _ nl, fun x i e => ?_, fun x y c e e' => ?_, fun x c e => by obtain ⟨o, h2, _⟩ := C.cell x c e; exact ⟨o, h2⟩⟩
  · unfold ceOf at e
    dsimp only at e
    rw [List.contains_iff_mem, List.mem_map] at e
    obtain ⟨q, hq, rfl⟩ := e
    obtain ⟨hq1, hq2⟩ := List.mem_filter.mp hq
    have := lookup_nodup O.nd (show (q.1, q.2) ∈ fd.scope.names from hq1)
    rw [beq_iff_eq.mp hq2] at this
    exact this
  · obtain ⟨u, g1, g2, g3⟩ := arg x i false v e e'
    exact ⟨u, bindL_hit (by show fd.scope.names.lookup x = _; rw [slot x i false e]; rfl) ndA g3 g1, g2⟩
  · have hk := slot x i true e
    obtain ⟨c, hc⟩ := Option.isSome_iff_exists.mp (cellsFrom_some (n := s.heap.objs.size + 1) (acc := []) (.inl (slots_ge e).2))
    have hc' : (callEnvC fd s.heap.objs.size a).cells.lookup x = some c := hc
    obtain ⟨n1, n2⟩ := nc x c hc'
    refine ⟨c, hc', (fresh _ n1).1, (fresh _ n1).2, n2, _, C.cell x c hc', fun v e' => ?_⟩
    obtain ⟨u, g1, g2, g3⟩ := arg x i true v e e'
    exact ⟨u, bindC_hit (by show fd.scope.names.lookup x = _; rw [hk]; rfl) ndA g3 g1, g2⟩
  · exact name_of_addr C.apart (mem_of_lookup e) (mem_of_lookup e')

theorem RXs.length' {xs : List XV} {vs : List Value} (h : RXs φ ρ xs vs) : vs.length = xs.length := h.length.symm

/-- what is behind a def's body, and what the call hands on -/
noncomputable def retK (k : XV → Sig → Prop) : Fl → Locs → Sig → Prop := fun f _ σ' => match f with
  | .next => k (.p .none) σ'
  | .ret v => k v σ'

theorem call_sound {f : Nat} {fi : FnInfo} {args : List XV} {vals : List Value} {k : XV → Sig → Prop} (b : Base K w B) (hf : fnInfo f = some fi) (hl : args.length = fi.np) (hd : A.depth < recursionLimit)
    (hb : ∀ (sc : Scope) env body, chkSs (ceOf sc) fi.body body = true → SemS w B (A.deeper env) (ceOf sc) env ρ.length (execs body env) (startL args fi) σ (retK k))
    (R : Rel w B σ φ ρ s) (X : RXs φ ρ args vals) : codeAny (model pw w) A (.call (.ref (fnAddr f)) ⟨vals, []⟩) (PostC w B φ ρ s k) s := by
  have ok := b.facts.fn f fi hf
  unfold fnOk at ok
  rw [Bool.and_eq_true] at ok
  have ok1 := ok.1
  split at ok1
  · rename_i oc od fd sl hK
    rw [Bool.and_eq_true] at ok1
    obtain ⟨as, body, O⟩ := fdOk_of ok1.1
    have KX := b.now R
    have hlv : vals.length = args.length := X.length'
    have ndA : (as.map (·.arg)).Nodup := by
      rw [O.first]
      exact List.Nodup.sublist ((List.take_sublist _ _).map _) O.nd
    have hbind := bind_plain (fd := fd) (vals := vals) O.par O.dfl ndA (by rw [hlv, hl]; exact O.np)
    refine codeAny_call_cells hd (KX _ _ hK) rfl (b.limNow R) (codeRec_of KX ok1.2) O.hbody hbind O.clo (fun x hx => ?_) (fun s₁ C => ?_) O.co O.gen O.kind
    · have hm : x.1 ∈ as.map (·.arg) := (List.of_mem_zip (show (x.1, x.2) ∈ _ from hx)).1
      rw [O.first] at hm
      obtain ⟨y, hy, e⟩ := List.mem_map.mp hm
      have hy' := List.mem_of_mem_take hy
      have hlk := lookup_nodup O.nd (show (y.1, y.2) ∈ fd.scope.names from hy')
      rw [e] at hlk
      rcases O.kinds y hy with q | q
      · rw [q] at hlk; exact .inl hlk
      · rw [q] at hlk
        refine .inr ⟨hlk, cellsFrom_some (.inl ?_)⟩
        rw [← e, ← q]; exact hy'
    · have F := callEnv_frame O R X hl C
      obtain ⟨h₁, tk, e1, hk1⟩ := C.done
      have R1 : Rel w B σ φ ρ s₁ := by rw [e1]; exact R.keeps hk1
      have hkeep : ∀ a o, s.heap.get? a = some o → s₁.heap.get? a = some o := by rw [e1]; exact hk1
      refine wpAny_mono (hb fd.scope _ body O.chk φ ρ s₁ R1 F (Nat.le_refl _)) (fun fl s' hs => ?_) fun _ _ z => z.elim
      have notOwn : ∀ a o, s.heap.get? a = some o → ¬ Own (callEnvC fd s.heap.objs.size (fnAddr f)) a := fun a o e q => by
        have hlt : @LT.lt Nat _ a s.heap.objs.size := Heap.lt_size e
        rcases q with q | ⟨x, q⟩
        · have q' : a = s.heap.objs.size := q
          exact Nat.lt_irrefl _ (q' ▸ hlt)
        · have h1 : @LT.lt Nat _ s.heap.objs.size a := C.above x a (mem_of_lookup q)
          exact Nat.lt_irrefl _ (Nat.lt_trans h1 hlt)
      have toExt : ∀ {φ' : Fz} {ρ' : Rh} {σ' : Sig}, ExtO (callEnvC fd s.heap.objs.size (fnAddr f)) ρ.length φ ρ s₁.heap φ' ρ' s'.heap → Rel w B σ' φ' ρ' s' → Ext φ ρ s.heap φ' ρ' s'.heap := by
        intro φ' ρ' σ' E R'
        obtain ⟨r, er, hr⟩ := E.pre
        rw [List.take_length] at er
        refine ⟨fun a o e => E.live a o (hkeep a o e), fun a o e hn => E.keep a o (hkeep a o e) hn (notOwn a o e), fun a o e => ?_, r, er, fun p hp => ?_⟩
        · by_cases q : φ a ≠ none ∨ ∀ p ∈ ρ, a ≠ p.2
          · exact E.fz a o (hkeep a o e) q
          · have q1 : φ a = none := Decidable.byContradiction fun z => q (.inl z)
            have q2 : ∃ p ∈ ρ, a = p.2 := Decidable.byContradiction fun z => q (.inr fun p hp e => z ⟨p, hp, e⟩)
            obtain ⟨p, hp, rfl⟩ := q2
            rw [q1]
            exact R'.off p (by rw [er]; exact List.mem_append_left _ hp)
        · rcases hr p hp with q | q
          · rw [List.drop_length] at q; cases q
          · cases e : s.heap.get? p.2 with
            | none => rfl
            | some o => rw [hkeep _ _ e] at q; cases q
      cases fl with
      | next =>
        refine hs.next_el fun φ' ρ' σ' L' E R' F' hk => ?_
        exact ⟨φ', ρ', σ', _, toExt E R', R', .p .none, hk⟩
      | ret v =>
        refine hs.ret_el fun φ' ρ' σ' L' x E R' X' hk => ?_
        exact ⟨φ', ρ', σ', x, toExt E R', R', X', hk⟩
      | brk => exact hs.elim
      | cont => exact hs.elim
  · cases ok1
end
end Mine
end
section
open PySem PySem.W PyProof.Rows Builtin Builtin.ObjectAttr
set_option Elab.async false
set_option maxRecDepth 100000
namespace Mine

structure AOk (d : Nat) (A : Around) : Prop where
  handled : A.handled = none
  dep : A.depth + 4 * d + 11 ≤ 1000
  un : A.units + 20 * d + 310 ≤ 9900
theorem AOk.bud {d : Nat} {A : Around} (h : AOk d A) : Bud d A := ⟨h.handled, by have := h.dep; (first | lia | omega), by have := h.un; (first | lia | omega)⟩
theorem AOk.bu {d : Nat} {A : Around} (h : AOk d A) : Bu A := ⟨h.handled, by have := h.un; (first | lia | omega)⟩

section
variable {K : Frag} {w : World} {B : Shared} {σ σ₁ : Sig} {φ φ₁ : Fz} {ρ ρ₁ : Rh} {s s₁ : Shared} {A : Around} {ce : CE} {env : Env} {L : Locs} {n₀ d : Nat}

noncomputable def SE (w : World) (B : Shared) (d : Nat) (x : Ex) : Prop := ∀ {ce env e A L σ k}, AOk d A → chkE ce x e = true → vcE (CallP w B d) x L σ k → SemE w B A ce env (eval e env) L σ k
noncomputable def SB (w : World) (B : Shared) (d : Nat) (x : Ex) : Prop := ∀ {ce env e A L σ k}, AOk d A → chkE ce x e = true → vcE (CallP w B d) x L σ (fun v σ₁ => asB v fun t => k (.p (.bool t)) σ₁) → SemB w B A ce env (isTrue e env (eval e env)) L σ k
noncomputable def SEs (w : World) (B : Shared) (d : Nat) (es : Exs) : Prop := ∀ {ce env l A L σ k pos}, AOk d A → chkEs ce es l = true → vcEs (CallP w B d) es L σ k →
  ∀ φ ρ s, Rel w B σ φ ρ s → FrameOk ce env L φ ρ s.heap → wpAny (model pw w) A (spliced (backTo pos (starEach l env))) (fun vs s' => vs.length = l.length ∧ Posts w B φ ρ s k vs s') NoE s

/-! ## lists of arguments -/
theorem starEach_cons {e : Expr} {r : List Expr} (h : notStar e = true) : starEach (e :: r) env = (false, eval e env) :: starEach r env := by cases e <;> first | rfl | cases h
theorem backTo_cons {pos : Pos} {t : Sem Value} {r : List (Bool × Sem Value)} : backTo pos ((false, t) :: r) = (false, t) :: backTo pos r := rfl
theorem plain_any {pos : Pos} : ∀ {l : List Expr}, l.all notStar = true → (backTo pos (starEach l env)).any (·.1) = false
  | [], _ => rfl
  | e :: r, h => by
    rw [List.all_cons, Bool.and_eq_true] at h
    rw [starEach_cons h.1, backTo_cons, List.any_cons, plain_any h.2]
    rfl
theorem plain_all {pos : Pos} : ∀ {l : List Expr}, l.all notStar = true → (backTo pos (starEach l env)).all (fun x => !x.1) = true
  | [], _ => rfl
  | e :: r, h => by
    rw [List.all_cons, Bool.and_eq_true] at h
    rw [starEach_cons h.1, backTo_cons, List.all_cons, plain_all h.2]
    rfl
theorem evalArgs_l {f : Value} {pos : Pos} {l : List Expr} {Q : Args → Shared → Prop} (hl : l.all notStar = true) (h : wpAny (model pw w) A (spliced (backTo pos (starEach l env))) (fun vs s' => Q ⟨vs, []⟩ s') NoE s) :
    wpAny (model pw w) A (evalArgs f true (backTo pos (starEach l env)) []) Q NoE s := by
  cases l with
  | nil =>
    unfold evalArgs
    show wpAny _ _ (spliced (backTo pos (starEach [] env)) >>= _) _ _ _
    refine wpAny_bind (wpAny_mono h (fun vs s' h' => ?_) fun _ _ x => x)
    first
      | exact wpAny_bind (wpAny_pure (wpAny_holding (wpAny_bind (wpAny_pure (wpAny_bind (wpAny_pure (wpAny_pure h')))))))
      | exact wpAny_holding (wpAny_bind (wpAny_pure (wpAny_bind (wpAny_pure (wpAny_pure h')))))
  | cons e r =>
    rw [List.all_cons, Bool.and_eq_true] at hl
    rw [starEach_cons hl.1, backTo_cons] at h ⊢
    exact Calls.evalArgs_plain h

/-! ## bound methods -/
theorem isFn_get {v : Value} (h : isFn K v = true) : specialIn K v "__get__" = some (some (.builtin "function.__get__")) ∧ takesIn K v = some false := by
  have ht := beq_iff_eq.mp h
  have e : ∀ name, specialIn K v name = findIn K (.type "function") name := fun name => by unfold specialIn; rw [ht]; rfl
  refine ⟨?_, ?_⟩
  · rw [e]; show fastLookup _ _ = _; decide +kernel
  · have e1 : specialIn K v "__set__" = some none := by rw [e]; show fastLookup _ _ = _; decide +kernel
    have e2 : specialIn K v "__delete__" = some none := by rw [e]; show fastLookup _ _ = _; decide +kernel
    unfold takesIn
    rw [e1, e2]
    rfl
theorem meth_names : ∀ c, c < 15 → ∀ a, a < 41 → (match attrOf c a with | .meth _ => !copiedNames.contains (attrName a) | _ => true) = true := by decide +kernel
theorem getBM {i c a f : Nat} {fs : List XV} {u : Value} {expr : Bool} {k : XV → Sig → Prop} (b : Base K w B) (R : Rel w B σ φ ρ s) (X : RX φ ρ (.c i) u) (hi : σ[i]? = some (.inst c fs)) (ha : attrOf c a = .meth f) (h : k (.bm f i) σ) :
    wpAny (model pw w) A (getAttr u (attrName a) expr) (Post w B φ ρ s k) NoE s := by
  obtain ⟨hc, haa⟩ := attrOf_lt (c := c) (a := a) (by rw [ha]; exact fun z => by cases z)
  have ok := b.facts.attr c hc a haa
  unfold attrOk at ok
  rw [ha] at ok
  simp only [Bool.and_eq_true, beq_iff_eq, Bool.not_eq_true'] at ok
  have F := b.facts.clsF hc
  have hcop := meth_names c hc a haa
  rw [ha] at hcop
  refine X.c_of fun x d e1 => ?_
  · refine R.cellInst_el e1 hi fun h1 es n vs h2 h3 h4 h5 => ?_
    have I : InstAt s.heap x (instObj (clsAddr c) d) (clsAddr c) (some (dictOf es n)) := ⟨R.sub _ _ h1, rfl, rfl, h2⟩
    obtain ⟨g1, g2⟩ := isFn_get ok.1.2
    have own : getL (attrName a) es = some none := h4.miss fun y => by
      have := ok.2
      rw [List.contains_eq_mem] at this
      simp at this
      exact this (List.mem_of_mem_take y)
    have fo : findObj K (clsAddr c) (some (dictOf es n)) (attrName a) = some (.bind (.builtin "function.__get__") (.ref (fnAddr f))) := by
      obtain ⟨cd, hcl, hdd⟩ := any_some F.hd
      unfold findObj
      rw [hcl, Option.bind_some, ok.1.1, Option.bind_some]
      dsimp only
      rw [g1, Option.bind_some]
      dsimp only
      rw [g2, Option.bind_some]
      dsimp only
      have ho : W.ownOf cd (some (dictOf es n)) (attrName a) = some none := by unfold W.ownOf; rw [if_pos hdd]; exact own
      rw [ho, Option.bind_some]
      dsimp only
      rw [if_neg]
      simp only [Bool.not_eq_true'] at hcop
      rw [hcop]; simp
    refine get_bind (b.now R) I F.ga fo F.gn (wpAny_call (fn_get (s := { s with toks := s.toks + 1 }) (b.now (R.tok _)) (beq_iff_eq.mp ok.1.2) ?_))
    show wpAny _ _ (handedOut (.ref s.heap.objs.size)) _ _ _
    exact wpAny_pure (Post.new (s := s) (t := s.toks + 1) R rfl (fun φ' le hn => .bm e1 hn) h)

theorem attr_sound {a : Nat} {v : XV} {u : Value} {expr : Bool} {k : XV → Prop} (b : Base K w B) (R : Rel w B σ φ ρ s) (X : RX φ ρ v u) (h : attrP v a σ k) :
    wpAny (model pw w) A (getAttr u (attrName a) expr) (Post w B φ ρ s fun x σ' => σ' = σ ∧ k x) NoE s := by
  by_cases hm : ∃ i c fs f, v = .c i ∧ σ[i]? = some (.inst c fs) ∧ attrOf c a = .meth f
  · obtain ⟨i, c, fs, f, rfl, e1, e2⟩ := hm
    refine getBM b R X e1 e2 ?_
    unfold attrP at h
    dsimp only at h
    rw [e1] at h
    dsimp only at h
    rw [e2] at h
    exact ⟨rfl, h⟩
  · refine attrP_sound b R X ?_ (fun i c fs f e1 e2 e3 => hm ⟨i, c, fs, f, e1, e2, e3⟩) h
    rintro f i rfl
    exact h
end
end Mine
end
section
open PySem PySem.W PyProof.Rows Builtin Builtin.ObjectAttr
set_option Elab.async false
set_option maxRecDepth 100000
namespace Mine

section
variable {K : Frag} {w : World} {B : Shared} {σ σ₁ : Sig} {φ φ₁ : Fz} {ρ ρ₁ : Rh} {s s₁ : Shared} {A : Around} {ce : CE} {env : Env} {L : Locs} {n₀ d : Nat}

theorem Post.kp {v : Value} {s' : Shared} {k' : XV → Sig → Prop} {q : PV → Prop} (h : Post w B φ ρ s (kp σ q) v s') (hk : ∀ y, q y → k' (.p y) σ) : Post w B φ ρ s k' v s' :=
  Post.mono (fun x σ' ⟨y, e1, e2, hh⟩ => by subst e1 e2; exact hk y hh) h
theorem Post.kb {v : Value} {s' : Shared} {k' : XV → Sig → Prop} {q : Bool → Prop} (h : Post w B φ ρ s (kb σ q) v s') (hk : ∀ y, q y → k' (.p (.bool y)) σ) : Post w B φ ρ s k' v s' :=
  Post.mono (fun x σ' ⟨y, e1, e2, hh⟩ => by subst e1 e2; exact hk y hh) h

theorem se_none : SE w B d .none := by
  intro ce env e A L σ k hA hc hv φ ρ s R F
  refine invE_none hc fun _ _ hc => ?_
  · exact wpAny_Constant_none (Post.here R (.p .none) hv)
theorem se_bool {t : Bool} : SE w B d (.bool t) := by
  intro ce env e A L σ k hA hc hv φ ρ s R F
  refine invE_bool hc fun _ _ _ hc => ?_
  · rw [beq_iff_eq] at hc; subst hc
    exact wpAny_Constant_bool (Post.here R (.p (.bool _)) hv)
theorem se_int {i : Int} : SE w B d (.int i) := by
  intro ce env e A L σ k hA hc hv φ ρ s R F
  refine invE_int hc fun _ _ _ hc => ?_
  · rw [beq_iff_eq] at hc; subst hc
    exact wpAny_Constant_int (Post.tok R (.p (.int _ _)) hv)
theorem se_neg {i : Int} : SE w B d (.neg i) := by
  intro ce env e A L σ k hA hc hv φ ρ s R F
  refine invE_neg hc fun _ _ _ _ hc => ?_
  · rw [beq_iff_eq] at hc; subst hc
    exact UnaryOp_ (wpAny_Constant_int (neg_int (Post.tok R (.p (.int _ _)) hv)))
theorem se_str {x : Str} : SE w B d (.str x) := by
  intro ce env e A L σ k hA hc hv φ ρ s R F
  refine invE_str hc fun _ _ _ hc => ?_
  · rw [beq_iff_eq] at hc; subst hc
    exact wpAny_Constant_str (Post.tok R (.p (.str _ _)) hv)
theorem se_glob (b : Base K w B) {i : Nat} : SE w B d (.glob i) := by
  intro ce env e A L σ k hA hc hv φ ρ s R F
  refine invE_glob hc fun _ _ hc => ?_
  · simp only [Bool.and_eq_true, beq_iff_eq] at hc
    obtain ⟨⟨h1, rfl⟩, h3⟩ := hc
    refine someP_el (show someP (gconst i) _ from hv) fun n e1 hv => ?_
    obtain ⟨t, ht⟩ := b.facts.gc i n e1
    exact name_top b R F h1 ht (Post.here R (.p (.int _ _)) hv)
theorem se_var {i : Nat} : SE w B d (.var i) := by
  intro ce env e A L σ k hA hc hv φ ρ s R F
  refine invE_var hc fun _ _ hc => ?_
  · conv at hv => whnf
    split at hv
    · rename_i v e1
      exact name_var F hc e1 fun u X => Post.here R X hv
    · exact hv.elim

theorem se_attr (b : Base K w B) {x : Ex} {a : Nat} (hx : SE w B d x) : SE w B d (.attr x a) := by
  intro ce env e A L σ k hA hc hv φ ρ s R F
  refine invE_attr hc fun o n pos hc => ?_
  · simp only [Bool.and_eq_true, beq_iff_eq] at hc
    obtain ⟨⟨hb, rfl⟩, hc⟩ := hc
    conv at hv => whnf
    refine Attribute_any_ ?_ (by cases o <;> first | (with_unfolding_all rfl) | cases hb)
    refine SemE.next (hx hA hc hv) R F fun v s' φ' ρ' σ' x' E R' F' X hk => ?_
    refine wpAny_mono (attr_sound b R' X hk) (fun u s'' h => Post.trans E (Post.mono (fun y σ'' hh => ?_) h)) fun _ _ z => z
    obtain ⟨rfl, hh⟩ := hh
    exact hh

theorem se_bin {o : BOp} {l r : Ex} (hl : SE w B d l) (hr : SE w B d r) : SE w B d (.bin o l r) := by
  intro ce env e A L σ k hA hc hv φ ρ s R F
  refine invE_bin hc fun _ _ _ _ hc => ?_
  · simp only [Bool.and_eq_true, beq_iff_eq] at hc
    obtain ⟨⟨rfl, hc1⟩, hc2⟩ := hc
    conv at hv => whnf
    refine wpAny_BinOp ?_
    refine SemE.next (hl hA hc1 hv) R F fun u s1 φ1 ρ1 σ1 x1 E1 R1 F1 X1 h1 => ?_
    refine SemE.next (hr hA hc2 h1) R1 F1 fun u2 s2 φ2 ρ2 σ2 x2 E2 R2 F2 X2 h2 => ?_
    refine asP_el (X1.mono (Ext.le R1 E2) E2.rh) h2 fun y1 Y1 h2 => ?_
    refine asP_el X2 h2 fun y2 Y2 h2 => ?_
    exact wpAny_mono (binP_sound h2 Y1 Y2 R2) (fun v s3 h => Post.trans (E1.trans E2) (Post.kp h fun y hy => hy)) fun _ _ z => z

/-- a new place that holds a list -/
theorem Post.cell (R : Rel w B σ φ ρ s) {vs : Array Value} {n : Nat} {xs : List PV} {k : XV → Sig → Prop} {t : Nat} (X : RVs φ xs vs.toList) (h : k (.c σ.length) (σ ++ [.list xs])) :
    Post w B φ ρ s k (.ref s.heap.objs.size) { s with heap := s.heap.push { cls := .type "list", data := .seq vs n }, toks := t } := by
  have hn : s.heap.get? s.heap.objs.size = none := none_of_size (Nat.le_refl _)
  have R1 := R.push { cls := .type "list", data := .seq vs n } t
  have hg : (s.heap.push ({ cls := .type "list", data := .seq vs n } : Obj)).get? s.heap.objs.size = some { cls := .type "list", data := .seq vs n } := Heap.get?_push_size _ rfl
  refine ⟨φ, ρ ++ [(s.heap.objs.size, s.heap.objs.size)], σ ++ [.list xs], .c σ.length, (Ext.push s.heap _).addCell hn, R1.addCell (c := .list xs) ⟨rfl, vs, n, hg, X⟩ R.fresh (fun q hq e => R.mem_ne (Nat.le_refl _) q hq e.symm), .c (m := s.heap.objs.size) ?_, h⟩
  rw [← R.len]; simp

theorem se_addC {l r : Ex} (hl : SE w B d l) (hr : SE w B d r) : SE w B d (.addC l r) := by
  intro ce env e A L σ k hA hc hv φ ρ s R F
  refine invE_addC hc fun _ _ _ _ hc => ?_
  · simp only [Bool.and_eq_true, beq_iff_eq] at hc
    obtain ⟨⟨rfl, hc1⟩, hc2⟩ := hc
    conv at hv => whnf
    refine wpAny_BinOp ?_
    refine SemE.next (hl hA hc1 hv) R F fun u s1 φ1 ρ1 σ1 x1 E1 R1 F1 X1 h1 => ?_
    refine SemE.next (hr hA hc2 h1) R1 F1 fun u2 s2 φ2 ρ2 σ2 x2 E2 R2 F2 X2 h2 => ?_
    refine asP_el (X1.mono (Ext.le R1 E2) E2.rh) h2 fun y1 Y1 h2 => ?_
    refine asP_el X2 h2 fun y2 Y2 h2 => ?_
    obtain ⟨xs, rfl, h3⟩ := asL_of h2
    obtain ⟨ys, rfl, hlim, h4⟩ := asL_of h3
    refine Y1.lst_of fun a1 vs1 n1 h11 r1 => ?_
    refine Y2.lst_of fun a2 vs2 n2 h21 r2 => ?_
    have z1 := r1.array
    have z2 := r2.array
    rw [lim_is] at hlim
    exact add_lists' (R2.isListF h11) (R2.isListF h21) (Post.trans (E1.trans E2) (Post.cell (t := s2.toks) R2 (by rw [Array.toList_append]; exact r1.append r2) h4)) (by rw [sizeLine_is]; omega)

theorem se_cmp (b : Base K w B) {o : COp} {l r : Ex} (hl : SE w B d l) (hr : SE w B d r) : SE w B d (.cmp o l r) ∧ SB w B d (.cmp o l r) := by
  have core : ∀ {ce env A L σ} {k : Bool → Sig → Prop} {l' r' : Expr}, AOk d A → chkE ce l l' = true → chkE ce r r' = true → (vcE (CallP w B d) l L σ fun a σ₁ => vcE (CallP w B d) r L σ₁ fun b σ₂ => cmpP o a b σ₂ fun t => k t σ₂) → ∀ φ ρ s, Rel w B σ φ ρ s → FrameOk ce env L φ ρ s.heap →
      wpAny (model pw w) A (eval l' env) (fun a s₁ => wpAny (model pw w) A (eval r' env) (fun b' s₂ => wpAny (model pw w) A (compareOp (copOf o) a b') (Post w B φ ρ s fun x σ' => ∃ t, x = .p (.bool t) ∧ k t σ') NoE s₂) NoE s₁) NoE s := by
    intro ce env A L σ k l' r' hA hc1 hc2 hv φ ρ s R F
    refine SemE.next (hl hA hc1 hv) R F fun u s1 φ1 ρ1 σ1 x1 E1 R1 F1 X1 h1 => ?_
    refine SemE.next (hr hA hc2 h1) R1 F1 fun u2 s2 φ2 ρ2 σ2 x2 E2 R2 F2 X2 h2 => ?_
    refine wpAny_mono (cmpP_sound h2 (X1.mono (Ext.le R1 E2) E2.rh) X2 R2 hA.bu ?_) (fun v s3 h => Post.trans (E1.trans E2) (Post.kb h fun y hy => ⟨y, rfl, hy⟩)) fun _ _ z => z
    exact b.sysm
  have hm : ∀ {o' : CmpOp} {r' : Expr}, notSet r' = true → behindInMarks o' r' = false := by
    intro o' r' h
    cases r' <;> first | rfl | cases h
  constructor
  · intro ce env e A L σ k hA hc hv φ ρ s R F
    refine invE_cmp hc fun _ _ _ _ hc => ?_
    · simp only [Bool.and_eq_true, beq_iff_eq] at hc
      obtain ⟨⟨⟨rfl, hs⟩, hc1⟩, hc2⟩ := hc
      conv at hv => whnf
      refine wpAny_Compare1 (wpAny_mono (core (k := fun t σ => k (.p (.bool t)) σ) hA hc1 hc2 hv φ ρ s R F) (fun a s1 h1 => wpAny_mono h1 (fun b' s2 h2 => wpAny_mono h2 (fun v s3 h3 => Post.mono (fun x σ' ⟨t, e, hk⟩ => by subst e; exact hk) h3) fun _ _ z => z) fun _ _ z => z) fun _ _ z => z) (hm hs)
  · intro ce env e A L σ k hA hc hv φ ρ s R F
    refine invE_cmp hc fun _ _ _ _ hc => ?_
    · simp only [Bool.and_eq_true, beq_iff_eq] at hc
      obtain ⟨⟨⟨rfl, hs⟩, hc1⟩, hc2⟩ := hc
      conv at hv => whnf
      refine wpAny_isTrue_Compare1 (wpAny_mono (core (k := fun t σ => k (.p (.bool t)) σ) hA hc1 hc2 hv φ ρ s R F) (fun a s1 h1 => wpAny_mono h1 (fun b' s2 h2 => wpAny_mono h2 (fun v s3 h3 => ?_) fun _ _ z => z) fun _ _ z => z) fun _ _ z => z) (hm hs)
      obtain ⟨φ', ρ', σ', x, E, R', X, t, rfl, hk⟩ := h3
      refine X.p_of.bool_of ?_
      exact wpAny_truthy_bool ⟨φ', ρ', σ', E, R', hk⟩

/-- truth of a value that is a bool -/
theorem sb_value {x : Ex} (hx : SE w B d x) (hf : ∀ {ce e env whole}, chkE ce x e = true → isTrue e env whole = (do let v ← whole; standAt e.pos; holding [v] (truthy v))) : SB w B d x := by
  intro ce env e A L σ k hA hc hv φ ρ s R F
  refine wpAny_isTrue_value ?_ (hf hc)
  refine SemE.next (hx hA hc hv) R F fun u s1 φ1 ρ1 σ1 x1 E1 R1 F1 X1 h1 => ?_
  refine asB_el X1 h1 fun t h1 => ?_
  exact wpAny_truthy_bool ⟨φ1, ρ1, σ1, E1, R1, h1⟩

theorem se_not {x : Ex} (hx : SE w B d x) (hb : SB w B d x) : SE w B d (.not x) ∧ SB w B d (.not x) := by
  constructor
  · intro ce env e A L σ k hA hc hv φ ρ s R F
    refine invE_not hc fun _ _ hc => ?_
    · conv at hv => whnf
      refine wpAny_UnaryOp ?_
      refine SemE.next (hx hA hc hv) R F fun u s1 φ1 ρ1 σ1 x1 E1 R1 F1 X1 h1 => ?_
      refine asB_el X1 h1 fun t h1 => ?_
      exact not_value (wpAny_truthy_bool (Post.trans E1 (Post.here R1 (.p (.bool _)) h1)))
  · intro ce env e A L σ k hA hc hv φ ρ s R F
    refine invE_not hc fun _ _ hc => ?_
    · conv at hv => whnf
      refine wpAny_isTrue_Not ?_
      refine SemB.next (hb (k := fun x σ => ∃ t, x = .p (.bool t) ∧ k (.p (.bool !t)) σ) hA hc ?_) R F fun t s1 φ1 ρ1 σ1 E1 R1 F1 h1 => ?_
      · have : (fun (v : XV) (σ₁ : Sig) => asB v fun t => k (.p (.bool !t)) σ₁) = fun v σ₁ => asB v fun t => ∃ t_1, XV.p (PV.bool t) = .p (.bool t_1) ∧ k (.p (.bool !t_1)) σ₁ := by
          funext v σ₁
          unfold asB
          split
          · simp
          · rfl
        rw [← this]; exact hv
      · obtain ⟨t', e, h1⟩ := h1
        cases e
        exact ⟨φ1, ρ1, σ1, E1, R1, h1⟩
theorem se_ite {c x y : Ex} (hc0 : SB w B d c) (hx : SE w B d x) (hy : SE w B d y) : SE w B d (.ite c x y) := by
  intro ce env e A L σ k hA hc hv φ ρ s R F
  refine invE_ite hc fun _ _ _ _ hc => ?_
  · simp only [Bool.and_eq_true] at hc
    obtain ⟨⟨h1, h2⟩, h3⟩ := hc
    conv at hv => whnf
    refine wpAny_IfExp ?_
    refine SemB.next (hc0 (k := fun v σ₁ => asB v fun t => br t (vcE (CallP w B d) x L σ₁ k) (vcE (CallP w B d) y L σ₁ k)) hA h1 ?_) R F fun t s1 φ1 ρ1 σ1 E1 R1 F1 h4 => ?_
    · have : (fun (v : XV) (σ₁ : Sig) => asB v fun t => br t (vcE (CallP w B d) x L σ₁ k) (vcE (CallP w B d) y L σ₁ k)) = fun v σ₁ => asB v fun t => asB (.p (.bool t)) fun t => br t (vcE (CallP w B d) x L σ₁ k) (vcE (CallP w B d) y L σ₁ k) := rfl
      exact hv
    · rcases br_of h4 with ⟨rfl, h4⟩ | ⟨rfl, h4⟩
      · exact wpAny_mono (hx hA h2 h4 _ _ _ R1 F1) (fun _ _ z => Post.trans E1 z) fun _ _ z => z
      · exact wpAny_mono (hy hA h3 h4 _ _ _ R1 F1) (fun _ _ z => Post.trans E1 z) fun _ _ z => z
end
end Mine
end
section
open PySem PySem.W PyProof.Rows Builtin Builtin.ObjectAttr
set_option Elab.async false
set_option maxRecDepth 100000
namespace Mine

section
variable {K : Frag} {w : World} {B : Shared} {σ σ₁ : Sig} {φ φ₁ : Fz} {ρ ρ₁ : Rh} {s s₁ : Shared} {A : Around} {ce : CE} {env : Env} {L : Locs} {n₀ d : Nat}

/-! ## and, or -/
noncomputable def TAnd (w : World) (B : Shared) (d : Nat) (es : Exs) : Prop := ∀ {ce env l A L σ k}, AOk d A → chkEs ce es l = true → vcAnd (CallP w B d) es L σ k → SemB w B A ce env (allTrue .And l env) L σ k
noncomputable def TOr (w : World) (B : Shared) (d : Nat) (es : Exs) : Prop := ∀ {ce env l A L σ k}, AOk d A → chkEs ce es l = true → vcOr (CallP w B d) es L σ k → SemB w B A ce env (allTrue .Or l env) L σ k
noncomputable def VAnd (w : World) (B : Shared) (d : Nat) (es : Exs) : Prop := ∀ {ce env l A L σ k pos}, AOk d A → chkEs ce es l = true → vcAnd (CallP w B d) es L σ k → SemE w B A ce env (boolOp pos .And (evalEach l env)) L σ k
noncomputable def VOr (w : World) (B : Shared) (d : Nat) (es : Exs) : Prop := ∀ {ce env l A L σ k pos}, AOk d A → chkEs ce es l = true → vcOr (CallP w B d) es L σ k → SemE w B A ce env (boolOp pos .Or (evalEach l env)) L σ k

theorem chkEs_cons {x : Ex} {r : Exs} {l : List Expr} (h : chkEs ce (.cons x r) l = true) : ∃ e t, l = e :: t ∧ notStar e = true ∧ chkE ce x e = true ∧ chkEs ce r t = true := by
  cases l with
  | nil => exact absurd h Bool.false_ne_true
  | cons e t => have h : (notStar e && chkE ce x e && chkEs ce r t) = true := h; simp only [Bool.and_eq_true] at h; exact ⟨e, t, rfl, h.1.1, h.1.2, h.2⟩
@[elab_as_elim] theorem chkEs_el {x : Ex} {r : Exs} {l : List Expr} {M : List Expr → Prop} (h : chkEs ce (.cons x r) l = true) (g : ∀ e t, notStar e = true → chkE ce x e = true → chkEs ce r t = true → chkEs ce (.cons x r) (e :: t) = true → M (e :: t)) : M l := by
  obtain ⟨e, t, rfl, a, b, c⟩ := chkEs_cons h
  exact g e t a b c h
theorem chkEs_nil {l : List Expr} (h : chkEs ce .nil l = true) : l = [] := by
  cases l with
  | nil => rfl
  | cons e t => exact absurd h Bool.false_ne_true

theorem tand_cons {x : Ex} {r : Exs} (hx : SB w B d x) (hr : TAnd w B d r) : TAnd w B d (.cons x r) := by
  intro ce env l A L σ k hA hc hv φ ρ s R F
  refine chkEs_el hc fun e t _ h1 h2 _ => ?_
  refine wpAny_allTrue_And_cons ?_
  cases r with
  | nil =>
    cases chkEs_nil h2
    conv at hv => whnf
    refine SemB.next (hx hA h1 hv) R F fun b s1 φ1 ρ1 σ1 E1 R1 F1 h3 => ?_
    cases b with
    | true => exact wpAny_allTrue_And_nil ⟨φ1, ρ1, σ1, E1, R1, h3⟩
    | false => exact ⟨φ1, ρ1, σ1, E1, R1, h3⟩
  | cons y r =>
    conv at hv => whnf
    refine SemB.next (hx (k := fun v σ₁ => asB v fun t => br t (vcAnd (CallP w B d) (.cons y r) L σ₁ k) (k (.p (.bool false)) σ₁)) hA h1 hv) R F fun b s1 φ1 ρ1 σ1 E1 R1 F1 h3 => ?_
    rcases br_of h3 with ⟨rfl, h3⟩ | ⟨rfl, h3⟩
    · exact wpAny_mono (hr hA h2 h3 _ _ _ R1 F1) (fun _ _ z => PostB.trans E1 z) fun _ _ z => z
    · exact ⟨φ1, ρ1, σ1, E1, R1, h3⟩
theorem tor_cons {x : Ex} {r : Exs} (hx : SB w B d x) (hr : TOr w B d r) : TOr w B d (.cons x r) := by
  intro ce env l A L σ k hA hc hv φ ρ s R F
  refine chkEs_el hc fun e t _ h1 h2 _ => ?_
  refine wpAny_allTrue_Or_cons ?_
  cases r with
  | nil =>
    cases chkEs_nil h2
    conv at hv => whnf
    refine SemB.next (hx hA h1 hv) R F fun b s1 φ1 ρ1 σ1 E1 R1 F1 h3 => ?_
    cases b with
    | false => exact wpAny_allTrue_Or_nil ⟨φ1, ρ1, σ1, E1, R1, h3⟩
    | true => exact ⟨φ1, ρ1, σ1, E1, R1, h3⟩
  | cons y r =>
    conv at hv => whnf
    refine SemB.next (hx (k := fun v σ₁ => asB v fun t => br t (k (.p (.bool true)) σ₁) (vcOr (CallP w B d) (.cons y r) L σ₁ k)) hA h1 hv) R F fun b s1 φ1 ρ1 σ1 E1 R1 F1 h3 => ?_
    rcases br_of h3 with ⟨rfl, h3⟩ | ⟨rfl, h3⟩
    · exact ⟨φ1, ρ1, σ1, E1, R1, h3⟩
    · exact wpAny_mono (hr hA h2 h3 _ _ _ R1 F1) (fun _ _ z => PostB.trans E1 z) fun _ _ z => z
theorem vand_cons {x : Ex} {r : Exs} (hx : SE w B d x) (hr : VAnd w B d r) : VAnd w B d (.cons x r) := by
  intro ce env l A L σ k pos hA hc hv φ ρ s R F
  refine chkEs_el hc fun e t _ h1 h2 _ => ?_
  cases r with
  | nil =>
    cases chkEs_nil h2
    conv at hv => whnf
    show wpAny _ _ (eval e env) _ _ _
    refine SemE.next (hx hA h1 hv) R F fun u s1 φ1 ρ1 σ1 x1 E1 R1 F1 X1 h3 => ?_
    refine asB_el X1 h3 fun b h3 => ?_
    exact Post.trans E1 (Post.here R1 (.p (.bool _)) h3)
  | cons y r =>
    refine chkEs_el h2 fun e2 t2 _ _ _ h2 => ?_
    conv at hv => whnf
    show wpAny _ _ (eval e env >>= fun v => standAt pos >>= fun _ => holding [v] (truthy v) >>= fun t => match BoolOp.And, t with
      | .And, false | .Or, true => pure v
      | _, _ => boolOp pos .And (evalEach (e2 :: t2) env)) _ _ _
    refine wpAny_bind (SemE.next (hx hA h1 hv) R F fun u s1 φ1 ρ1 σ1 x1 E1 R1 F1 X1 h3 => ?_)
    refine asB_el X1 h3 fun b h3 => ?_
    refine wpAny_bind (wpAny_standAt (wpAny_bind (wpAny_holding (wpAny_truthy_bool ?_))))
    rcases br_of h3 with ⟨rfl, h3⟩ | ⟨rfl, h3⟩
    · exact wpAny_mono (hr hA h2 h3 _ _ _ R1 F1) (fun _ _ z => Post.trans E1 z) fun _ _ z => z
    · exact wpAny_pure (Post.trans E1 (Post.here R1 (.p (.bool _)) h3))
theorem vor_cons {x : Ex} {r : Exs} (hx : SE w B d x) (hr : VOr w B d r) : VOr w B d (.cons x r) := by
  intro ce env l A L σ k pos hA hc hv φ ρ s R F
  refine chkEs_el hc fun e t _ h1 h2 _ => ?_
  cases r with
  | nil =>
    cases chkEs_nil h2
    conv at hv => whnf
    show wpAny _ _ (eval e env) _ _ _
    refine SemE.next (hx hA h1 hv) R F fun u s1 φ1 ρ1 σ1 x1 E1 R1 F1 X1 h3 => ?_
    refine asB_el X1 h3 fun b h3 => ?_
    exact Post.trans E1 (Post.here R1 (.p (.bool _)) h3)
  | cons y r =>
    refine chkEs_el h2 fun e2 t2 _ _ _ h2 => ?_
    conv at hv => whnf
    show wpAny _ _ (eval e env >>= fun v => standAt pos >>= fun _ => holding [v] (truthy v) >>= fun t => match BoolOp.Or, t with
      | .And, false | .Or, true => pure v
      | _, _ => boolOp pos .Or (evalEach (e2 :: t2) env)) _ _ _
    refine wpAny_bind (SemE.next (hx hA h1 hv) R F fun u s1 φ1 ρ1 σ1 x1 E1 R1 F1 X1 h3 => ?_)
    refine asB_el X1 h3 fun b h3 => ?_
    refine wpAny_bind (wpAny_standAt (wpAny_bind (wpAny_holding (wpAny_truthy_bool ?_))))
    rcases br_of h3 with ⟨rfl, h3⟩ | ⟨rfl, h3⟩
    · exact wpAny_pure (Post.trans E1 (Post.here R1 (.p (.bool _)) h3))
    · exact wpAny_mono (hr hA h2 h3 _ _ _ R1 F1) (fun _ _ z => Post.trans E1 z) fun _ _ z => z
theorem se_and {es : Exs} (h1 : VAnd w B d es) (h2 : TAnd w B d es) : SE w B d (.and es) ∧ SB w B d (.and es) := by
  constructor
  · intro ce env e A L σ k hA hc hv φ ρ s R F
    refine invE_and hc fun _ _ hc => ?_
    · conv at hv => whnf
      rw [arm_eval_BoolOp]
      exact h1 hA hc hv _ _ _ R F
  · intro ce env e A L σ k hA hc hv φ ρ s R F
    refine invE_and hc fun _ _ hc => ?_
    · conv at hv => whnf
      refine wpAny_isTrue_BoolOp (wpAny_mono (h2 hA hc hv _ _ _ R F) (fun b s1 h3 => ?_) fun _ _ z => z)
      obtain ⟨φ', ρ', σ', E, R', h⟩ := h3
      exact ⟨φ', ρ', σ', E, R', h⟩
theorem se_or {es : Exs} (h1 : VOr w B d es) (h2 : TOr w B d es) : SE w B d (.or es) ∧ SB w B d (.or es) := by
  constructor
  · intro ce env e A L σ k hA hc hv φ ρ s R F
    refine invE_or hc fun _ _ hc => ?_
    · conv at hv => whnf
      rw [arm_eval_BoolOp]
      exact h1 hA hc hv _ _ _ R F
  · intro ce env e A L σ k hA hc hv φ ρ s R F
    refine invE_or hc fun _ _ hc => ?_
    · conv at hv => whnf
      refine wpAny_isTrue_BoolOp (wpAny_mono (h2 hA hc hv _ _ _ R F) (fun b s1 h3 => ?_) fun _ _ z => z)
      obtain ⟨φ', ρ', σ', E, R', h⟩ := h3
      exact ⟨φ', ρ', σ', E, R', h⟩

/-! ## places -/
theorem se_sub {x i : Ex} (hx : SE w B d x) (hi : SE w B d i) : SE w B d (.sub x i) := by
  intro ce env e A L σ k hA hc hv φ ρ s R F
  refine invE_sub hc fun _ _ _ hc => ?_
  · simp only [Bool.and_eq_true] at hc
    obtain ⟨⟨hs, hc1⟩, hc2⟩ := hc
    conv at hv => whnf
    refine Subscript_ ?_
    refine SemE.next (hx hA hc1 hv) R F fun u s1 φ1 ρ1 σ1 x1 E1 R1 F1 X1 h1 => ?_
    refine SemE.next (hi hA hc2 h1) R1 F1 fun u2 s2 φ2 ρ2 σ2 x2 E2 R2 F2 X2 h2 => ?_
    exact wpAny_mono (subP_sound hs h2 (X1.mono (Ext.le R1 E2) E2.rh) X2 R2) (fun v s3 h => Post.trans (E1.trans E2) (Post.kp h fun y hy => hy)) fun _ _ z => z
theorem se_slcTo {x n : Ex} (hx : SE w B d x) (hn : SE w B d n) : SE w B d (.slcTo x n) := by
  intro ce env e A L σ k hA hc hv φ ρ s R F
  refine invE_slcTo hc fun _ _ _ _ hc => ?_
  · simp only [Bool.and_eq_true] at hc
    conv at hv => whnf
    refine Subscript_ ?_
    refine SemE.next (hx hA hc.1 hv) R F fun u s1 φ1 ρ1 σ1 x1 E1 R1 F1 X1 h1 => ?_
    refine wpAny_Slice (wpAny_pure ?_)
    rw [evalPart_some]
    refine SemE.next (hn hA hc.2 h1) R1 F1 fun u2 s2 φ2 ρ2 σ2 x2 E2 R2 F2 X2 h2 => ?_
    refine wpAny_pure ?_
    refine look_el R2 (X1.mono (Ext.le R1 E2) E2.rh) h2 fun y Y h2 => ?_
    refine asP_el X2 h2 fun z Z h2 => ?_
    refine asI_el Z h2 fun i t h2 => ?_
    cases y with
    | lst xs =>
      obtain ⟨m, vs, rfl, il, r⟩ := Y.isList R2
      exact wpAny_mono (slice_V R2 il .none (.int i t) .none (by decide) (slTo_pick r i) (by rw [← r.array]; exact h2.1) rfl h2.2) (fun v s3 h => Post.trans (E1.trans E2) (Post.kp h fun y hy => hy)) fun _ _ z => z
    | _ => exact h2.elim
theorem se_slcFrom {x n : Ex} (hx : SE w B d x) (hn : SE w B d n) : SE w B d (.slcFrom x n) := by
  intro ce env e A L σ k hA hc hv φ ρ s R F
  refine invE_slcFrom hc fun _ _ _ _ hc => ?_
  · simp only [Bool.and_eq_true] at hc
    conv at hv => whnf
    refine Subscript_ ?_
    refine SemE.next (hx hA hc.1 hv) R F fun u s1 φ1 ρ1 σ1 x1 E1 R1 F1 X1 h1 => ?_
    refine wpAny_Slice ?_
    rw [evalPart_some]
    refine SemE.next (hn hA hc.2 h1) R1 F1 fun u2 s2 φ2 ρ2 σ2 x2 E2 R2 F2 X2 h2 => ?_
    refine wpAny_pure (wpAny_pure ?_)
    refine look_el R2 (X1.mono (Ext.le R1 E2) E2.rh) h2 fun y Y h2 => ?_
    refine asP_el X2 h2 fun z Z h2 => ?_
    refine asI_el Z h2 fun i t h2 => ?_
    cases y with
    | lst xs =>
      cases i with
      | ofNat j =>
        obtain ⟨m, vs, rfl, il, r⟩ := Y.isList R2
        exact wpAny_mono (slice_V R2 il (.int (Int.ofNat j) t) .none .none (by decide) (slFrom_pick r j) (by rw [← r.array]; exact h2.1) rfl h2.2) (fun v s3 h => Post.trans (E1.trans E2) (Post.kp h fun y hy => hy)) fun _ _ z => z
      | negSucc j => exact h2.elim
    | _ => exact h2.elim
theorem se_slcRev {x : Ex} (hx : SE w B d x) : SE w B d (.slcRev x) := by
  intro ce env e A L σ k hA hc hv φ ρ s R F
  refine invE_slcRev hc fun _ _ _ _ _ _ hc => ?_
  · conv at hv => whnf
    refine Subscript_ ?_
    refine SemE.next (hx hA hc hv) R F fun u s1 φ1 ρ1 σ1 x1 E1 R1 F1 X1 h1 => ?_
    refine wpAny_Slice (wpAny_pure (wpAny_pure ?_))
    rw [evalPart_some]
    refine UnaryOp_ (wpAny_Constant_int (neg_int ?_))
    refine look_el R1 X1 h1 fun y Y h1 => ?_
    cases y with
    | lst xs =>
      obtain ⟨m, vs, rfl, il, r⟩ := Y.isList R1
      have R2 : Rel w B σ1 φ1 ρ1 { s1 with toks := s1.toks + 1 + 1 } := R1.tok _
      exact wpAny_mono (slice_V R2 il .none .none (.int _ _) (by decide) (rev_pick r) (by rw [← r.array]; exact h1.1) rfl h1.2) (fun v s3 h => Post.trans E1 (Post.kp h fun y hy => hy)) fun _ _ z => z
    | _ => exact h1.elim
theorem se_slcTwo {x : Ex} (hx : SE w B d x) : SE w B d (.slcTwo x) := by
  intro ce env e A L σ k hA hc hv φ ρ s R F
  refine invE_slcTwo hc fun _ _ _ _ _ hc => ?_
  · conv at hv => whnf
    refine Subscript_ ?_
    refine SemE.next (hx hA hc hv) R F fun u s1 φ1 ρ1 σ1 x1 E1 R1 F1 X1 h1 => ?_
    refine wpAny_Slice (wpAny_pure (wpAny_pure ?_))
    rw [evalPart_some]
    refine wpAny_Constant_int ?_
    refine look_el R1 X1 h1 fun y Y h1 => ?_
    cases y with
    | lst xs =>
      obtain ⟨m, vs, rfl, il, r⟩ := Y.isList R1
      have R2 : Rel w B σ1 φ1 ρ1 { s1 with toks := s1.toks + 1 } := R1.tok _
      exact wpAny_mono (slice_V R2 il .none .none (.int _ _) (by decide) (two_pick r) (by rw [← r.array]; exact h1.1) rfl h1.2) (fun v s3 h => Post.trans E1 (Post.kp h fun y hy => hy)) fun _ _ z => z
    | _ => exact h1.elim

/-! ## displays -/
theorem ses_nil : SEs w B d .nil := by
  intro ce env l A L σ k pos hA hc hv φ ρ s R F
  cases chkEs_nil hc
  exact wpAny_items_nil ⟨rfl, φ, ρ, σ, [], Ext.refl _ _ _, R, .nil, hv⟩
theorem ses_cons {x : Ex} {r : Exs} (hx : SE w B d x) (hr : SEs w B d r) : SEs w B d (.cons x r) := by
  intro ce env l A L σ k pos hA hc hv φ ρ s R F
  refine chkEs_el hc fun e t h0 h1 h2 _ => ?_
  conv at hv => whnf
  refine wpAny_items_cons ?_ (starEach_cons h0)
  refine SemE.next (hx hA h1 hv) R F fun u s1 φ1 ρ1 σ1 x1 E1 R1 F1 X1 h3 => ?_
  refine wpAny_mono (hr hA h2 h3 _ _ _ R1 F1) (fun vs s2 h => ?_) fun _ _ z => z
  obtain ⟨hl, φ2, ρ2, σ2, xs, E2, R2, X2, hk⟩ := h
  exact ⟨by simp [hl], φ2, ρ2, σ2, x1 :: xs, E1.trans E2, R2, .cons (X1.mono (Ext.le R1 E2) E2.rh) X2, hk⟩
theorem SEs.next {es : Exs} {l : List Expr} {k : List XV → Sig → Prop} {Q : List Value → Shared → Prop} {pos : Pos} (h : SEs w B d es) (hA : AOk d A) (hc : chkEs ce es l = true) (hv : vcEs (CallP w B d) es L σ k) (R : Rel w B σ φ ρ s) (F : FrameOk ce env L φ ρ s.heap)
    (hq : ∀ v s' φ' ρ' σ' x, v.length = l.length → Ext φ ρ s.heap φ' ρ' s'.heap → Rel w B σ' φ' ρ' s' → FrameOk ce env L φ' ρ' s'.heap → RXs φ' ρ' x v → k x σ' → Q v s') : wpAny (model pw w) A (spliced (backTo pos (starEach l env))) Q NoE s :=
  wpAny_mono (h hA hc hv _ _ _ R F) (fun v s' ⟨hl, φ', ρ', σ', x, E, R', X, hk⟩ => hq v s' φ' ρ' σ' x hl E R' (F.ext R E) X hk) fun _ _ x => x

theorem se_list {es : Exs} (hs : SEs w B d es) : SE w B d (.list es) := by
  intro ce env e A L σ k hA hc hv φ ρ s R F
  refine invE_list hc fun _ _ hc => ?_
  · simp only [Bool.and_eq_true, decide_eq_true_eq] at hc
    conv at hv => whnf
    refine wpAny_List (hs.next hA hc.2 hv R F fun vs s1 φ1 ρ1 σ1 x1 hl E1 R1 F1 X1 h1 => ?_)
    refine asPs_el X1 h1 fun ys Y h1 => ?_
    exact ⟨by rw [hl, sizeLine_is]; (first | lia | omega), Post.trans E1 (Post.new (t := s1.toks) R1 rfl (fun φ' le hn => .p (.lst hn (Y.mono le))) h1)⟩
theorem se_listC {es : Exs} (hs : SEs w B d es) : SE w B d (.listC es) := by
  intro ce env e A L σ k hA hc hv φ ρ s R F
  refine invE_listC hc fun _ _ hc => ?_
  · simp only [Bool.and_eq_true, decide_eq_true_eq] at hc
    conv at hv => whnf
    refine wpAny_List (hs.next hA hc.2 hv R F fun vs s1 φ1 ρ1 σ1 x1 hl E1 R1 F1 X1 h1 => ?_)
    refine asPs_el X1 h1 fun ys Y h1 => ?_
    exact ⟨by rw [hl, sizeLine_is]; (first | lia | omega), Post.trans E1 (Post.cell (t := s1.toks) R1 Y h1)⟩
theorem se_tuple {es : Exs} (hs : SEs w B d es) : SE w B d (.tuple es) := by
  intro ce env e A L σ k hA hc hv φ ρ s R F
  refine invE_tuple hc fun _ _ _ hc => ?_
  · simp only [Bool.and_eq_true, decide_eq_true_eq] at hc
    conv at hv => whnf
    refine wpAny_Tuple (hs.next hA hc.2 hv R F fun vs s1 φ1 ρ1 σ1 x1 hl E1 R1 F1 X1 h1 => ?_)
    refine asPs_el X1 h1 fun ys Y h1 => ?_
    exact ⟨by rw [hl, sizeLine_is]; (first | lia | omega), Post.trans E1 (Post.new (t := s1.toks) R1 rfl (fun φ' le hn => .p (.tup hn (Y.mono le))) h1)⟩
theorem se_dictC : SE w B d .dictC := by
  intro ce env e A L σ k hA hc hv φ ρ s R F
  refine invE_dictC hc fun _ hc => ?_
  · conv at hv => whnf
    refine wpAny_Dict_empty ?_
    have hn : s.heap.get? s.heap.objs.size = none := none_of_size (Nat.le_refl _)
    have R1 := R.push { cls := .type "dict", data := .dict #[] } s.toks
    refine ⟨φ, ρ ++ [(s.heap.objs.size, s.heap.objs.size)], σ ++ [.dict (fun _ => Option.none) 0], .c σ.length, (Ext.push s.heap _).addCell hn, R1.addCell (c := .dict (fun _ => Option.none) 0) ⟨rfl, [], Heap.DictOf.new _, Nat.le_refl _, fun z => rfl⟩ R.fresh (fun q hq e => R.mem_ne (Nat.le_refl _) q hq e.symm), .c (m := s.heap.objs.size) ?_, hv⟩
    rw [← R.len]; simp

/-! ## comprehensions -/
theorem fold_ok {it : Expr} (h : notSet it = true) (env : Env) (x : Value) : foldedSetIterable it env x = pure x := by
  unfold foldedSetIterable
  cases it <;> first | rfl | cases h
theorem comp_end {use : Option (Value → Sem Unit)} {k : XV → Sig → Prop} (hu : use = Option.none) {D Cc : Addr} {s' : Shared} {φ' : Fz} {ρ' : Rh} {σ' : Sig} {ys : List PV} {vs : Array Value} {n : Nat} {m : Str → Option Value}
    (R : Rel w B σ φ ρ s) (E : Ext φ ρ s.heap φ' ρ' s'.heap) (R' : Rel w B σ' φ' ρ' s') (hD : s'.heap.get? D = some { cls := .type "list", data := .seq vs n }) (X : RVs φ' ys vs.toList) (fD : φ' D = Option.none) (rD : ∀ p ∈ ρ', D ≠ p.2) (nD : s.heap.get? D = Option.none)
    (nsC : s'.heap.Ns Cc m) (fC : φ' Cc = Option.none) (rC : ∀ p ∈ ρ', Cc ≠ p.2) (nC : s.heap.get? Cc = Option.none) (hDC : D ≠ Cc) (hk : k (.p (.lst ys)) σ') :
    compPost (model pw w) A NoE use (Post w B φ ρ s k) (.ref D) Cc (.ok .next) s' := by
  subst hu
  refine ⟨m, nsC, fun h' hs' => ?_⟩
  have keep : ∀ b o, s'.heap.get? b = some o → (φ' b = some o ∨ ∃ p ∈ ρ', p.2 = b) → h'.get? b = some o := fun b o e q => hs'.extBut b o (by
    rintro rfl
    rcases q with q | ⟨p, hp, q⟩
    · rw [fC] at q; cases q
    · exact rC p hp q.symm) e
  have R2 : Rel w B σ' φ' ρ' { s' with heap := h' } := R'.heap keep
  have nCs : ∀ a o, s.heap.get? a = some o → a ≠ Cc := by rintro a o e rfl; rw [nC] at e; cases e
  have E2 : Ext φ ρ s.heap φ' ρ' h' := ⟨fun a o e => by obtain ⟨o', e'⟩ := E.live a o e; exact ⟨o', hs'.extBut a o' (nCs a o e) e'⟩, fun a o e hn => hs'.extBut a o (nCs a o e) (E.keep a o e hn), E.fz, E.pre⟩
  have hD2 : h'.get? D = some { cls := .type "list", data := .seq vs n } := hs'.extBut _ _ hDC hD
  exact ⟨φ'.put D { cls := .type "list", data := .seq vs n }, ρ', σ', _, E2.put nD, R2.freeze hD2 fD rD, .p (.lst (Fz.put_self _ _ _) (X.mono (Fz.le_put fD))), hk⟩

theorem se_comp {slot : Nat} {elt iter : Ex} (he : SE w B d elt) (hi : SE w B d iter) : SE w B d (.comp slot elt iter) := by
  intro ce env e A L σ k hA hc hv φ ρ s R F
  refine invE_comp hc fun _ _ _ _ _ _ hc => ?_
  · simp only [Bool.and_eq_true] at hc
    obtain ⟨⟨⟨h1, h2⟩, h3⟩, h4⟩ := hc
    conv at hv => whnf
    rw [eval_ListComp]
    refine comp_core (use := Option.none) (E' := NoE) (test := fun _ σ k => k true σ) (body := fun x σ k => vcE (CallP w B d) elt (L.set slot (some (.p x))) σ fun y σ' => asP y fun w => k w σ') (k := fun ys σ₂ => k (.p (.lst ys)) σ₂) hA.handled R F (compOk_of h1) h2 (hi hA h3 ?_) ?_ ?_ ?_
    · have : (fun (v : XV) (σ₁ : Sig) => items v fun xs => xs.length ≤ lim ∧ compP (fun x σ k => vcE (CallP w B d) elt (L.set slot (some (.p x))) σ fun y σ' => asP y fun w => k w σ') xs σ₁ fun ys σ₂ => k (.p (.lst ys)) σ₂) =
          fun v σ₁ => items v fun xs => xs.length ≤ lim ∧ compIfP (fun _ σ k => k true σ) (fun x σ k => vcE (CallP w B d) elt (L.set slot (some (.p x))) σ fun y σ' => asP y fun w => k w σ') xs σ₁ fun ys σ₂ => k (.p (.lst ys)) σ₂ := by
        funext v σ₁
        congr 1
        funext xs
        rw [compP_eq]
      rw [← this]; exact hv
    · intro env' y σ' k' ht φ' ρ' s' R' F'
      exact wpAny_pure ⟨φ', ρ', σ', Ext.refl _ _ _, R', ht⟩
    · intro env' y σ' k' hb
      exact he hA h4 hb
    · intro D Cc s' φ' ρ' σ' ys vs n m a1 a2 a3 a4 a5 a6 a7 a8 a9 b1 b2 b3 b4
      exact comp_end rfl R a1 a2 a3 a4 a5 a6 a7 a8 a9 b1 b2 b3 b4
theorem se_compIf {slot : Nat} {elt iter cond : Ex} (he : SE w B d elt) (hi : SE w B d iter) (hcd : SB w B d cond) : SE w B d (.compIf slot elt iter cond) := by
  intro ce env e A L σ k hA hc hv φ ρ s R F
  refine invE_compIf hc fun _ _ _ _ _ _ _ hc => ?_
  · simp only [Bool.and_eq_true] at hc
    obtain ⟨⟨⟨⟨h1, h2⟩, h3⟩, h4⟩, h5⟩ := hc
    conv at hv => whnf
    rw [eval_ListComp]
    refine comp_core (use := Option.none) (E' := NoE) (test := fun x σ k => vcE (CallP w B d) cond (L.set slot (some (.p x))) σ fun y σ' => asB y fun t => k t σ') (body := fun x σ k => vcE (CallP w B d) elt (L.set slot (some (.p x))) σ fun y σ' => asP y fun w => k w σ') (k := fun ys σ₂ => k (.p (.lst ys)) σ₂) hA.handled R F (compOk_of h1) h2 (hi hA h3 hv) ?_ ?_ ?_
    · intro env' y σ' k' ht φ' ρ' s' R' F'
      rw [List.forIn_cons]
      simp only [if_true]
      refine wpAny_bind (wpAny_bind (SemB.next (hcd (k := fun v σ₁ => asB v fun t => k' t σ₁) hA h5 ht) R' F' fun t s1 φ1 ρ1 σ1 E1 R1 F1 h6 => ?_))
      exact wpAny_pure (wpAny_pure ⟨φ1, ρ1, σ1, E1, R1, h6⟩)
    · intro env' y σ' k' hb
      exact he hA h4 hb
    · intro D Cc s' φ' ρ' σ' ys vs n m a1 a2 a3 a4 a5 a6 a7 a8 a9 b1 b2 b3 b4
      exact comp_end rfl R a1 a2 a3 a4 a5 a6 a7 a8 a9 b1 b2 b3 b4
end
end Mine
end
section
open PySem PySem.W PyProof.Rows Builtin Builtin.ObjectAttr
set_option Elab.async false
set_option maxRecDepth 100000
namespace Mine

section
variable {K : Frag} {w : World} {B : Shared} {σ σ₁ : Sig} {φ φ₁ : Fz} {ρ ρ₁ : Rh} {s s₁ : Shared} {A : Around} {ce : CE} {env : Env} {L : Locs} {n₀ d : Nat}

theorem boot_len : bootBuiltins (Str.ofString "len") = some (.builtin "len") := by decide +kernel
theorem boot_range : bootBuiltins (Str.ofString "range") = some (.type "range") := by decide +kernel
theorem boot_isi : bootBuiltins (Str.ofString "isinstance") = some (.builtin "isinstance") := by decide +kernel
theorem boot_abs : bootBuiltins (Str.ofString "abs") = some (.builtin "abs") := by decide +kernel
theorem boot_list : bootBuiltins (Str.ofString "list") = some (.type "list") := by decide +kernel
theorem boot_tuple : bootBuiltins (Str.ofString "tuple") = some (.type "tuple") := by decide +kernel
theorem boot_bool : bootBuiltins (Str.ofString "bool") = some (.type "bool") := by decide +kernel

theorem arg1 {x : Ex} {e : Expr} {pos : Pos} {k : XV → Sig → Prop} {Q : List Value → Shared → Prop} (hx : SE w B d x) (hA : AOk d A) (hn : notStar e = true) (hc : chkE ce x e = true) (hv : vcE (CallP w B d) x L σ k) (R : Rel w B σ φ ρ s) (F : FrameOk ce env L φ ρ s.heap)
    (hq : ∀ v s' φ' ρ' σ' x, Ext φ ρ s.heap φ' ρ' s'.heap → Rel w B σ' φ' ρ' s' → FrameOk ce env L φ' ρ' s'.heap → RX φ' ρ' x v → k x σ' → Q [v] s') : wpAny (model pw w) A (spliced (backTo pos (starEach [e] env))) Q NoE s := by
  refine wpAny_items_cons (SemE.next (hx hA hc hv) R F fun v s' φ' ρ' σ' x' E' R' F' X' h' => ?_) (starEach_cons hn)
  exact wpAny_items_nil (hq v s' φ' ρ' σ' x' E' R' F' X' h')
theorem se_len (b : Base K w B) {x : Ex} (hx : SE w B d x) : SE w B d (.len x) := by
  intro ce env e A L σ k hA hc hv φ ρ s R F
  refine invE_len hc fun id p x' pos hc => ?_
  · simp only [Bool.and_eq_true, beq_iff_eq] at hc
    obtain ⟨⟨⟨h1, rfl⟩, h3⟩, h4⟩ := hc
    conv at hv => whnf
    have hl : [x'].all notStar = true := by simp [h3]
    refine Call_ (name_bi b R F h1 (b.facts.bi _ (by decide)) boot_len (by decide) ?_)
    refine Calls.callWith_builtin (plain_any hl) (evalArgs_l hl (arg1 hx hA h3 h4 hv R F fun v s1 φ1 ρ1 σ1 x1 E1 R1 F1 X1 h5 => ?_))
    refine look_el R1 X1 h5 fun y Y h5 => ?_
    exact wpAny_mono (len_sound h5 R1 Y) (fun _ _ z => Post.trans E1 z) fun _ _ z => z
theorem se_range1 (b : Base K w B) {x : Ex} (hx : SE w B d x) : SE w B d (.range1 x) := by
  intro ce env e A L σ k hA hc hv φ ρ s R F
  refine invE_range1 hc fun id p x' pos hc => ?_
  · simp only [Bool.and_eq_true, beq_iff_eq] at hc
    obtain ⟨⟨⟨h1, rfl⟩, h3⟩, h4⟩ := hc
    conv at hv => whnf
    have hl : [x'].all notStar = true := by simp [h3]
    refine Call_ (name_bi b R F h1 (b.facts.bi _ (by decide)) boot_range (by decide) ?_)
    refine PyProof.Rows.callWith_type (plain_any hl) (evalArgs_l hl (arg1 hx hA h3 h4 hv R F fun v s1 φ1 ρ1 σ1 x1 E1 R1 F1 X1 h5 => ?_))
    refine asP_el X1 h5 fun y Y h5 => ?_
    refine asI_el Y h5 fun n t h5 => ?_
    exact wpAny_mono (range1_sound R1 h5.2) (fun _ _ z => Post.trans E1 z) fun _ _ z => z
theorem se_range3 (b : Base K w B) {x y z : Ex} (hx : SE w B d x) (hy : SE w B d y) (hz : SE w B d z) : SE w B d (.range3 x y z) := by
  intro ce env e A L σ k hA hc hv φ ρ s R F
  refine invE_range3 hc fun id p a' b' c' pos hc => ?_
  · simp only [Bool.and_eq_true, beq_iff_eq] at hc
    obtain ⟨⟨⟨⟨⟨⟨⟨h1, rfl⟩, n1⟩, n2⟩, n3⟩, c1⟩, c2⟩, c3⟩ := hc
    conv at hv => whnf
    have hl : [a', b', c'].all notStar = true := by simp [n1, n2, n3]
    refine Call_ (name_bi b R F h1 (b.facts.bi _ (by decide)) boot_range (by decide) ?_)
    refine PyProof.Rows.callWith_type (plain_any hl) (evalArgs_l hl ?_)
    refine wpAny_items_cons (SemE.next (hx hA c1 hv) R F fun v1 s1 φ1 ρ1 σ1 x1 E1 R1 F1 X1 h1 => ?_) (starEach_cons n1)
    refine wpAny_items_cons (SemE.next (hy hA c2 h1) R1 F1 fun v2 s2 φ2 ρ2 σ2 x2 E2 R2 F2 X2 h2 => ?_) (starEach_cons n2)
    refine wpAny_items_cons (SemE.next (hz hA c3 h2) R2 F2 fun v3 s3 φ3 ρ3 σ3 x3 E3 R3 F3 X3 h3 => ?_) (starEach_cons n3)
    refine wpAny_items_nil ?_
    refine asP_el (X1.mono (Ext.le R1 (E2.trans E3)) (E2.trans E3).rh) h3 fun y1 Y1 h3 => ?_
    refine asP_el (X2.mono (Ext.le R2 E3) E3.rh) h3 fun y2 Y2 h3 => ?_
    refine asP_el X3 h3 fun y3 Y3 h3 => ?_
    refine asI_el Y1 h3 fun i1 t1 h3 => ?_
    refine asI_el Y2 h3 fun i2 t2 h3 => ?_
    refine asI_el Y3 h3 fun i3 t3 h3 => ?_
    obtain ⟨⟨q1, q2, q3, q4⟩, h3⟩ := h3
    exact wpAny_mono (range3_sound R3 q1 q2 q3 q4 h3) (fun _ _ z => Post.trans ((E1.trans E2).trans E3) z) fun _ _ z => z
theorem se_abs (b : Base K w B) {x : Ex} (hx : SE w B d x) : SE w B d (.abs x) := by
  intro ce env e A L σ k hA hc hv φ ρ s R F
  refine invE_abs hc fun id p x' pos hc => ?_
  · simp only [Bool.and_eq_true, beq_iff_eq] at hc
    obtain ⟨⟨⟨h1, rfl⟩, h3⟩, h4⟩ := hc
    conv at hv => whnf
    have hl : [x'].all notStar = true := by simp [h3]
    refine Call_ (name_bi b R F h1 (b.facts.bi _ (by decide)) boot_abs (by decide) ?_)
    refine Calls.callWith_builtin (plain_any hl) (evalArgs_l hl (arg1 hx hA h3 h4 hv R F fun v s1 φ1 ρ1 σ1 x1 E1 R1 F1 X1 h5 => ?_))
    refine asP_el X1 h5 fun y Y h5 => ?_
    refine asI_el Y h5 fun n t h5 => ?_
    exact wpAny_mono (abs_sound R1 h5) (fun _ _ z => Post.trans E1 z) fun _ _ z => z
theorem se_listOf (b : Base K w B) {x : Ex} (hx : SE w B d x) : SE w B d (.listOf x) := by
  intro ce env e A L σ k hA hc hv φ ρ s R F
  refine invE_listOf hc fun id p x' pos hc => ?_
  · simp only [Bool.and_eq_true, beq_iff_eq] at hc
    obtain ⟨⟨⟨h1, rfl⟩, h3⟩, h4⟩ := hc
    conv at hv => whnf
    have hl : [x'].all notStar = true := by simp [h3]
    refine Call_ (name_bi b R F h1 (b.facts.bi _ (by decide)) boot_list (by decide) ?_)
    refine PyProof.Rows.callWith_type (plain_any hl) (evalArgs_l hl (arg1 hx hA h3 h4 hv R F fun v s1 φ1 ρ1 σ1 x1 E1 R1 F1 X1 h5 => ?_))
    refine asP_el X1 h5 fun y Y h5 => ?_
    exact wpAny_mono (listOf_sound h5 R1 Y) (fun _ _ z => Post.trans E1 z) fun _ _ z => z
theorem se_tupleOf (b : Base K w B) {x : Ex} (hx : SE w B d x) : SE w B d (.tupleOf x) := by
  intro ce env e A L σ k hA hc hv φ ρ s R F
  refine invE_tupleOf hc fun id p x' pos hc => ?_
  · simp only [Bool.and_eq_true, beq_iff_eq] at hc
    obtain ⟨⟨⟨h1, rfl⟩, h3⟩, h4⟩ := hc
    conv at hv => whnf
    have hl : [x'].all notStar = true := by simp [h3]
    refine Call_ (name_bi b R F h1 (b.facts.bi _ (by decide)) boot_tuple (by decide) ?_)
    refine PyProof.Rows.callWith_type (plain_any hl) (evalArgs_l hl (arg1 hx hA h3 h4 hv R F fun v s1 φ1 ρ1 σ1 x1 E1 R1 F1 X1 h5 => ?_))
    refine asP_el X1 h5 fun y Y h5 => ?_
    exact wpAny_mono (tupleOf_sound h5 R1 Y) (fun _ _ z => Post.trans E1 z) fun _ _ z => z

/-! ## isinstance -/
theorem cls_name (b : Base K w B) {c : Nat} {id : Str} {p : Pos} {Q : Value → Shared → Prop} (R : Rel w B σ φ ρ s) (F : FrameOk ce env L φ ρ s.heap) (hg : isGlob ce id = true) (he : id = isiName c) (hc : c < 28)
    (h : Q (if c = 27 then .type "bool" else .ref (clsAddr c)) s) : wpAny (model pw w) A (eval (.Name id p) env) Q NoE s := by
  subst he
  unfold isiName at hg ⊢
  by_cases q : c = 27
  · rw [if_pos q] at h hg ⊢
    exact name_bi b R F hg (b.facts.bi _ (by decide)) boot_bool (by decide) h
  · rw [if_neg q] at h hg ⊢
    have ok := b.facts.isi c hc
    unfold isiOk at ok
    simp only [Bool.and_eq_true] at ok
    have o1 := ok.1.1.1.1
    rw [Bool.or_eq_true] at o1
    rcases o1 with o1 | o1
    · exact absurd (beq_iff_eq.mp o1) q
    · exact name_top b R F hg (beq_iff_eq.mp o1) h
theorem chkIsi_cons {c : Nat} {r : List Nat} {l : List Expr} (h : chkIsi ce (c :: r) l = true) : ∃ id p t, l = .Name id p :: t ∧ isGlob ce id = true ∧ id = isiName c ∧ c < 28 ∧ chkIsi ce r t = true :=
  xCons_inv (M := fun l => ∃ id p t, l = .Name id p :: t ∧ isGlob ce id = true ∧ id = isiName c ∧ c < 28 ∧ chkIsi ce r t = true) h fun e t h =>
  xE_Name_inv (M := fun e => ∃ id p t', e :: t = .Name id p :: t' ∧ isGlob ce id = true ∧ id = isiName c ∧ c < 28 ∧ chkIsi ce r t' = true) h fun id p h => by
    simp only [Bool.and_eq_true, beq_iff_eq, decide_eq_true_eq] at h
    exact ⟨id, p, t, rfl, h.1.1.1, h.1.1.2, h.1.2, h.2⟩
theorem chkIsi_nil {l : List Expr} (h : chkIsi ce [] l = true) : l = [] := xNil_inv (M := fun l => l = []) h fun _ => rfl
theorem is_Name {e : Expr} {k : Str → Pos → Bool} (h : xE_Name e k = true) : ∃ a b, e = .Name a b ∧ k a b = true := xE_Name_inv (M := fun e => ∃ a b, e = .Name a b ∧ k a b = true) h fun a b h => ⟨a, b, rfl, h⟩
theorem is_Tuple {e : Expr} {k : List Expr → Nat → Pos → Bool} (h : xE_Tuple e k = true) : ∃ a b c, e = .Tuple a b c ∧ k a b c = true := xE_Tuple_inv (M := fun e => ∃ a b c, e = .Tuple a b c ∧ k a b c = true) h fun a b c h => ⟨a, b, c, rfl, h⟩
theorem len_two {α : Type} : ∀ {l : List α}, l.length = 2 → ∃ a b, l = [a, b]
  | [a, b], _ => ⟨a, b, rfl⟩
theorem se_isi (b : Base K w B) {x : Ex} {cs : List Nat} (hx : SE w B d x) : SE w B d (.isi x cs) := by
  intro ce env e A L σ k hA hc hv φ ρ s R F
  refine invE_isi hc fun id p x' c' pos hc => ?_
  · simp only [Bool.and_eq_true, beq_iff_eq] at hc
    obtain ⟨⟨⟨⟨h1, rfl⟩, h3⟩, h4⟩, h5⟩ := hc
    conv at hv => whnf
    rcases (Bool.or_eq_true _ _).mp h5 with h5 | h5
    · obtain ⟨id2, p2, rfl, h6⟩ := is_Name h5
      replace h5 : (chkIsi ce cs [Expr.Name id2 p2] && cs.length == 1) = true := h6
      simp only [Bool.and_eq_true, beq_iff_eq] at h5
      clear h6
      obtain ⟨h5, h6⟩ := h5
      obtain ⟨c, rfl⟩ := List.length_eq_one_iff.mp h6
      · obtain ⟨id', p', t, e0, g1, g2, g3, g4⟩ := chkIsi_cons h5
        cases e0
        have hl : [x', Expr.Name id2 p2].all notStar = true := by rw [List.all_cons, h3]; rfl
        refine Call_ (name_bi b R F h1 (b.facts.bi _ (by decide)) boot_isi (by decide) ?_)
        refine Calls.callWith_builtin (plain_any hl) (evalArgs_l hl ?_)
        refine wpAny_items_cons (SemE.next (hx hA h4 hv) R F fun v1 s1 φ1 ρ1 σ1 x1 E1 R1 F1 X1 h7 => ?_) (starEach_cons h3)
        refine wpAny_items_cons (cls_name b R1 F1 g1 g2 g3 (wpAny_items_nil ?_)) (starEach_cons rfl)
        exact wpAny_mono (isi_one_sound b R1 X1 g3 h7) (fun _ _ z => Post.trans E1 (Post.kb z fun y hy => hy)) fun _ _ z => z
    · obtain ⟨es, m, p2, rfl, h6⟩ := is_Tuple h5
      replace h5 : (chkIsi ce cs es && cs.length == 2) = true := h6
      simp only [Bool.and_eq_true, beq_iff_eq] at h5
      clear h6
      obtain ⟨h5, h6⟩ := h5
      obtain ⟨c1, c2, rfl⟩ := len_two h6
      · obtain ⟨id1, p1, t1, rfl, g1, g2, g3, g4⟩ := chkIsi_cons h5
        obtain ⟨id2, p2', t2, rfl, f1, f2, f3, f4⟩ := chkIsi_cons g4
        cases chkIsi_nil f4
        have hl : [x', Expr.Tuple [Expr.Name id1 p1, Expr.Name id2 p2'] m p2].all notStar = true := by rw [List.all_cons, h3]; rfl
        refine Call_ (name_bi b R F h1 (b.facts.bi _ (by decide)) boot_isi (by decide) ?_)
        refine Calls.callWith_builtin (plain_any hl) (evalArgs_l hl ?_)
        refine wpAny_items_cons (SemE.next (hx hA h4 hv) R F fun v1 s1 φ1 ρ1 σ1 x1 E1 R1 F1 X1 h7 => ?_) (starEach_cons h3)
        refine wpAny_items_cons (wpAny_Tuple ?_) (starEach_cons rfl)
        refine wpAny_items_cons (cls_name b R1 F1 g1 g2 g3 ?_) (starEach_cons rfl)
        refine wpAny_items_cons (cls_name b R1 F1 f1 f2 f3 (wpAny_items_nil ⟨by rw [sizeLine_is]; simp, wpAny_items_nil ?_⟩)) (starEach_cons rfl)
        have R2 := R1.push ({ cls := .type "tuple", data := .seq [if c1 = 27 then Value.type "bool" else .ref (clsAddr c1), if c2 = 27 then Value.type "bool" else .ref (clsAddr c2)].toArray } : Obj) s1.toks
        refine wpAny_mono (isi_tup_sound (cs := [c1, c2]) b R2 (X1) (by simp [g3, f3]) (by simp) h7 (Heap.get?_push_size _ rfl) rfl) (fun _ _ z => Post.trans (E1.trans (Ext.push _ _)) (Post.kb z fun y hy => hy)) fun _ _ z => z
end
end Mine
end
section
open PySem PySem.W PyProof.Rows Builtin Builtin.ObjectAttr
set_option Elab.async false
set_option maxRecDepth 100000
namespace Mine

section
variable {K : Frag} {w : World} {B : Shared} {σ σ₁ : Sig} {φ φ₁ : Fz} {ρ ρ₁ : Rh} {s s₁ : Shared} {A : Around} {ce : CE} {env : Env} {L : Locs} {n₀ d : Nat}

theorem keep_of_fn {f : Addr} (h : fnIn K f = true) : keepIn K (.ref f) = true := by
  unfold fnIn at h
  unfold keepIn
  dsimp only
  generalize K.lookup f = o at h ⊢
  cases o with
  | none => cases h
  | some o => obtain ⟨_, _, d, _⟩ := o; cases d <;> first | rfl | exact absurd h Bool.false_ne_true
theorem meth_lt : ∀ c, c < 15 → ∀ a, a < 41 → (match attrOf c a with | .meth f => decide (f < 71) | _ => true) = true := by decide +kernel
theorem attr_meth_lt {c a f : Nat} (h : attrOf c a = .meth f) : f < 71 := by
  obtain ⟨hc, ha⟩ := attrOf_lt (c := c) (a := a) (by rw [h]; exact fun z => by cases z)
  have := meth_lt c hc a ha
  rw [h] at this
  simpa using this

noncomputable def MkP (w : World) (B : Shared) (d : Nat) : Prop := ∀ c, c < 11 → ∀ (xs : List PV), xs.length = arity c → ∀ (σ : Sig) (k : XV → Sig → Prop), k (.p (.obj c xs)) σ → ∀ A φ ρ s vals, AOk d A → Rel w B σ φ ρ s → RVs φ xs vals →
  wpAny (model pw w) A (call (.ref (clsAddr c)) vals) (Post w B φ ρ s k) NoE s

theorem bud_under {A : Around} {c : Nat} {vals : List Value} (hA : AOk d A) : Bud d (A.under (.builtin "type.__call__" ⟨.ref (clsAddr c) :: vals, []⟩)) := by
  have e1 : (Code.builtin "type.__call__" ⟨.ref (clsAddr c) :: vals, []⟩).frames = 0 := by kernel_rfl
  have h1 : (Code.builtin "type.__call__" ⟨.ref (clsAddr c) :: vals, []⟩).weight ≤ 1 := by
    have e2 : (Code.builtin "type.__call__" ⟨.ref (clsAddr c) :: vals, []⟩).isCreation = true := rfl
    have e3 : (Code.builtin "type.__call__" ⟨.ref (clsAddr c) :: vals, []⟩).isGuard = false := by
      show guardIds.contains "type.__call__" = false; decide +kernel
    have e4 : (Code.builtin "type.__call__" ⟨.ref (clsAddr c) :: vals, []⟩).isCaller = false := by kernel_rfl
    unfold Code.weight
    rw [e1, e2, e3, e4]
    simp
  have h2 : (Code.builtin "type.__call__" ⟨.ref (clsAddr c) :: vals, []⟩).cUnits ≤ 1 := by
    show 1 + 3 * (Code.builtin "type.__call__" ⟨.ref (clsAddr c) :: vals, []⟩).frames ≤ 1
    rw [e1]; simp
  refine ⟨hA.handled, ?_, ?_⟩
  · show A.depth + _ + 4 * d + 8 ≤ 1000
    have := hA.dep
    (first | lia | omega)
  · show A.units + _ + 20 * d + 300 ≤ 9900
    have := hA.un
    (first | lia | omega)

/-! ## a new thing -/
/-- how a new thing comes to be: its words are empty, then its __init__ is called -/
theorem make_inst (b : Base K w B) {c : Nat} (hc : c < 15) {vals : List Value} {R' : Result → Shared → Prop} (R : Rel w B σ φ ρ s)
    (h : ∀ h' φ' x dx, h' = (s.heap.push emptyDict).push (instObj (clsAddr c) s.heap.objs.size) → dx = s.heap.objs.size → x = dx + 1 → φ' = φ.put x (instObj (clsAddr c) dx) → Ext φ ρ s.heap φ' (ρ ++ [(x, dx)]) h' → Rel w B (σ ++ [.inst c []]) φ' (ρ ++ [(x, dx)]) { s with heap := h' } →
      codeAny (model pw w) (A.under (.builtin "type.__call__" ⟨.ref (clsAddr c) :: vals, []⟩)) (.call (.ref (fnAddr (ini c))) ⟨.ref x :: vals, []⟩) (InitBack x R') { s with heap := h' }) :
    codeAny (model pw w) A (.call (.ref (clsAddr c)) ⟨vals, []⟩) R' s := by
  obtain ⟨hh, g, dr, t, os⟩ := s
  have F := b.facts.clsF hc
  have X := b.now R
  have hn : hh.get? hh.objs.size = none := none_of_size (Nat.le_refl _)
  have hn' : hh.get? (hh.objs.size + 1) = none := none_of_size (Nat.le_succ _)
  have k1 : ∀ b o, hh.get? b = some o → ((hh.push emptyDict).push (instObj (clsAddr c) hh.objs.size)).get? b = some o := fun b o e => Heap.get?_push_of_some _ (Heap.get?_push_of_some _ e)
  have gx : ((hh.push emptyDict).push (instObj (clsAddr c) hh.objs.size)).get? (hh.objs.size + 1) = some (instObj (clsAddr c) hh.objs.size) := by
    have := Heap.get?_push_size (hh.push emptyDict) (o := instObj (clsAddr c) hh.objs.size) rfl
    rwa [Heap.size_push] at this
  have gd : ((hh.push emptyDict).push (instObj (clsAddr c) hh.objs.size)).get? hh.objs.size = some emptyDict := Heap.get?_push_of_some _ (Heap.get?_push_size _ rfl)
  have fx : φ (hh.objs.size + 1) = none := R.fresh' (Nat.le_succ _)
  have fd : φ hh.objs.size = none := R.fresh
  have rx : ∀ p ∈ ρ, hh.objs.size + 1 ≠ p.2 := R.mem_ne (Nat.le_succ _)
  have rd : ∀ p ∈ ρ, hh.objs.size ≠ p.2 := R.mem_ne (Nat.le_refl _)
  have R1 : Rel w B σ φ ρ ⟨(hh.push emptyDict).push (instObj (clsAddr c) hh.objs.size), g, dr, t, os⟩ := R.keeps (tk := t) k1
  have R2 := R1.freeze gx fx rx
  have hdx : (φ.put (hh.objs.size + 1) (instObj (clsAddr c) hh.objs.size)) hh.objs.size = none := by
    rw [Fz.put_ne _ _ (by exact Nat.ne_of_lt (Nat.lt_succ_self _))]; exact fd
  have R3 : Rel w B (σ ++ [.inst c []]) (φ.put (hh.objs.size + 1) (instObj (clsAddr c) hh.objs.size)) (ρ ++ [(hh.objs.size + 1, hh.objs.size)]) ⟨(hh.push emptyDict).push (instObj (clsAddr c) hh.objs.size), g, dr, t, os⟩ :=
    R2.addCell (c := .inst c []) ⟨Fz.put_self _ _ _, [], 0, [], gd, Nat.zero_le _, by rw [List.length_nil, List.take_zero]; exact .nil, .nil⟩ hdx (fun q hq e => rd q hq e.symm)
  have E3 : Ext φ ρ hh (φ.put (hh.objs.size + 1) (instObj (clsAddr c) hh.objs.size)) (ρ ++ [(hh.objs.size + 1, hh.objs.size)]) ((hh.push emptyDict).push (instObj (clsAddr c) hh.objs.size)) :=
    ((Ext.keeps k1).put hn').addCell hn
  exact make_core (makes_of X F.mks) (looks_findIn X F.ini) (fun self => bind_fn X self F.fn) (.inl rfl) (h _ _ _ _ rfl rfl rfl rfl E3 R3)

/-- a new thing that may change -/
theorem new_sound (b : Base K w B) {c f : Nat} {k : XV → Sig → Prop} (hf : initOf c = some f) (hc : c < 15) (hA : AOk d A) (R : Rel w B σ φ ρ s)
    (h : CallP w B d f [.c σ.length] (σ ++ [.inst c []]) fun v σ₁ => v = .p .none ∧ k (.c σ.length) σ₁) :
    codeAny (model pw w) A (.call (.ref (clsAddr c)) ⟨[], []⟩) (PostC w B φ ρ s k) s := by
  refine make_inst b hc R fun h' φ' x dx _ _ _ _ E1 R1 => ?_
  have hi : ini c = f := by
    have : ∀ c, c < 15 → (initOf c).all (fun f => ini c == f) = true := by decide
    have := this c hc
    rw [hf] at this
    exact beq_iff_eq.mp this
  rw [hi]
  have Xc : RX φ' (ρ ++ [(x, dx)]) (.c σ.length) (.ref x) := .c (m := dx) (by rw [← R.len]; simp)
  refine codeAny_mono (h _ φ' (ρ ++ [(x, dx)]) _ [.ref x] (bud_under hA) R1 (.cons Xc .nil)) fun r s' z => ?_
  rcases r with e | (v | _ | _ | _)
  · exact z.elim
  · exact z.elim
  · exact z.elim
  · exact z.elim
  · refine Post.el z fun φ2 ρ2 σ2 y E2 R2 X2 hh => ?_
    obtain ⟨rfl, hk⟩ := hh
    refine X2.p_of.none_of ?_
    exact ⟨rfl, φ2, ρ2, σ2, _, E1.trans E2, R2, Xc.mono (Ext.le R1 E2) E2.rh, hk⟩
end
end Mine
end
section
open PySem PySem.W PyProof.Rows Builtin Builtin.ObjectAttr
set_option Elab.async false
set_option maxRecDepth 100000
namespace Mine

section
variable {K : Frag} {w : World} {B : Shared} {σ σ₁ : Sig} {φ φ₁ : Fz} {ρ ρ₁ : Rh} {s s₁ : Shared} {A : Around} {ce : CE} {env : Env} {L : Locs} {n₀ d : Nat}

/-! ## frozen own things are made -/
noncomputable def fldIdx : Nat → List Nat
  | 0 => [1] | 1 => [2] | 2 => [3] | 3 => [2, 1] | 4 => [3, 1] | 5 => [4, 5, 6] | 6 => [7, 8, 9, 10] | 7 => [11, 12] | 8 => [13] | 9 => [14, 12] | 10 => [15, 16, 10] | _ => []
noncomputable def initGo : List Nat → Nat → Sms
  | [], _ => .nil
  | a :: r, i => .cons (.astore (.var 0) a (.var i)) (initGo r (i + 1))
noncomputable def initFis : List FnInfo := [f60, f61, f62, f63, f64, f65, f66, f67, f68, f69, f70]
noncomputable def initFi (c : Nat) : FnInfo := (initFis[c]?).getD f70
theorem initFi_is : ∀ c, c < 11 → fnInfo (60 + c) = some (initFi c) ∧ (initFi c).body = initGo (fldIdx c) 1 ∧ (initFi c).np = arity c + 1
  | 0, _ => ⟨rfl, rfl, rfl⟩
  | 1, _ => ⟨rfl, rfl, rfl⟩
  | 2, _ => ⟨rfl, rfl, rfl⟩
  | 3, _ => ⟨rfl, rfl, rfl⟩
  | 4, _ => ⟨rfl, rfl, rfl⟩
  | 5, _ => ⟨rfl, rfl, rfl⟩
  | 6, _ => ⟨rfl, rfl, rfl⟩
  | 7, _ => ⟨rfl, rfl, rfl⟩
  | 8, _ => ⟨rfl, rfl, rfl⟩
  | 9, _ => ⟨rfl, rfl, rfl⟩
  | 10, _ => ⟨rfl, rfl, rfl⟩
  | n + 11, h => absurd h (Nat.not_lt.mpr (Nat.le_add_left 11 n))
theorem fldIdx_is : ∀ c, c < 11 → (fldIdx c).length = arity c ∧ ∀ j, j < (fldIdx c).length → ∃ a, (fldIdx c)[j]? = some a ∧ (match attrOf c a with | .field i => i == j | _ => false) = true := by decide +kernel

theorem swaps_attr {e o : Expr} {n : Str} {p : Pos} {line : Nat} : swapsWith e (some (.Attribute o n p)) line env = pure false := by cases e <;> rfl
theorem swaps_sub {e o i : Expr} {p : Pos} {line : Nat} : swapsWith e (some (.Subscript o i p)) line env = pure false := by cases e <;> rfl

/-- the body of such an __init__ -/
theorem init_body (b : Base K w B) {c : Nat} (hc : c < 11) (xs : List PV) (hl : xs.length = arity c) (τ : Sig) (L : Locs) (hL0 : L[0]? = some (some (.c τ.length))) (hL : ∀ j x, xs[j]? = some x → L[j + 1]? = some (some (.p x))) :
    ∀ (r : List Nat) (j : Nat), r = (fldIdx c).drop j → j ≤ xs.length → ∀ {ce env A l}, chkSs ce (initGo r (j + 1)) l = true →
      SemS w B A ce env n₀ (execs l env) L (τ ++ [.inst c ((xs.take j).map .p)]) fun f _ σ' => f = .next ∧ σ' = τ ++ [.inst c (xs.map .p)]
  | [], j, hr, hj, ce, env, A, l, hk, φ, ρ, s, R, F, hn => by
    have hlen := (fldIdx_is c hc).1
    have : j = xs.length := by
      have := congrArg List.length hr
      simp only [List.length_nil, List.length_drop, hlen, hl.symm] at this
      (first | lia | omega)
    subst this
    rw [List.take_length] at R
    cases l with
    | nil => exact wpAny_execs_nil (PostS.next R F (ExtO.refl hn) ⟨rfl, rfl⟩)
    | cons _ _ => exact absurd hk Bool.false_ne_true
  | a :: r, j, hr, hj, ce, env, A, l, hk, φ, ρ, s, R, F, hn => by
    obtain ⟨h1, h2⟩ := fldIdx_is c hc
    have hjl : j < (fldIdx c).length := by
      have := congrArg List.length hr
      simp only [List.length_cons, List.length_drop] at this
      (first | lia | omega)
    have ha : (fldIdx c)[j]? = some a := by
      have := congrArg (·[0]?) hr
      simpa using this.symm
    have hr' : r = (fldIdx c).drop (j + 1) := by
      have := congrArg List.tail hr
      simpa using this
    obtain ⟨a', e1, e2⟩ := h2 j hjl
    rw [ha] at e1; cases e1
    have hat : attrOf c a = .field j := by
      split at e2
      · rename_i i q; rw [q, beq_iff_eq.mp e2]
      · cases e2
    have hjx : j < xs.length := by (first | lia | omega)
    obtain ⟨x, hx⟩ : ∃ x, xs[j]? = some x := ⟨_, List.getElem?_eq_getElem hjx⟩
    cases l with
    | nil => exact absurd hk Bool.false_ne_true
    | cons st l =>
      obtain ⟨hk1, hk2⟩ := Bool.and_eq_true_iff.mp hk
      refine invS_astore hk1 fun o' n p1 e p2 hk1 => ?_
      · simp only [Bool.and_eq_true, beq_iff_eq] at hk1
        obtain ⟨⟨rfl, hk3⟩, hk4⟩ := hk1
        refine invE_var hk3 fun _ _ hk3 => ?_
        · refine invE_var hk4 fun _ _ hk4 => ?_
          · refine wpAny_execs_cons (plainObj_wpAny_Assign_Attribute ?_ swaps_attr)
            refine name_var F hk3 (hL j x hx) fun u X => ?_
            refine name_var F hk4 hL0 fun uo Xo => ?_
            have hi : (τ ++ [Cell.inst c ((xs.take j).map .p)])[τ.length]? = some (.inst c ((xs.take j).map .p)) := by simp
            have hlt : ((xs.take j).map XV.p).length = j := by rw [List.length_map, List.length_take]; (first | lia | omega)
            refine setAttr_sound b R Xo hi hat (by rw [hlt]; exact Nat.le_refl _) X fun h' tk R1 E1 => ?_
            rw [if_neg (by rw [hlt]; exact Nat.lt_irrefl _)] at R1
            have e3 : (τ ++ [Cell.inst c ((xs.take j).map .p)]).set τ.length (.inst c ((xs.take j).map .p ++ [.p x])) = τ ++ [.inst c ((xs.take (j + 1)).map .p)] := by
              rw [List.set_append_right _ _ (Nat.le_refl _), Nat.sub_self, List.set_cons_zero, List.take_add_one, hx]
              simp
            rw [e3] at R1
            have F1 := F.ext R E1
            refine wpAny_mono (init_body b hc xs hl τ L hL0 hL r (j + 1) hr' hjx hk2 φ ρ _ R1 F1 hn) (fun f s2 z => PostS.trans (E1.toO hn) z) fun _ _ z => z

theorem RXs.toRVs {xs : List PV} : ∀ {vs : List Value}, RXs φ ρ (xs.map .p) vs → RVs φ xs vs := by
  induction xs with
  | nil => intro vs h; cases h; exact .nil
  | cons x r ih =>
    intro vs h
    cases h with
    | cons a q => exact .cons a.p_of (ih q)
theorem RVs.toRXs : ∀ {xs : List PV} {vs : List Value}, RVs φ xs vs → RXs φ ρ (xs.map .p) vs
  | _, _, .nil => .nil
  | _, _, .cons a r => .cons (.p a) r.toRXs

theorem mk_sound (b : Base K w B) : MkP w B d := by
  intro c hc xs hl σ k hk A φ ρ s vals hA R X
  obtain ⟨i1, i2, i3⟩ := initFi_is c hc
  refine call_of (make_inst b (Nat.lt_trans hc (by decide)) R fun h' φ' x dx eh ed ex ef E1 R1 => ?_)
  have hini : ini c = 60 + c := by unfold ini; rw [if_pos hc]
  rw [hini]
  have bud := bud_under (c := c) (vals := vals) hA
  have Xc : RX φ' (ρ ++ [(x, dx)]) (.c σ.length) (.ref x) := .c (m := dx) (by rw [← R.len]; simp)
  have Xs : RXs φ' (ρ ++ [(x, dx)]) (.c σ.length :: xs.map .p) (.ref x :: vals) := .cons Xc ((X.mono (Ext.le R E1)).toRXs)
  refine codeAny_mono (call_sound b (k := fun v σ₁ => v = .p .none ∧ σ₁ = σ ++ [.inst c (xs.map .p)]) i1 (by simp [i3, hl]) (by have := bud.2.1; show _ < 1000; (first | lia | omega)) (fun sc env body hcb => ?_) R1 Xs) fun r s' z => ?_
  · rw [i2] at hcb
    have := init_body (n₀ := (ρ ++ [(x, dx)]).length) (env := env) (A := (A.under (.builtin "type.__call__" ⟨.ref (clsAddr c) :: vals, []⟩)).deeper env) b hc xs hl σ (startL (.c σ.length :: xs.map .p) (initFi c)) (by simp [startL]) (fun j y hy => by
      have hj := (List.getElem?_eq_some_iff.mp hy).1
      unfold startL
      rw [List.getElem?_append_left (by simpa using hj)]
      simp [hy]) (fldIdx c) 0 rfl (Nat.zero_le _) hcb
    intro φ3 ρ3 s3 R3 F3 hn3
    refine wpAny_mono (this φ3 ρ3 s3 R3 F3 hn3) (fun f s4 z => ?_) fun _ _ z => z
    cases f with
    | next =>
      obtain ⟨φ4, ρ4, σ4, L4, q1, q2, q3, q4, q5⟩ := z
      exact ⟨φ4, ρ4, σ4, L4, q1, q2, q3, rfl, q5⟩
    | ret v =>
      obtain ⟨φ4, ρ4, σ4, L4, y, q1, q2, q3, q4, q5⟩ := z
      cases q4
    | brk => exact z
    | cont => exact z
  · rcases r with e | (v | _ | _ | _)
    · exact z.elim
    · exact z.elim
    · exact z.elim
    · exact z.elim
    · refine Post.el z fun φ2 ρ2 σ2 y E2 R2 X2 hh => ?_
      obtain ⟨rfl, rfl⟩ := hh
      clear z
      refine X2.p_of.none_of ?_
      · refine ⟨rfl, ?_⟩
        -- the thing is frozen
        obtain ⟨r2, hr2, hr3⟩ := E2.pre
        have hr0 : r2 = [] := by
          have h1 := R2.len
          rw [hr2] at h1
          have h2 := R1.len
          simp only [List.length_append, List.length_singleton] at h1 h2
          exact List.eq_nil_of_length_eq_zero (by (first | lia | omega))
        subst hr0
        rw [List.append_nil] at hr2
        subst hr2
        have hρ : (ρ ++ [(x, dx)])[σ.length]? = some (x, dx) := by rw [← R.len]; simp
        refine R2.cellInst_el hρ (c := c) (fs := xs.map .p) (by simp) fun g1 es n vs g2 g3 g4 g5 => ?_
        have R3 : Rel w B σ φ2 ρ s' := by
          refine Rel.take (τ := [.inst c (xs.map .p)]) (ρ₁ := [(x, dx)]) R2 R.len fun cc hcc => ?_
          cases cc with
          | list _ => trivial
          | dict _ _ => trivial
          | inst c' fs =>
            intro y hy
            obtain ⟨i, hi, e⟩ := List.mem_iff_getElem.mp hcc
            have hp : i < ρ.length := by rw [R.len]; exact hi
            refine R.cellInst_el (List.getElem?_eq_getElem hp) (c := c') (fs := fs) (by rw [List.getElem?_eq_getElem hi, e]) fun _ _ _ vs' _ _ _ RX' => ?_
            obtain ⟨j, hj, e'⟩ := List.mem_iff_getElem.mp hy
            obtain ⟨u, _, Xu⟩ := RX'.get (List.getElem?_eq_getElem hj)
            rw [e'] at Xu
            cases Xu with
            | p _ => trivial
            | c h => exact (List.getElem?_eq_some_iff.mp h).1
            | bm h _ => exact (List.getElem?_eq_some_iff.mp h).1
        have hdx : φ2 dx = none := R2.off (x, dx) (by simp)
        have rdx : ∀ p ∈ ρ, dx ≠ p.2 := fun p hp e => (List.pairwise_append.mp R2.apart).2.2 p hp (x, dx) (by simp) e.symm
        have R4 := R3.freeze g2 hdx rdx
        have hlen : (xs.map XV.p).length = (fldNames c).length := by
          have : ∀ c, c < 11 → arity c = (fldNames c).length := by decide
          rw [List.length_map, hl, this c hc]
        rw [hlen, List.take_length] at g4
        have E12 := E1.trans E2
        have ndx : s.heap.get? dx = none := by rw [ed]; exact none_of_size (Nat.le_refl _)
        have le2 : FzLe φ2 (φ2.put dx (dictOf es n)) := Fz.le_put hdx
        refine ⟨φ2.put dx (dictOf es n), ρ, σ, .p (.obj c xs), ?_, R4, .p (.obj hc (le2 _ _ g1) (Fz.put_self _ _ _) g4 (g5.toRVs.mono le2)), hk⟩
        refine Ext.put (φ₁ := φ2) ⟨E12.live, E12.keep, E12.fz, [], by simp, by simp⟩ ndx
end
end Mine
end
section
open PySem PySem.W PyProof.Rows Builtin Builtin.ObjectAttr
set_option Elab.async false
set_option maxRecDepth 100000
namespace Mine

section
variable {K : Frag} {w : World} {B : Shared} {σ σ₁ : Sig} {φ φ₁ : Fz} {ρ ρ₁ : Rh} {s s₁ : Shared} {A : Around} {ce : CE} {env : Env} {L : Locs} {n₀ d : Nat}

theorem callWith_l {f : Value} {first : List Value} {l : List Expr} {pos : Pos} {Q : Value → Shared → Prop} (hl : l.all notStar = true) (hk : keepIn K f = true)
    (h : wpAny (model pw w) A (spliced (backTo pos (starEach l env))) (fun vs s₁ => K.In s₁.heap ∧ wpAny (model pw w) A (call f (first ++ vs)) Q NoE s₁) NoE s) :
    wpAny (model pw w) A (callWith pos f first (backTo pos (starEach l env)) []) Q NoE s :=
  PySem.W.callWith_of (P := K.In) (by rw [plain_any hl]; rfl) (keeps_K hk) (evalArgs_l hl h)

theorem se_mk (b : Base K w B) {c : Nat} {es : Exs} (hs : SEs w B d es) : SE w B d (.mk c es) := by
  intro ce env e A L σ k hA hc hv φ ρ s R F
  refine invE_mk hc fun id p vs pos hc => ?_
  · simp only [Bool.and_eq_true, beq_iff_eq, decide_eq_true_eq] at hc
    obtain ⟨⟨⟨⟨⟨h1, rfl⟩, h3⟩, h4⟩, h5⟩, h6⟩ := hc
    conv at hv => whnf
    have C := b.facts.clsF (Nat.lt_trans h3 (by decide : 11 < 15))
    refine Call_ (name_top b R F h1 C.ns ?_)
    refine callWith_l h4 C.keep (hs.next hA h6 hv R F fun vs s1 φ1 ρ1 σ1 x1 hl E1 R1 F1 X1 h7 => ⟨b.now R1, ?_⟩)
    refine asPs_el X1 h7 fun ys Y hh => ?_
    obtain ⟨⟨h8, h9⟩, h7⟩ := hh
    exact wpAny_mono (mk_sound b c h3 ys h9 _ _ h7 A _ _ _ _ hA R1 Y) (fun _ _ z => Post.trans E1 z) fun _ _ z => z
theorem initOf_lt {c f : Nat} (h : initOf c = some f) : c < 15 := by
  unfold initOf at h
  split at h <;> first | decide | cases h
theorem se_new (b : Base K w B) {c : Nat} : SE w B d (.new c) := by
  intro ce env e A L σ k hA hc hv φ ρ s R F
  refine invE_new hc fun id p pos hc => ?_
  · simp only [Bool.and_eq_true, beq_iff_eq] at hc
    obtain ⟨⟨h1, rfl⟩, h3⟩ := hc
    conv at hv => whnf
    refine someP_el hv fun f e1 hv => ?_
    have C := b.facts.clsF (initOf_lt e1)
    refine Call_ (name_top b R F h1 C.ns ?_)
    refine callWith_l (l := []) rfl C.keep (wpAny_items_nil ⟨b.now R, ?_⟩)
    exact call_of (new_sound b e1 (initOf_lt e1) hA R hv)
theorem se_call (b : Base K w B) {f : Nat} {es : Exs} (hs : SEs w B d es) : SE w B d (.call f es) := by
  intro ce env e A L σ k hA hc hv φ ρ s R F
  refine invE_call hc fun id p vs pos hc => ?_
  · simp only [Bool.and_eq_true, beq_iff_eq, decide_eq_true_eq] at hc
    obtain ⟨⟨⟨⟨⟨h1, rfl⟩, h3⟩, h4⟩, h5⟩, h6⟩ := hc
    conv at hv => whnf
    refine Call_ (name_top b R F h1 (b.facts.fns f h3) ?_)
    refine callWith_l h4 (keep_of_fn (b.facts.fnk f (Nat.lt_trans h3 (by decide)))) (hs.next hA h6 hv R F fun vs s1 φ1 ρ1 σ1 x1 hl E1 R1 F1 X1 h7 => ⟨b.now R1, ?_⟩)
    exact wpAny_mono (call_of (h7 A _ _ _ _ hA.bud R1 X1)) (fun _ _ z => Post.trans E1 z) fun _ _ z => z
theorem se_callv (b : Base K w B) {i : Nat} {es : Exs} (hs : SEs w B d es) : SE w B d (.callv i es) := by
  intro ce env e A L σ k hA hc hv φ ρ s R F
  refine invE_callv hc fun id p vs pos hc => ?_
  · simp only [Bool.and_eq_true, decide_eq_true_eq] at hc
    obtain ⟨⟨⟨h1, h4⟩, h5⟩, h6⟩ := hc
    conv at hv => whnf
    split at hv
    · rename_i f j eL
      obtain ⟨hf, hv⟩ := hv
      refine Call_ (name_var F h1 eL fun u X => ?_)
      cases X with
      | @bm _ _ a m q e1 e2 =>
        refine PySem.W.callWith_of (P := fun h => MethP K q (fnAddr f) (.ref a) h) (by rw [plain_any h4]; rfl) (keeps_M (b.facts.fnk f (Nat.lt_trans hf (by decide)))) (evalArgs_l h4 (hs.next hA h6 hv R F fun vs s1 φ1 ρ1 σ1 x1 hl E1 R1 F1 X1 h7 => ?_))
        have hq := R1.sub _ _ (Ext.le R E1 _ _ e2)
        refine ⟨⟨hq, b.now R1⟩, ?_⟩
        refine wpAny_mono (call_of (method_call hq (h7 A _ _ _ _ hA.bud R1 (.cons (.c (E1.rh _ _ e1)) X1)))) (fun _ _ z => Post.trans E1 z) fun _ _ z => z
    · exact hv.elim

theorem base_attr {o : Expr} {n : Str} (h : baseNA o = true) : attributeBase o n env (eval o env) = eval o env := by
  cases o <;> first | rfl | cases h
theorem few_args {pos : Pos} {l : List Expr} (hl : l.all notStar = true) (h : l.length < 10) : ((backTo pos (starEach l env)).all (fun x => !x.1) && (backToKw pos (keywordEach [] env)).all (fun x => x.1.isSome)
      && decide (l.length + ([] : List Keyword).length + (if ([] : List Keyword).isEmpty then 0 else 1) < 30)) = true := by
  rw [plain_all hl]
  have : (backToKw pos (keywordEach [] env)).all (fun x => x.1.isSome) = true := rfl
  rw [this]
  simp
  (first | lia | omega)
theorem Call_meth {o : Expr} {name : Str} {apos pos : Pos} {l : List Expr} {Q : Value → Shared → Prop} (hb : baseNA o = true) (hl : l.all notStar = true) (hn : l.length < 10) (hline : (apos.endLine == pos.line) = true)
    (h : wpAny (model pw w) A (eval o env) (fun ov s₁ => ∀ pl : Sem Bool, wpAny (model pw w) A (getMethod ov name pl) (fun fx s₂ => wpAny (model pw w) A (callWith pos fx.1 fx.2 (backTo pos (starEach l env)) []) Q NoE s₂) NoE s₁) NoE s) :
    wpAny (model pw w) A (eval (.Call (.Attribute o name apos) l [] pos) env) Q NoE s := by
  rw [arm_eval_Call, base_attr hb]
  refine wpAny_bind (wpAny_mono h (fun ov s₁ h₁ => ?_) fun _ _ e => e)
  refine wpAny_bind (wpAny_standAt ?_)
  have hform : methodCallForm (l.length + ([] : List Keyword).length) (backTo pos (starEach l env)) (backToKw pos (keywordEach [] env)) = true := few_args hl hn
  have hpos : methodCallPos true o env apos pos = pure pos := by unfold methodCallPos; simp [hline]
  unfold methodCall
  rw [hform]
  refine wpAny_bind (wpAny_holding (wpAny_mono (h₁ _) (fun fx s₂ h₂ => ?_) fun _ _ e => e))
  exact wpAny_bind (wpAny_of_eq hpos h₂)
theorem methP_and {v : XV} {a : Nat} {k : Nat → Prop} (h : methP v a σ k) : methP v a σ fun f => f < 71 ∧ k f := by
  unfold methP at h ⊢
  cases v with
  | p v =>
    cases v with
    | obj c fs =>
      dsimp only at h ⊢
      cases q : attrOf c a <;> rw [q] at h <;> first | exact h.elim | exact ⟨attr_meth_lt q, h⟩
    | _ => exact h.elim
  | c i =>
    dsimp only at h ⊢
    cases q2 : σ[i]? with
    | none => rw [q2] at h; exact h.elim
    | some cl =>
      rw [q2] at h
      cases cl with
      | inst c fs =>
        dsimp only at h ⊢
        cases q : attrOf c a <;> rw [q] at h <;> first | exact h.elim | exact ⟨attr_meth_lt q, h⟩
      | _ => exact h.elim
  | bm _ _ => exact h.elim
theorem se_meth (b : Base K w B) {o : Ex} {a : Nat} {es : Exs} (ho : SE w B d o) (hs : SEs w B d es) : SE w B d (.meth o a es) := by
  intro ce env e A L σ k hA hc hv φ ρ s R F
  refine invE_meth hc fun o' n apos vs pos hc => ?_
  · simp only [Bool.and_eq_true, beq_iff_eq, decide_eq_true_eq] at hc
    obtain ⟨⟨⟨⟨⟨⟨h1, rfl⟩, h3⟩, h4⟩, h5⟩, h6⟩, h7⟩ := hc
    conv at hv => whnf
    refine Call_meth h1 h4 h5 (by rw [h3]; simp) (SemE.next (ho hA h6 hv) R F fun v s1 φ1 ρ1 σ1 x1 E1 R1 F1 X1 h8 pl => ?_)
    have h8' := methP_and h8
    refine methP_sound b R1 X1 h8' fun f ⟨hf, hk⟩ => ?_
    refine callWith_l h4 (keep_of_fn (b.facts.fnk f hf)) (hs.next hA h7 hk R1 F1 fun vs s2 φ2 ρ2 σ2 x2 hl E2 R2 F2 X2 h9 => ⟨b.now R2, ?_⟩)
    exact wpAny_mono (call_of (h9 A _ _ _ _ hA.bud R2 (.cons (X1.mono (Ext.le R1 E2) E2.rh) X2))) (fun _ _ z => Post.trans (E1.trans E2) z) fun _ _ z => z
end
end Mine
end
section
open PySem PySem.W PyProof.Rows Builtin Builtin.ObjectAttr
set_option Elab.async false
set_option maxRecDepth 100000
namespace Mine

section
variable {K : Frag} {w : World} {B : Shared} {σ σ₁ : Sig} {φ φ₁ : Fz} {ρ ρ₁ : Rh} {s s₁ : Shared} {A : Around} {ce : CE} {env : Env} {L : Locs} {n₀ d : Nat}

theorem onList_of (R : Rel w B σ φ ρ s) {v : XV} {u : Value} {k : Nat → List PV → Prop} (X : RX φ ρ v u) (h : onList v σ k) : ∃ i m xs vs n, v = .c i ∧ u = .ref m ∧ ρ[i]? = some (m, m) ∧ σ[i]? = some (.list xs) ∧ s.heap.get? m = some { cls := .type "list", data := .seq vs n } ∧ RVs φ xs vs.toList ∧ k i xs := by
  cases X with
  | @c i a m e =>
    unfold onList at h
    dsimp only at h
    split at h
    · rename_i xs q
      obtain ⟨rfl, vs, n, h1, h2⟩ := R.cellList e q
      exact ⟨i, a, xs, vs, n, rfl, rfl, e, q, h1, h2, h⟩
    · exact h.elim
  | p _ => exact h.elim
  | bm _ _ => exact h.elim
@[elab_as_elim] theorem onList_el {v : XV} {u : Value} {k : Nat → List PV → Prop} {M : Value → Prop} (R : Rel w B σ φ ρ s) (X : RX φ ρ v u) (h : onList v σ k)
    (g : ∀ i m xs vs n, RX φ ρ v (.ref m) → v = .c i → ρ[i]? = some (m, m) → σ[i]? = some (.list xs) → s.heap.get? m = some { cls := .type "list", data := .seq vs n } → RVs φ xs vs.toList → k i xs → M (.ref m)) : M u := by
  obtain ⟨i, m, xs, vs, n, e, rfl, e1, e2, e3, e4, hk⟩ := onList_of R X h
  exact g i m xs vs n X e e1 e2 e3 e4 hk
theorem onList_at {v : XV} {m : Addr} {k : Nat → List PV → Prop} {G : Prop} (R : Rel w B σ φ ρ s) (X : RX φ ρ v (.ref m)) (h : onList v σ k)
    (g : ∀ i xs vs n, ρ[i]? = some (m, m) → σ[i]? = some (.list xs) → s.heap.get? m = some { cls := .type "list", data := .seq vs n } → RVs φ xs vs.toList → k i xs → G) : G := by
  obtain ⟨i, m', xs, vs, n, e, e', e1, e2, e3, e4, hk⟩ := onList_of R X h
  cases e'
  exact g i xs vs n e1 e2 e3 e4 hk
theorem onDict_of (R : Rel w B σ φ ρ s) {v : XV} {u : Value} {k : Nat → (Int → Option PV) → Nat → Prop} (X : RX φ ρ v u) (h : onDict v σ k) : ∃ i m f n kvs, v = .c i ∧ u = .ref m ∧ ρ[i]? = some (m, m) ∧ σ[i]? = some (.dict f n) ∧ s.heap.DictOf (intKind PySem.Challenge.pw_nt0208_01 w) m kvs ∧ kvs.length ≤ n ∧ DictRel φ f (valueAt kvs) ∧ k i f n := by
  cases X with
  | @c i a m e =>
    unfold onDict at h
    dsimp only at h
    split at h
    · rename_i f n q
      obtain ⟨rfl, kvs, h1, h2, h3⟩ := R.cellDictOf e q
      exact ⟨i, a, f, n, kvs, rfl, rfl, e, q, h1, h2, h3, h⟩
    · exact h.elim
  | p _ => exact h.elim
  | bm _ _ => exact h.elim

@[elab_as_elim] theorem onDict_el {v : XV} {u : Value} {k : Nat → (Int → Option PV) → Nat → Prop} {M : Value → Prop} (R : Rel w B σ φ ρ s) (X : RX φ ρ v u) (h : onDict v σ k)
    (g : ∀ i m f n kvs, RX φ ρ v (.ref m) → ρ[i]? = some (m, m) → s.heap.DictOf (intKind PySem.Challenge.pw_nt0208_01 w) m kvs → DictRel φ f (valueAt kvs) → k i f n → M (.ref m)) : M u := by
  obtain ⟨i, m, f, n, kvs, e, rfl, e1, e2, e3, e4, e5, hk⟩ := onDict_of R X h
  exact g i m f n kvs X e1 e3 e5 hk
theorem onDict_at {v : XV} {m : Addr} {k : Nat → (Int → Option PV) → Nat → Prop} {G : Prop} (R : Rel w B σ φ ρ s) (X : RX φ ρ v (.ref m)) (h : onDict v σ k)
    (g : ∀ i f n kvs, s.heap.DictOf (intKind PySem.Challenge.pw_nt0208_01 w) m kvs → DictRel φ f (valueAt kvs) → k i f n → G) : G := by
  obtain ⟨i, m', f, n, kvs, e, e', e1, e2, e3, e4, e5, hk⟩ := onDict_of R X h
  cases e'
  exact g i f n kvs e3 e5 hk
theorem se_append (b : Base K w B) {o x : Ex} (ho : SE w B d o) (hx : SE w B d x) : SE w B d (.append o x) := by
  intro ce env e A L σ k hA hc hv φ ρ s R F
  refine invE_append hc fun o' n apos x' pos hc => ?_
  · simp only [Bool.and_eq_true, beq_iff_eq] at hc
    obtain ⟨⟨⟨⟨⟨h1, rfl⟩, h3⟩, h4⟩, h5⟩, h6⟩ := hc
    conv at hv => whnf
    have hl : [x'].all notStar = true := by rw [List.all_cons, h4]; rfl
    refine Call_meth h1 hl (by simp) (by rw [h3]; simp) (SemE.next (ho hA h5 hv) R F fun v s1 φ1 ρ1 σ1 x1 E1 R1 F1 X1 h8 pl => ?_)
    refine onList_el R1 X1 h8 fun i m xs vs nn X1 _ e1 e2 e3 e4 h8 => ?_
    refine getMethod_builtin ⟨_, e3, rfl⟩ PySem.F.plainAttrs_list PySem.F.slot_list_append PySem.F.type_list_append (fun a ea => by cases ea; exact ⟨_, e3, rfl⟩) ?_
    refine Calls.callWith_builtin (plain_any hl) (evalArgs_l hl (arg1 hx hA h4 h6 h8 R1 F1 fun u s2 φ2 ρ2 σ2 x2 E2 R2 F2 X2 h9 => ?_))
    refine asP_el X2 h9 fun y Y h9 => ?_
    refine onList_at R2 (X1.mono (Ext.le R1 E2) E2.rh) h9 fun i' xs' vs' n' q3 q4 q5 q6 h9 => ?_
    have hz := q6.array
    have hlim := h9.1
    rw [lim_is] at hlim
    refine append_cell q5 (fun h' g1 g2 => ?_) (by rw [← hz, sizeLine_is]; (first | lia | omega))
    have R3 : Rel w B (σ2.set i' (.list (xs' ++ [y]))) φ2 ρ2 { s2 with heap := h' } := R2.setCell q3 g2 ⟨rfl, _, _, g1, by rw [Array.toList_push]; exact q6.snoc Y⟩
    exact Post.trans ((E1.trans E2).trans (Ext.setCell (List.mem_of_getElem? q3) g2 ⟨_, g1⟩)) (Post.here R3 (.p .none) h9.2)

theorem pop_cell {l : Addr} {p : List Value} {y : Value} {items : Array Value} {n : Nat} {Q : Value → Shared → Prop} (hl : s.heap.get? l = some { cls := .type "list", data := .seq items n }) (he : items.toList = p ++ [y])
    (hz : items.size ≤ sizeLine) (h : ∀ h' n', h'.get? l = some { cls := .type "list", data := .seq p.toArray n' } → Heap.SameBut l s.heap h' → Q y { s with heap := h' }) : wpAny (model pw w) A (call (.builtin "list.pop") [.ref l]) Q NoE s := by
  have ei : items = (p ++ [y]).toArray := by rw [← he, Array.toArray_toList]
  subst ei
  have hk : (p ++ [y]).toArray.size - 1 = p.length := by rw [List.size_toArray, List.length_append]; rfl
  have hy : (p ++ [y]).toArray[(p ++ [y]).toArray.size - 1]? = some y := by rw [hk]; simp
  refine call_meets PySem.F.slot_list_pop ⟨_, hl, rfl⟩ PySem.F.entry_list_pop (PySem.F.args_list_pop_1 _) (PySem.MeetsSeq.list_pop_last l _ n y hy hz) ⟨hl, h _ (n + 1) ?_ (Heap.SameBut.update ..)⟩
  · have := IsL.update (n := n) hl (fun xs => xs.eraseIdxIfInBounds ((p ++ [y]).toArray.size - 1))
    have e2 : (p ++ [y]).toArray.eraseIdxIfInBounds ((p ++ [y]).toArray.size - 1) = p.toArray := by
      rw [hk]
      have := kl_erase p [] y
      rw [List.append_nil] at this
      exact this
    rw [e2, if_neg (by simp)] at this
    exact this
theorem pop0_cell {l : Addr} {q : List Value} {y : Value} {items : Array Value} {n : Nat} {t : Tok} {Q : Value → Shared → Prop} (hl : s.heap.get? l = some { cls := .type "list", data := .seq items n }) (he : items.toList = y :: q)
    (hz : items.size ≤ sizeLine) (h : ∀ h' n', h'.get? l = some { cls := .type "list", data := .seq q.toArray n' } → Heap.SameBut l s.heap h' → Q y { s with heap := h' }) : wpAny (model pw w) A (call (.builtin "list.pop") [.ref l, .int 0 t]) Q NoE s := by
  have ei : items = (y :: q).toArray := by rw [← he, Array.toArray_toList]
  subst ei
  have hy : (y :: q).toArray[0]? = some y := by simp
  refine call_meets PySem.F.slot_list_pop ⟨_, hl, rfl⟩ PySem.F.entry_list_pop (PySem.F.args_list_pop_2 _ _) (PySem.MeetsSeq.list_pop_at l _ n 0 t 0 y (by decide) (by unfold seqIndex?; simp) hy hz) ⟨hl, h _ (n + 1) ?_ (Heap.SameBut.update ..)⟩
  · have := IsL.update (n := n) hl (fun xs => xs.eraseIdxIfInBounds 0)
    have e2 : (y :: q).toArray.eraseIdxIfInBounds 0 = q.toArray := by
      have := kl_erase [] q y
      exact this
    rw [e2, if_neg (by simp)] at this
    exact this
theorem se_pop (b : Base K w B) {o : Ex} (ho : SE w B d o) : SE w B d (.pop o) := by
  intro ce env e A L σ k hA hc hv φ ρ s R F
  refine invE_pop hc fun o' n apos pos hc => ?_
  · simp only [Bool.and_eq_true, beq_iff_eq] at hc
    obtain ⟨⟨⟨h1, rfl⟩, h3⟩, h5⟩ := hc
    conv at hv => whnf
    refine Call_meth h1 (l := []) rfl (by simp) (by rw [h3]; simp) (SemE.next (ho hA h5 hv) R F fun v s1 φ1 ρ1 σ1 x1 E1 R1 F1 X1 h8 pl => ?_)
    refine onList_el R1 X1 h8 fun i m xs vs nn X1 _ e1 e2 e3 e4 h8 => ?_
    obtain ⟨h8, ys, y, rfl, h9⟩ := h8
    refine getMethod_builtin ⟨_, e3, rfl⟩ PySem.F.plainAttrs_list PySem.F.slot_list_pop PySem.F.type_list_pop (fun a ea => by cases ea; exact ⟨_, e3, rfl⟩) ?_
    refine Calls.callWith_builtin rfl (evalArgs_l (l := []) rfl (wpAny_items_nil ?_))
    obtain ⟨us, ws, q1, q2, q3⟩ := e4.split
    cases q3 with
    | @cons _ _ u _ Y q4 =>
      cases q4
      have hz := e4.array
      rw [lim_is] at h8
      refine pop_cell e3 q1 (by rw [← hz, sizeLine_is]; (first | lia | omega)) fun h' n' g1 g2 => ?_
      have R3 : Rel w B (σ1.set i (.list ys)) φ1 ρ1 { s1 with heap := h' } := R1.setCell e1 g2 ⟨rfl, _, _, g1, by simpa using q2⟩
      exact Post.trans (E1.trans (Ext.setCell (List.mem_of_getElem? e1) g2 ⟨_, g1⟩)) (Post.here R3 (.p Y) h9)
theorem se_pop0 (b : Base K w B) {o : Ex} (ho : SE w B d o) : SE w B d (.pop0 o) := by
  intro ce env e A L σ k hA hc hv φ ρ s R F
  refine invE_pop0 hc fun o' n apos kk p0 pos hc => ?_
  · simp only [Bool.and_eq_true, beq_iff_eq] at hc
    obtain ⟨⟨⟨h1, rfl⟩, h3⟩, h5⟩ := hc
    conv at hv => whnf
    have hl : [Expr.Constant (.int 0) kk p0].all notStar = true := rfl
    refine Call_meth h1 hl (by simp) (by rw [h3]; simp) (SemE.next (ho hA h5 hv) R F fun v s1 φ1 ρ1 σ1 x1 E1 R1 F1 X1 h8 pl => ?_)
    refine onList_el R1 X1 h8 fun i m xs vs nn X1 _ e1 e2 e3 e4 h8 => ?_
    refine getMethod_builtin ⟨_, e3, rfl⟩ PySem.F.plainAttrs_list PySem.F.slot_list_pop PySem.F.type_list_pop (fun a ea => by cases ea; exact ⟨_, e3, rfl⟩) ?_
    refine Calls.callWith_builtin (plain_any hl) (evalArgs_l hl (wpAny_items_cons (wpAny_Constant_int (wpAny_items_nil ?_)) (starEach_cons rfl)))
    cases xs with
    | nil => exact h8.elim
    | cons y ys =>
      have hz := e4.array
      have hlim := h8.1
      rw [lim_is] at hlim
      generalize hvs : vs.toList = vl at e4
      cases e4 with
      | cons Y q4 =>
        refine pop0_cell (s := { s1 with toks := s1.toks + 1 }) e3 hvs (by rw [← hz, sizeLine_is]; (first | lia | omega)) fun h' n' g1 g2 => ?_
        have R3 : Rel w B (σ1.set i (.list ys)) φ1 ρ1 { s1 with heap := h', toks := s1.toks + 1 } := R1.setCell e1 g2 ⟨rfl, _, _, g1, by simpa using q4⟩
        exact Post.trans (E1.trans (Ext.setCell (List.mem_of_getElem? e1) g2 ⟨_, g1⟩)) (Post.here R3 (.p Y) h8.2)
theorem se_get (b : Base K w B) {o x y : Ex} (ho : SE w B d o) (hx : SE w B d x) (hy : SE w B d y) : SE w B d (.get o x y) := by
  intro ce env e A L σ k hA hc hv φ ρ s R F
  refine invE_get hc fun o' n apos x' d' pos hc => ?_
  · simp only [Bool.and_eq_true, beq_iff_eq] at hc
    obtain ⟨⟨⟨⟨⟨⟨⟨h1, rfl⟩, h3⟩, h4⟩, h4'⟩, h5⟩, h6⟩, h7⟩ := hc
    conv at hv => whnf
    have hl : [x', d'].all notStar = true := by rw [List.all_cons, h4, List.all_cons, h4']; rfl
    refine Call_meth h1 hl (by simp) (by rw [h3]; simp) (SemE.next (ho hA h5 hv) R F fun v s1 φ1 ρ1 σ1 x1 E1 R1 F1 X1 h8 pl => ?_)
    refine onDict_el R1 X1 h8 fun i m f nn kvs X1 e1 e3 e5 h8 => ?_
    refine getMethod_builtin e3.typeIs PySem.F.plainAttrs_dict PySem.F.slot_dict_get PySem.F.type_dict_get (fun a ea => e3.mapOf.noDict a ea) ?_
    have hd := dict_far R1 (List.mem_of_getElem? e1) b.sysm
    rw [starEach_cons h4, starEach_cons h4']
    refine wpAny_dict_get2 (knd := intKind pw w) hd ?_
    refine SemE.next (hx hA h6 h8) R1 F1 fun u2 s2 φ2 ρ2 σ2 x2 E2 R2 F2 X2 h9 => ?_
    refine SemE.next (hy hA h7 h9) R2 F2 fun u3 s3 φ3 ρ3 σ3 x3 E3 R3 F3 X3 h10 => ?_
    refine asP_el (X2.mono (Ext.le R2 E3) E3.rh) h10 fun y1 Y1 h10 => ?_
    refine asI_el Y1 h10 fun j t h10 => ?_
    refine asP_el X3 h10 fun y2 Y2 h10 => ?_
    refine onDict_at R3 (X1.mono (Ext.le R1 (E2.trans E3)) (E2.trans E3).rh) h10 fun i' f' n' kvs' q5 q7 h10 => ?_
    refine ⟨j, _, intKind_is pw w j t, q5.mapOf, Post.trans ((E1.trans E2).trans E3) (Post.tok (x := .p ((f' j).getD y2)) R3 (.p ?_) h10)⟩
    have := q7 j
    cases ef : f' j with
    | none => rw [ef] at this; rw [this]; exact Y2
    | some z => rw [ef] at this; obtain ⟨v, a1, a2⟩ := this; rw [a1]; exact a2

/-! ## all expressions -/
noncomputable def plainX : Ex → Prop
  | .cmp .. => False | .not _ => False | .and _ => False | .or _ => False | .ite .. => False | _ => True
theorem shape {x : Ex} (hx : plainX x) {ce : CE} {e : Expr} {env : Env} {whole : Sem Value} (hc : chkE ce x e = true) :
    isTrue e env whole = (do let v ← whole; standAt e.pos; holding [v] (truthy v)) := by
  cases x with
  | none => exact invE_none hc fun _ _ _ => rfl
  | bool _ => exact invE_bool hc fun _ _ _ _ => rfl
  | int _ => exact invE_int hc fun _ _ _ _ => rfl
  | neg _ => exact invE_neg hc fun _ _ _ _ _ => rfl
  | str _ => exact invE_str hc fun _ _ _ _ => rfl
  | glob _ => exact invE_glob hc fun _ _ _ => rfl
  | var _ => exact invE_var hc fun _ _ _ => rfl
  | attr _ _ => exact invE_attr hc fun _ _ _ _ => rfl
  | bin _ _ _ => exact invE_bin hc fun _ _ _ _ _ => rfl
  | addC _ _ => exact invE_addC hc fun _ _ _ _ _ => rfl
  | cmp _ _ _ => exact hx.elim
  | not _ => exact hx.elim
  | and _ => exact hx.elim
  | or _ => exact hx.elim
  | ite _ _ _ => exact hx.elim
  | sub _ _ => exact invE_sub hc fun _ _ _ _ => rfl
  | slcTo _ _ => exact invE_slcTo hc fun _ _ _ _ _ => rfl
  | slcFrom _ _ => exact invE_slcFrom hc fun _ _ _ _ _ => rfl
  | slcRev _ => exact invE_slcRev hc fun _ _ _ _ _ _ _ => rfl
  | slcTwo _ => exact invE_slcTwo hc fun _ _ _ _ _ _ => rfl
  | list _ => exact invE_list hc fun _ _ _ => rfl
  | listC _ => exact invE_listC hc fun _ _ _ => rfl
  | tuple _ => exact invE_tuple hc fun _ _ _ _ => rfl
  | dictC => exact invE_dictC hc fun _ _ => rfl
  | comp _ _ _ => exact invE_comp hc fun _ _ _ _ _ _ _ => rfl
  | compIf _ _ _ _ => exact invE_compIf hc fun _ _ _ _ _ _ _ _ => rfl
  | len _ => exact invE_len hc fun _ _ _ _ _ => rfl
  | range1 _ => exact invE_range1 hc fun _ _ _ _ _ => rfl
  | range3 _ _ _ => exact invE_range3 hc fun _ _ _ _ _ _ _ => rfl
  | isi _ _ => exact invE_isi hc fun _ _ _ _ _ _ => rfl
  | abs _ => exact invE_abs hc fun _ _ _ _ _ => rfl
  | listOf _ => exact invE_listOf hc fun _ _ _ _ _ => rfl
  | tupleOf _ => exact invE_tupleOf hc fun _ _ _ _ _ => rfl
  | mk _ _ => exact invE_mk hc fun _ _ _ _ _ => rfl
  | new _ => exact invE_new hc fun _ _ _ _ => rfl
  | call _ _ => exact invE_call hc fun _ _ _ _ _ => rfl
  | callv _ _ => exact invE_callv hc fun _ _ _ _ _ => rfl
  | meth _ _ _ => exact invE_meth hc fun _ _ _ _ _ _ => rfl
  | append _ _ => exact invE_append hc fun _ _ _ _ _ _ => rfl
  | pop _ => exact invE_pop hc fun _ _ _ _ _ => rfl
  | pop0 _ => exact invE_pop0 hc fun _ _ _ _ _ _ _ => rfl
  | get _ _ _ => exact invE_get hc fun _ _ _ _ _ _ _ => rfl
theorem sb_ite {c x y : Ex} (hc0 : SB w B d c) (hx : SB w B d x) (hy : SB w B d y) : SB w B d (.ite c x y) := by
  intro ce env e A L σ k hA hc hv φ ρ s R F
  refine invE_ite hc fun _ _ _ _ hc => ?_
  · simp only [Bool.and_eq_true] at hc
    obtain ⟨⟨h1, h2⟩, h3⟩ := hc
    conv at hv => whnf
    rw [arm_isTrue_IfExp]
    refine wpAny_bind (SemB.next (hc0 (k := fun v σ₁ => asB v fun t => br t (vcE (CallP w B d) x L σ₁ _) (vcE (CallP w B d) y L σ₁ _)) hA h1 hv) R F fun t s1 φ1 ρ1 σ1 E1 R1 F1 h4 => ?_)
    rcases br_of h4 with ⟨rfl, h4⟩ | ⟨rfl, h4⟩
    · exact wpAny_mono (hx hA h2 h4 _ _ _ R1 F1) (fun _ _ z => PostB.trans E1 z) fun _ _ z => z
    · exact wpAny_mono (hy hA h3 h4 _ _ _ R1 F1) (fun _ _ z => PostB.trans E1 z) fun _ _ z => z

noncomputable def Sx (w : World) (B : Shared) (d : Nat) (x : Ex) : Prop := SE w B d x ∧ SB w B d x
noncomputable def Sxs (w : World) (B : Shared) (d : Nat) (es : Exs) : Prop := SEs w B d es ∧ (VAnd w B d es ∧ TAnd w B d es) ∧ (VOr w B d es ∧ TOr w B d es)
theorem Sx.v {x : Ex} (h : SE w B d x) (hx : plainX x) : Sx w B d x := ⟨h, sb_value h fun hc => shape hx hc⟩
theorem sxs_nil : Sxs w B d .nil := ⟨ses_nil, ⟨fun _ _ hv => False.elim hv, fun _ _ hv => False.elim hv⟩, fun _ _ hv => False.elim hv, fun _ _ hv => False.elim hv⟩

mutual
theorem sound (b : Base K w B) (d : Nat) : ∀ x, Sx w B d x
  | .none => .v se_none trivial
  | .bool _ => .v se_bool trivial
  | .int _ => .v se_int trivial
  | .str _ => .v se_str trivial
  | .glob _ => .v (se_glob b) trivial
  | .var _ => .v se_var trivial
  | .attr e _ => .v (se_attr b (sound b d e).1) trivial
  | .bin _ l r => .v (se_bin (sound b d l).1 (sound b d r).1) trivial
  | .addC l r => .v (se_addC (sound b d l).1 (sound b d r).1) trivial
  | .cmp _ l r => se_cmp b (sound b d l).1 (sound b d r).1
  | .not e => se_not (sound b d e).1 (sound b d e).2
  | .neg _ => .v se_neg trivial
  | .and es => se_and (sounds b d es).2.1.1 (sounds b d es).2.1.2
  | .or es => se_or (sounds b d es).2.2.1 (sounds b d es).2.2.2
  | .ite c x y => ⟨se_ite (sound b d c).2 (sound b d x).1 (sound b d y).1, sb_ite (sound b d c).2 (sound b d x).2 (sound b d y).2⟩
  | .sub e i => .v (se_sub (sound b d e).1 (sound b d i).1) trivial
  | .slcTo e n => .v (se_slcTo (sound b d e).1 (sound b d n).1) trivial
  | .slcFrom e n => .v (se_slcFrom (sound b d e).1 (sound b d n).1) trivial
  | .slcRev e => .v (se_slcRev (sound b d e).1) trivial
  | .slcTwo e => .v (se_slcTwo (sound b d e).1) trivial
  | .list es => .v (se_list (sounds b d es).1) trivial
  | .listC es => .v (se_listC (sounds b d es).1) trivial
  | .tuple es => .v (se_tuple (sounds b d es).1) trivial
  | .dictC => .v se_dictC trivial
  | .comp _ e i => .v (se_comp (sound b d e).1 (sound b d i).1) trivial
  | .compIf _ e i c => .v (se_compIf (sound b d e).1 (sound b d i).1 (sound b d c).2) trivial
  | .len e => .v (se_len b (sound b d e).1) trivial
  | .range1 e => .v (se_range1 b (sound b d e).1) trivial
  | .range3 x y z => .v (se_range3 b (sound b d x).1 (sound b d y).1 (sound b d z).1) trivial
  | .isi e _ => .v (se_isi b (sound b d e).1) trivial
  | .abs e => .v (se_abs b (sound b d e).1) trivial
  | .listOf e => .v (se_listOf b (sound b d e).1) trivial
  | .tupleOf e => .v (se_tupleOf b (sound b d e).1) trivial
  | .mk _ es => .v (se_mk b (sounds b d es).1) trivial
  | .new _ => .v (se_new b) trivial
  | .call _ es => .v (se_call b (sounds b d es).1) trivial
  | .callv _ es => .v (se_callv b (sounds b d es).1) trivial
  | .meth o _ es => .v (se_meth b (sound b d o).1 (sounds b d es).1) trivial
  | .append o e => .v (se_append b (sound b d o).1 (sound b d e).1) trivial
  | .pop o => .v (se_pop b (sound b d o).1) trivial
  | .pop0 o => .v (se_pop0 b (sound b d o).1) trivial
  | .get o k y => .v (se_get b (sound b d o).1 (sound b d k).1 (sound b d y).1) trivial
theorem sounds (b : Base K w B) (d : Nat) : ∀ es, Sxs w B d es
  | .nil => sxs_nil
  | .cons e r => ⟨ses_cons (sound b d e).1 (sounds b d r).1, ⟨vand_cons (sound b d e).1 (sounds b d r).2.1.1, tand_cons (sound b d e).2 (sounds b d r).2.1.2⟩, vor_cons (sound b d e).1 (sounds b d r).2.2.1, tor_cons (sound b d e).2 (sounds b d r).2.2.2⟩
end
end
end Mine
end
section
open PySem PySem.W PyProof.Rows Builtin Builtin.ObjectAttr
set_option Elab.async false
set_option maxRecDepth 100000
namespace Mine

section
variable {K : Frag} {w : World} {B : Shared} {σ σ₁ : Sig} {φ φ₁ : Fz} {ρ ρ₁ : Rh} {s s₁ : Shared} {A : Around} {ce : CE} {env : Env} {L : Locs} {n₀ d : Nat}

noncomputable def SS (w : World) (B : Shared) (d : Nat) (x : Sm) : Prop := ∀ {ce env st A n₀ L σ k}, AOk d A → chkS ce x st = true → vcS (CallP w B d) n₀ x L σ k → SemS w B A ce env n₀ (exec st env) L σ k
noncomputable def SSs (w : World) (B : Shared) (d : Nat) (x : Sms) : Prop := ∀ {ce env l A n₀ L σ k}, AOk d A → chkSs ce x l = true → vcSs (CallP w B d) n₀ x L σ k → SemS w B A ce env n₀ (execs l env) L σ k

theorem bindName_of {x : Str} {u : Value} {Q : Unit → Shared → Prop} (h : wpAny (model pw w) A (storeName env x u) Q NoE s) : wpAny (model pw w) A (bindName env x u) Q NoE s := wpAny_bindName h

/-! ## a name -/
theorem FrameOk.same (F : FrameOk ce env L φ ρ s.heap) {h' : Heap} {b : Addr} (hs : Heap.ExtBut b s.heap h') (h1 : b ≠ env.locals) (h2 : ∀ x c, env.cells.lookup x = some c → b ≠ c) : FrameOk ce env L φ ρ h' := by
  obtain ⟨m, n1, n2⟩ := F.ns
  refine ⟨F.kind, F.glob, F.blt, F.slots, F.globs, F.inj, ⟨m, n1.extBut hs (Ne.symm h1), n2⟩, F.locOff, fun x i e => ?_, F.apart, fun x c e => by obtain ⟨o, g⟩ := F.live x c e; exact ⟨o, hs _ _ (Ne.symm (h2 x c e)) g⟩⟩
  obtain ⟨c, c1, c2, c3, c4, ov, ⟨o, c5, c7⟩, c6⟩ := F.cells x i e
  exact ⟨c, c1, c2, c3, c4, ov, ⟨o, hs _ _ (Ne.symm (h2 x c c1)) c5, c7⟩, c6⟩

theorem swaps_is (e : Expr) (id : Str) (p : Pos) (line : Nat) (env : Env) : ∃ t, swapsWith e (some (.Name id p)) line env = pure t ∧ (t = true → isComp e = true) := by
  cases e <;> first | exact ⟨_, rfl, fun h => by cases h⟩ | exact ⟨_, rfl, fun _ => rfl⟩
theorem comp_shape {x : Ex} {e : Expr} (hc : chkE ce x e = true) (h : isComp e = true) : (∃ slot elt iter, x = .comp slot elt iter) ∨ (∃ slot elt iter c, x = .compIf slot elt iter c) := by
  cases x with
  | none => exact absurd h (invE_none (M := fun e => ¬ isComp e = true) hc fun _ _ _ => Bool.false_ne_true)
  | bool _ => exact absurd h (invE_bool (M := fun e => ¬ isComp e = true) hc fun _ _ _ _ => Bool.false_ne_true)
  | int _ => exact absurd h (invE_int (M := fun e => ¬ isComp e = true) hc fun _ _ _ _ => Bool.false_ne_true)
  | neg _ => exact absurd h (invE_neg (M := fun e => ¬ isComp e = true) hc fun _ _ _ _ _ => Bool.false_ne_true)
  | str _ => exact absurd h (invE_str (M := fun e => ¬ isComp e = true) hc fun _ _ _ _ => Bool.false_ne_true)
  | glob _ => exact absurd h (invE_glob (M := fun e => ¬ isComp e = true) hc fun _ _ _ => Bool.false_ne_true)
  | var _ => exact absurd h (invE_var (M := fun e => ¬ isComp e = true) hc fun _ _ _ => Bool.false_ne_true)
  | attr _ _ => exact absurd h (invE_attr (M := fun e => ¬ isComp e = true) hc fun _ _ _ _ => Bool.false_ne_true)
  | bin _ _ _ => exact absurd h (invE_bin (M := fun e => ¬ isComp e = true) hc fun _ _ _ _ _ => Bool.false_ne_true)
  | addC _ _ => exact absurd h (invE_addC (M := fun e => ¬ isComp e = true) hc fun _ _ _ _ _ => Bool.false_ne_true)
  | cmp _ _ _ => exact absurd h (invE_cmp (M := fun e => ¬ isComp e = true) hc fun _ _ _ _ _ => Bool.false_ne_true)
  | not _ => exact absurd h (invE_not (M := fun e => ¬ isComp e = true) hc fun _ _ _ => Bool.false_ne_true)
  | and _ => exact absurd h (invE_and (M := fun e => ¬ isComp e = true) hc fun _ _ _ => Bool.false_ne_true)
  | or _ => exact absurd h (invE_or (M := fun e => ¬ isComp e = true) hc fun _ _ _ => Bool.false_ne_true)
  | ite _ _ _ => exact absurd h (invE_ite (M := fun e => ¬ isComp e = true) hc fun _ _ _ _ _ => Bool.false_ne_true)
  | sub _ _ => exact absurd h (invE_sub (M := fun e => ¬ isComp e = true) hc fun _ _ _ _ => Bool.false_ne_true)
  | slcTo _ _ => exact absurd h (invE_slcTo (M := fun e => ¬ isComp e = true) hc fun _ _ _ _ _ => Bool.false_ne_true)
  | slcFrom _ _ => exact absurd h (invE_slcFrom (M := fun e => ¬ isComp e = true) hc fun _ _ _ _ _ => Bool.false_ne_true)
  | slcRev _ => exact absurd h (invE_slcRev (M := fun e => ¬ isComp e = true) hc fun _ _ _ _ _ _ _ => Bool.false_ne_true)
  | slcTwo _ => exact absurd h (invE_slcTwo (M := fun e => ¬ isComp e = true) hc fun _ _ _ _ _ _ => Bool.false_ne_true)
  | list _ => exact absurd h (invE_list (M := fun e => ¬ isComp e = true) hc fun _ _ _ => Bool.false_ne_true)
  | listC _ => exact absurd h (invE_listC (M := fun e => ¬ isComp e = true) hc fun _ _ _ => Bool.false_ne_true)
  | tuple _ => exact absurd h (invE_tuple (M := fun e => ¬ isComp e = true) hc fun _ _ _ _ => Bool.false_ne_true)
  | dictC => exact absurd h (invE_dictC (M := fun e => ¬ isComp e = true) hc fun _ _ => Bool.false_ne_true)
  | comp _ _ _ => exact .inl ⟨_, _, _, rfl⟩
  | compIf _ _ _ _ => exact .inr ⟨_, _, _, _, rfl⟩
  | len _ => exact absurd h (invE_len (M := fun e => ¬ isComp e = true) hc fun _ _ _ _ _ => Bool.false_ne_true)
  | range1 _ => exact absurd h (invE_range1 (M := fun e => ¬ isComp e = true) hc fun _ _ _ _ _ => Bool.false_ne_true)
  | range3 _ _ _ => exact absurd h (invE_range3 (M := fun e => ¬ isComp e = true) hc fun _ _ _ _ _ _ _ => Bool.false_ne_true)
  | isi _ _ => exact absurd h (invE_isi (M := fun e => ¬ isComp e = true) hc fun _ _ _ _ _ _ => Bool.false_ne_true)
  | abs _ => exact absurd h (invE_abs (M := fun e => ¬ isComp e = true) hc fun _ _ _ _ _ => Bool.false_ne_true)
  | listOf _ => exact absurd h (invE_listOf (M := fun e => ¬ isComp e = true) hc fun _ _ _ _ _ => Bool.false_ne_true)
  | tupleOf _ => exact absurd h (invE_tupleOf (M := fun e => ¬ isComp e = true) hc fun _ _ _ _ _ => Bool.false_ne_true)
  | mk _ _ => exact absurd h (invE_mk (M := fun e => ¬ isComp e = true) hc fun _ _ _ _ _ => Bool.false_ne_true)
  | new _ => exact absurd h (invE_new (M := fun e => ¬ isComp e = true) hc fun _ _ _ _ => Bool.false_ne_true)
  | call _ _ => exact absurd h (invE_call (M := fun e => ¬ isComp e = true) hc fun _ _ _ _ _ => Bool.false_ne_true)
  | callv _ _ => exact absurd h (invE_callv (M := fun e => ¬ isComp e = true) hc fun _ _ _ _ _ => Bool.false_ne_true)
  | meth _ _ _ => exact absurd h (invE_meth (M := fun e => ¬ isComp e = true) hc fun _ _ _ _ _ _ => Bool.false_ne_true)
  | append _ _ => exact absurd h (invE_append (M := fun e => ¬ isComp e = true) hc fun _ _ _ _ _ _ => Bool.false_ne_true)
  | pop _ => exact absurd h (invE_pop (M := fun e => ¬ isComp e = true) hc fun _ _ _ _ _ => Bool.false_ne_true)
  | pop0 _ => exact absurd h (invE_pop0 (M := fun e => ¬ isComp e = true) hc fun _ _ _ _ _ _ _ => Bool.false_ne_true)
  | get _ _ _ => exact absurd h (invE_get (M := fun e => ¬ isComp e = true) hc fun _ _ _ _ _ _ _ => Bool.false_ne_true)

/-- behind a comprehension whose list is stored at once -/
theorem comp_store {x : Str} {p : Pos} {i : Nat} {k : Fl → Locs → Sig → Prop} (F₀ : FrameOk ce env L φ ρ s.heap) (hn : n₀ ≤ ρ.length) (hx : slotIs ce x i = true) {D Cc : Addr} {s' : Shared} {φ' : Fz} {ρ' : Rh} {σ' : Sig} {ys : List PV} {vs : Array Value} {n : Nat} {m : Str → Option Value}
    (R : Rel w B σ φ ρ s) (E : Ext φ ρ s.heap φ' ρ' s'.heap) (R' : Rel w B σ' φ' ρ' s') (hD : s'.heap.get? D = some { cls := .type "list", data := .seq vs n }) (X : RVs φ' ys vs.toList) (fD : φ' D = Option.none) (rD : ∀ p ∈ ρ', D ≠ p.2) (nD : s.heap.get? D = Option.none)
    (nsC : s'.heap.Ns Cc m) (fC : φ' Cc = Option.none) (rC : ∀ p ∈ ρ', Cc ≠ p.2) (nC : s.heap.get? Cc = Option.none) (hDC : D ≠ Cc) (hk : k .next (L.set i (some (.p (.lst ys)))) σ') :
    compPost (model pw w) A NoE (some (assign (.Name x p) env)) (fun _ s' => PostS w B ce env n₀ φ ρ s k .next s') (.ref D) Cc (.ok .next) s' := by
  have le : FzLe φ' (φ'.put D { cls := .type "list", data := .seq vs n }) := Fz.le_put fD
  have R2 := R'.freeze hD fD rD
  have E2 : Ext φ ρ s.heap (φ'.put D { cls := .type "list", data := .seq vs n }) ρ' s'.heap := E.put nD
  have F2 := F₀.ext R E2
  have hn2 : n₀ ≤ ρ'.length := by obtain ⟨r, e, _⟩ := E.pre; rw [e, List.length_append]; (first | omega | lia)
  have X2 : RX (φ'.put D { cls := .type "list", data := .seq vs n }) ρ' (.p (.lst ys)) (.ref D) := .p (.lst (Fz.put_self _ _ _) (X.mono le))
  show wpAny _ _ (assign (.Name x p) env (.ref D)) _ _ _
  refine wpAny_assign_Name (F2.store R2 hn2 hx X2 fun h₃ tk E3 R3 F3 => ?_)
  have notC : ∀ a o, s.heap.get? a = some o → Cc ≠ a := by rintro a o e rfl; rw [nC] at e; cases e
  obtain ⟨m0, n1, n2⟩ := F₀.ns
  obtain ⟨oL, hoL⟩ := ns_at n1
  have hCL : Cc ≠ env.locals := notC _ _ hoL
  have hCc : ∀ y c, env.cells.lookup y = some c → Cc ≠ c := fun y c e => by
    obtain ⟨o, ho⟩ := F₀.live y c e
    exact notC _ _ ho
  have hdiff : φ'.put D { cls := .type "list", data := .seq vs n } Cc = Option.none := by rw [Fz.put_ne _ _ (Ne.symm hDC)]; exact fC
  have hown : ¬ Own env Cc := by
    rintro (q | ⟨y, q⟩)
    · exact hCL q
    · exact hCc y Cc q rfl
  · obtain ⟨oC, hoC⟩ := ns_at nsC
    have hC3 : h₃.get? Cc = some oC := E3.keep _ _ hoC rC hown
    refine ⟨m, nsC.at' fun o e => by rw [hoC] at e; cases e; exact hC3, fun h₄ hs₄ => ?_⟩
    have keep : ∀ b o, h₃.get? b = some o → ((φ'.put D { cls := .type "list", data := .seq vs n }) b = some o ∨ ∃ p ∈ ρ', p.2 = b) → h₄.get? b = some o := fun b o e q => hs₄.extBut b o (by
      rintro rfl
      rcases q with q | ⟨p, hp, q⟩
      · rw [hdiff] at q; cases q
      · exact rC p hp q.symm) e
    have R4 : Rel w B σ' (φ'.put D { cls := .type "list", data := .seq vs n }) ρ' { s' with heap := h₄, toks := tk } := R3.heap keep
    have F4 : FrameOk ce env (L.set i (some (.p (.lst ys)))) (φ'.put D { cls := .type "list", data := .seq vs n }) ρ' h₄ := FrameOk.same (s := { s' with heap := h₃, toks := tk }) F3 hs₄.extBut hCL hCc
    have E23 := (E2.toO (env := env) hn).trans E3
    have E4 : ExtO env n₀ φ ρ s.heap (φ'.put D { cls := .type "list", data := .seq vs n }) ρ' h₄ := ⟨fun a o e => by obtain ⟨o', e'⟩ := E23.live a o e; exact ⟨o', hs₄.extBut a o' (Ne.symm (notC a o e)) e'⟩, fun a o e hn' ho => hs₄.extBut a o (Ne.symm (notC a o e)) (E23.keep a o e hn' ho), E23.fz, E23.pre, hn⟩
    exact PostS.next (s₁ := { s' with heap := h₄, toks := tk }) R4 F4 E4 hk

theorem ss_assign (b : Base K w B) {i : Nat} {x : Ex} : SS w B d (.assign i x) := by
  intro ce env st A n₀ L σ k hA hc hv φ ρ s R F hn
  refine invS_assign hc fun id p e pos hc => ?_
  · simp only [Bool.and_eq_true] at hc
    obtain ⟨h1, h2⟩ := hc
    conv at hv => whnf
    obtain ⟨t, ht, hcomp⟩ := swaps_is e id p pos.line env
    cases t with
    | false =>
      refine wpAny_Assign_Name ?_ ht
      refine SemE.next ((sound b d x).1 hA h2 hv) R F fun u s1 φ1 ρ1 σ1 x1 E1 R1 F1 X1 h3 => ?_
      have hn1 := (E1.toO (env := env) hn).len'
      exact F1.store R1 hn1 h1 X1 fun h' tk E2 R2 F2 => PostS.next R2 F2 ((E1.toO hn).trans E2) h3
    | true =>
      rw [exec_Assign_Name_used _ _ _ _ ht]
      refine wpAny_bind (wpAny_standAt (wpAny_bind ?_))
      rcases comp_shape h2 (hcomp rfl) with ⟨slot, elt, iter, rfl⟩ | ⟨slot, elt, iter, cnd, rfl⟩
      · refine invE_comp h2 fun elt' y py iter' sc p2 h2 => ?_
        · simp only [Bool.and_eq_true] at h2
          obtain ⟨⟨⟨g1, g2⟩, g3⟩, g4⟩ := h2
          conv at hv => whnf
          show wpAny _ A (do let _ ← comprehension (.ListComp elt' [⟨.Name y py, iter', [], 0⟩] sc p2) sc env _ (newList []) false (eval iter' env) (some (assign (.Name id p) env))) _ _ s
          refine wpAny_bind (wpAny_mono (Q := fun _ s' => PostS w B ce env n₀ φ ρ s k .next s') (E := NoE) ?_ (fun _ s' hq => wpAny_pure (wpAny_pure hq)) fun _ _ e => e)
          refine comp_core (use := some (assign (.Name id p) env)) (E' := NoE) (test := fun _ σ k => k true σ) (body := fun x σ k => vcE (CallP w B d) elt (L.set slot (some (.p x))) σ fun y σ' => asP y fun w => k w σ') (k := fun ys σ₂ => k .next (L.set i (some (.p (.lst ys)))) σ₂) hA.handled R F (compOk_of g1) g2 ((sound b d iter).1 hA g3 ?_) ?_ ?_ ?_
          · have : (fun (v : XV) (σ₁ : Sig) => items v fun xs => xs.length ≤ lim ∧ compP (fun x σ k => vcE (CallP w B d) elt (L.set slot (some (.p x))) σ fun y σ' => asP y fun w => k w σ') xs σ₁ fun ys σ₂ => k .next (L.set i (some (.p (.lst ys)))) σ₂) =
                fun v σ₁ => items v fun xs => xs.length ≤ lim ∧ compIfP (fun _ σ k => k true σ) (fun x σ k => vcE (CallP w B d) elt (L.set slot (some (.p x))) σ fun y σ' => asP y fun w => k w σ') xs σ₁ fun ys σ₂ => k .next (L.set i (some (.p (.lst ys)))) σ₂ := by
              funext v σ₁
              congr 1
              funext xs
              rw [compP_eq]
            rw [← this]; exact hv
          · intro env' y σ' k' ht φ' ρ' s' R' F'
            exact wpAny_pure ⟨φ', ρ', σ', Ext.refl _ _ _, R', ht⟩
          · intro env' y σ' k' hb
            exact (sound b d elt).1 hA g4 hb
          · intro D Cc s' φ' ρ' σ' ys vs n m a1 a2 a3 a4 a5 a6 a7 a8 a9 b1 b2 b3 b4
            exact comp_store F hn h1 R a1 a2 a3 a4 a5 a6 a7 a8 a9 b1 b2 b3 b4
      · refine invE_compIf h2 fun elt' y py iter' cond' sc p2 h2 => ?_
        · simp only [Bool.and_eq_true] at h2
          obtain ⟨⟨⟨⟨g1, g2⟩, g3⟩, g4⟩, g5⟩ := h2
          conv at hv => whnf
          show wpAny _ A (do let _ ← comprehension (.ListComp elt' [⟨.Name y py, iter', [cond'], 0⟩] sc p2) sc env _ (newList []) false (eval iter' env) (some (assign (.Name id p) env))) _ _ s
          refine wpAny_bind (wpAny_mono (Q := fun _ s' => PostS w B ce env n₀ φ ρ s k .next s') (E := NoE) ?_ (fun _ s' hq => wpAny_pure (wpAny_pure hq)) fun _ _ e => e)
          refine comp_core (use := some (assign (.Name id p) env)) (E' := NoE) (test := fun x σ k => vcE (CallP w B d) cnd (L.set slot (some (.p x))) σ fun y σ' => asB y fun t => k t σ') (body := fun x σ k => vcE (CallP w B d) elt (L.set slot (some (.p x))) σ fun y σ' => asP y fun w => k w σ') (k := fun ys σ₂ => k .next (L.set i (some (.p (.lst ys)))) σ₂) hA.handled R F (compOk_of g1) g2 ((sound b d iter).1 hA g3 hv) ?_ ?_ ?_
          · intro env' y σ' k' ht φ' ρ' s' R' F'
            rw [List.forIn_cons]
            simp only [if_true]
            refine wpAny_bind (wpAny_bind (SemB.next ((sound b d cnd).2 (k := fun v σ₁ => asB v fun t => k' t σ₁) hA g5 ht) R' F' fun t s1 φ1 ρ1 σ1 E1 R1 F1 h6 => ?_))
            exact wpAny_pure (wpAny_pure ⟨φ1, ρ1, σ1, E1, R1, h6⟩)
          · intro env' y σ' k' hb
            exact (sound b d elt).1 hA g4 hb
          · intro D Cc s' φ' ρ' σ' ys vs n m a1 a2 a3 a4 a5 a6 a7 a8 a9 b1 b2 b3 b4
            exact comp_store F hn h1 R a1 a2 a3 a4 a5 a6 a7 a8 a9 b1 b2 b3 b4

/-! ## fields, places -/
theorem onInst_of (R : Rel w B σ φ ρ s) {v : XV} {u : Value} {k : Nat → Nat → List XV → Prop} (X : RX φ ρ v u) (h : onInst v σ k) : ∃ i c fs, v = .c i ∧ σ[i]? = some (.inst c fs) ∧ k i c fs := by
  cases X with
  | @c i a m e =>
    unfold onInst at h
    dsimp only at h
    split at h
    · rename_i c fs q
      exact ⟨i, c, fs, rfl, q, h⟩
    · exact h.elim
  | p _ => exact h.elim
  | bm _ _ => exact h.elim
theorem ss_astore (b : Base K w B) {o x : Ex} {a : Nat} : SS w B d (.astore o a x) := by
  intro ce env st A n₀ L σ k hA hc hv φ ρ s R F hn
  refine invS_astore hc fun o' n p e pos hc => ?_
  · simp only [Bool.and_eq_true, beq_iff_eq] at hc
    obtain ⟨⟨rfl, h2⟩, h3⟩ := hc
    conv at hv => whnf
    refine plainObj_wpAny_Assign_Attribute ?_ swaps_attr
    refine SemE.next ((sound b d x).1 hA h2 hv) R F fun u s1 φ1 ρ1 σ1 x1 E1 R1 F1 X1 h4 => ?_
    refine SemE.next ((sound b d o).1 hA h3 h4) R1 F1 fun u2 s2 φ2 ρ2 σ2 x2 E2 R2 F2 X2 h5 => ?_
    obtain ⟨i, c, fs, rfl, e1, h5⟩ := onInst_of R2 X2 h5
    split at h5
    · rename_i j q
      refine setAttr_sound b R2 X2 e1 q h5.1 (X1.mono (Ext.le R1 E2) E2.rh) fun h' tk R3 E3 => ?_
      have E := (E1.trans E2).trans E3
      exact PostS.next R3 (F2.ext R2 E3) (E.toO hn) h5.2
    · exact h5.elim
theorem valueAt_stored {α : Type} [DecidableEq α] (kvs : List (α × Value)) (k : α) (v : Value) (x : α) : valueAt (stored kvs k v) x = if x = k then some v else valueAt kvs x := by
  have hmap : ∀ l : List (α × Value), valueAt (l.map fun kv => if kv.1 = k then (kv.1, v) else kv) x = if x = k then (if l.any (fun kv => kv.1 = k) = true then some v else none) else valueAt l x := by
    intro l
    induction l with
    | nil => simp [valueAt]
    | cons kv r ih =>
      obtain ⟨a, u⟩ := kv
      by_cases ha : a = k
      · subst ha
        by_cases hx : x = a
        · subst hx; simp [valueAt]
        · have hx' : ¬ a = x := fun e => hx e.symm
          simp only [hx, if_false] at ih
          simp only [valueAt, List.map_cons, if_true, List.find?_cons, hx', decide_false, hx, if_false] at ih ⊢
          exact ih
      · by_cases hx : x = k
        · subst hx
          have ha' : ¬ a = x := ha
          simp only [if_true] at ih
          simp only [valueAt, List.map_cons, ha', if_false, List.find?_cons, decide_false, if_true, List.any_cons, Bool.false_or] at ih ⊢
          exact ih
        · simp only [hx, if_false] at ih
          simp only [valueAt, List.map_cons, ha, if_false, List.find?_cons, hx] at ih ⊢
          by_cases hax : a = x
          · simp [hax]
          · simp only [hax, decide_false]; exact ih
  unfold stored
  split
  · rename_i h
    rw [hmap, h]
    simp
  · rename_i h
    have hn : ∀ kv ∈ kvs, ¬ kv.1 = k := fun kv hkv e => h (List.any_eq_true.mpr ⟨kv, hkv, by simpa using e⟩)
    unfold valueAt
    rw [List.find?_append]
    by_cases hx : x = k
    · subst hx
      have : kvs.find? (fun kv => decide (kv.1 = x)) = none := List.find?_eq_none.mpr fun kv hkv => by simpa using hn kv hkv
      rw [this]; simp
    · have hx' : ¬ k = x := fun e => hx e.symm
      simp only [List.find?_cons, hx', decide_false, List.find?_nil, Option.or_none, hx, if_false]
@[elab_as_elim] theorem onC_el {x : XV} {v : Value} {k : Nat → Prop} {M : Value → Prop} (X : RX φ ρ x v) (h : match (generalizing := false) x with | .c i => k i | _ => False) (g : ∀ i a m, ρ[i]? = some (a, m) → k i → M (.ref a)) : M v := by
  cases X with
  | c e => exact g _ _ _ e h
  | p _ => exact h.elim
  | bm _ _ => exact h.elim
theorem cell_el {o : Option Cell} {kl : List PV → Prop} {kd : (Int → Option PV) → Nat → Prop} {G : Prop} (h : match o with | some (.list xs) => kl xs | some (.dict f n) => kd f n | _ => False) (g1 : ∀ xs, o = some (.list xs) → kl xs → G)
    (g2 : ∀ f n, o = some (.dict f n) → kd f n → G) : G := by
  cases o with
  | none => exact h.elim
  | some c => cases c with
    | list xs => exact g1 _ rfl h
    | dict f n => exact g2 _ _ rfl h
    | inst _ _ => exact h.elim
theorem ss_sstore (b : Base K w B) {o i x : Ex} : SS w B d (.sstore o i x) := by
  intro ce env st A n₀ L σ k hA hc hv φ ρ s R F hn
  refine invS_sstore hc fun o' i' p e pos hc => ?_
  · simp only [Bool.and_eq_true] at hc
    obtain ⟨⟨⟨h0, h2⟩, h3⟩, h4⟩ := hc
    conv at hv => whnf
    refine wpAny_Assign_Subscript ?_ swaps_sub
    refine SemE.next ((sound b d x).1 hA h2 hv) R F fun u s1 φ1 ρ1 σ1 x1 E1 R1 F1 X1 h5 => ?_
    refine SemE.next ((sound b d o).1 hA h3 h5) R1 F1 fun u2 s2 φ2 ρ2 σ2 x2 E2 R2 F2 X2 h6 => ?_
    refine SemE.next ((sound b d i).1 hA h4 h6) R2 F2 fun u3 s3 φ3 ρ3 σ3 x3 E3 R3 F3 X3 h7 => ?_
    refine asP_el (X1.mono (Ext.le R1 (E2.trans E3)) (E2.trans E3).rh) h7 fun y Y h7 => ?_
    refine asP_el X3 h7 fun z Z h7 => ?_
    refine asI_el Z h7 fun n t h7 => ?_
    refine onC_el (X2.mono (Ext.le R2 E3) E3.rh) h7 fun c a m e1 h7 => ?_
    · have E := (E1.trans E2).trans E3
      refine cell_el h7 (fun xs q h7 => ?_) fun f n' q h7 => ?_
      · cases n with
        | negSucc j => exact h7.elim
        | ofNat j =>
          obtain ⟨⟨g1, g2⟩, h7⟩ := h7
          obtain ⟨rfl, vs, n', g3, g4⟩ := R3.cellList e1 q
          have hz := g4.array
          rw [lim_is] at g2
          refine ki_setAt g3 (by simp) (by simp; (first | omega | lia)) (by simp; (first | omega | lia)) ?_
          have g5 := IsL.update (n := n') g3 (·.setIfInBounds (Int.ofNat j).toNat u)
          have hs := Heap.SameBut.update s3.heap a (Obj.mapSeq (·.setIfInBounds (Int.ofNat j).toNat u))
          have R4 := R3.setCell (c' := .list (xs.set j y)) (tk := s3.toks) e1 hs ⟨rfl, _, _, g5, by
            rw [show (vs.setIfInBounds (Int.ofNat j).toNat u).toList = vs.toList.set j u by simp]
            exact g4.set j Y⟩
          have E4 : Ext φ3 ρ3 s3.heap φ3 ρ3 _ := Ext.setCell (List.mem_of_getElem? e1) hs ⟨_, g5⟩
          exact PostS.next R4 (F3.ext R3 E4) ((E.trans E4).toO hn) h7
      · obtain ⟨g1, h7⟩ := h7
        obtain ⟨rfl, kvs, g3, g4, g5⟩ := R3.cellDictOf e1 q
        rw [lim_is] at g1
        refine wpAny_setItem_pairs (knd := intKind pw w) (intKind_is pw w n t) g3 (fun h' g6 g7 => ?_) (by rw [sizeLine_is]; (first | omega | lia))
        have C : CellAt w φ3 ρ3 h' (.dict (fun z => if z = n then some y else f z) (n' + 1)) (a, a) := by
          refine ⟨rfl, stored kvs n u, g6, Nat.le_trans (stored_length_le kvs n u) (by (first | omega | lia)), fun z => ?_⟩
          rw [valueAt_stored]
          by_cases hz : z = n
          · simp only [hz, if_true]; exact ⟨u, rfl, Y⟩
          · simp only [hz, if_false]; exact g5 z
        have R4 := R3.setCell (tk := s3.toks + 1) e1 g7 C
        have E4 : Ext φ3 ρ3 s3.heap φ3 ρ3 h' := Ext.setCell (List.mem_of_getElem? e1) g7 (by obtain ⟨o, _, _, g, _⟩ := g6; exact ⟨o, g⟩)
        exact PostS.next R4 (F3.ext R3 E4) ((E.trans E4).toO hn) h7
end
end Mine
end
section
open PySem PySem.W PyProof.Rows Builtin Builtin.ObjectAttr
set_option Elab.async false
set_option maxRecDepth 100000
namespace Mine

section
variable {K : Frag} {w : World} {B : Shared} {σ σ₁ : Sig} {φ φ₁ : Fz} {ρ ρ₁ : Rh} {s s₁ : Shared} {A : Around} {ce : CE} {env : Env} {L : Locs} {n₀ d : Nat}

theorem ss_ret (b : Base K w B) {x : Ex} : SS w B d (.ret x) := by
  intro ce env st A n₀ L σ k hA hc hv φ ρ s R F hn
  refine invS_ret hc fun _ _ hc => ?_
  · conv at hv => whnf
    refine wpAny_Return_some ?_
    refine SemE.next ((sound b d x).1 hA hc hv) R F fun u s1 φ1 ρ1 σ1 x1 E1 R1 F1 X1 h3 => ?_
    exact ⟨φ1, ρ1, σ1, L, x1, E1.toO hn, R1, X1, h3⟩
theorem drop_any {x : XV} {v : Value} {M : Prop} (X : RX φ ρ x v) (h : dropOk x) (m : M) : match (generalizing := false) v with
    | .ref _ => False
    | _ => M := by
  cases X with
  | c _ => exact h.elim
  | bm _ _ => exact h.elim
  | p X => cases X <;> first | exact m | exact h.elim
theorem ss_expr (b : Base K w B) {x : Ex} : SS w B d (.expr x) := by
  intro ce env st A n₀ L σ k hA hc hv φ ρ s R F hn
  refine invS_expr hc fun e pos hc => ?_
  · simp only [Bool.and_eq_true] at hc
    conv at hv => whnf
    have hsw : swapsWith e none pos.line env = pure false := by
      revert hc; cases e <;> first | exact fun _ => rfl | exact fun h => absurd h.1 Bool.false_ne_true
    refine wpAny_Expr ?_ (by unfold interactive; rw [F.kind]; rfl) hsw
    refine SemE.next ((sound b d x).1 hA hc.2 hv) R F fun u s1 φ1 ρ1 σ1 x1 E1 R1 F1 X1 h3 => ?_
    have fin : PostS w B ce env n₀ φ ρ s k .next s1 := PostS.next R1 F1 (E1.toO hn) h3.2
    exact drop_any X1 h3.1 fin
theorem ss_ifs (b : Base K w B) {c : Ex} {x y : Sms} (hx : SSs w B d x) (hy : SSs w B d y) : SS w B d (.ifs c x y) := by
  intro ce env st A n₀ L σ k hA hc hv φ ρ s R F hn
  refine invS_ifs hc fun _ _ _ _ hc => ?_
  · simp only [Bool.and_eq_true] at hc
    obtain ⟨⟨h1, h2⟩, h3⟩ := hc
    conv at hv => whnf
    refine wpAny_If ?_
    refine SemB.next ((sound b d c).2 (k := fun v σ₁ => asB v fun t => br t (vcSs (CallP w B d) n₀ x L σ₁ k) (vcSs (CallP w B d) n₀ y L σ₁ k)) hA h1 hv) R F fun t s1 φ1 ρ1 σ1 E1 R1 F1 h4 => ?_
    have hn1 := (E1.toO (env := env) hn).len'
    rcases br_of h4 with ⟨rfl, h4⟩ | ⟨rfl, h4⟩
    · exact wpAny_mono (hx hA h2 h4 _ _ _ R1 F1 hn1) (fun _ _ z => PostS.trans (E1.toO hn) z) fun _ _ z => z
    · exact wpAny_mono (hy hA h3 h4 _ _ _ R1 F1 hn1) (fun _ _ z => PostS.trans (E1.toO hn) z) fun _ _ z => z
theorem sss_nil : SSs w B d .nil := by
  intro ce env l A n₀ L σ k hA hc hv φ ρ s R F hn
  cases l with
  | nil => exact wpAny_execs_nil (PostS.next R F (ExtO.refl hn) hv)
  | cons _ _ => exact absurd hc Bool.false_ne_true
theorem sss_cons {x : Sm} {r : Sms} (hx : SS w B d x) (hr : SSs w B d r) : SSs w B d (.cons x r) := by
  intro ce env l A n₀ L σ k hA hc hv φ ρ s R F hn
  cases l with
  | nil => exact absurd hc Bool.false_ne_true
  | cons st t =>
    have hc := Bool.and_eq_true_iff.mp (show (chkS ce x st && chkSs ce r t) = true from hc)
    conv at hv => whnf
    refine wpAny_execs_cons (wpAny_mono (hx hA hc.1 hv _ _ _ R F hn) (fun f s1 h => ?_) fun _ _ z => z)
    cases f with
    | next =>
      refine h.next_el fun φ1 ρ1 σ1 L1 E1 R1 F1 h1 => ?_
      exact wpAny_mono (hr hA hc.2 h1 _ _ _ R1 F1 E1.len') (fun _ _ z => PostS.trans E1 z) fun _ _ z => z
    | ret v =>
      refine h.ret_el fun φ1 ρ1 σ1 L1 x1 E1 R1 X1 h1 => ?_
      exact ⟨φ1, ρ1, σ1, L1, x1, E1, R1, X1, h1⟩
    | brk => exact h.elim
    | cont => exact h.elim

/-! ## while -/
theorem ss_while (b : Base K w B) {c : Ex} {x : Sms} (hx : SSs w B d x) : SS w B d (.while c x) := by
  intro ce env st A n₀ L σ k hA hc hv φ ρ s R F hn
  refine invS_while hc fun c' b' pos hc => ?_
  · simp only [Bool.and_eq_true] at hc
    conv at hv => whnf
    obtain ⟨n, hv⟩ := hv
    refine wpAny_While ?_
    refine codeAny_whileLoop (fun m s' => ∃ φ' ρ' σ' L', ExtO env n₀ φ ρ s.heap φ' ρ' s'.heap ∧ Rel w B σ' φ' ρ' s' ∧ FrameOk ce env L' φ' ρ' s'.heap ∧
      whileP (fun L σ k => vcE (CallP w B d) c L σ k) (fun L σ k => vcSs (CallP w B d) n₀ x L σ k) m L' σ' k) ?_ n ⟨φ, ρ, σ, L, ExtO.refl hn, R, F, hv⟩
    intro m s' hm
    refine PostS.next_el (k := fun _ L σ => whileP (fun L σ k => vcE (CallP w B d) c L σ k) (fun L σ k => vcSs (CallP w B d) n₀ x L σ k) m L σ k) hm fun φ' ρ' σ' L' E' R' F' hv' => ?_
    clear hm
    cases m with
    | zero => exact hv'.elim
    | succ m =>
      unfold whileP at hv'
      refine wpAny_mono (Q := _) (SemB.next ((sound b d c).2 (k := fun v σ₁ => asB v fun t => br t (vcSs (CallP w B d) n₀ x L' σ₁ fun f L₁ σ₂ => match f with
        | .next => whileP (fun L σ k => vcE (CallP w B d) c L σ k) (fun L σ k => vcSs (CallP w B d) n₀ x L σ k) m L₁ σ₂ k
        | .ret x => k (.ret x) L₁ σ₂) (k .next L' σ₁)) hA hc.1 hv') R' F' fun t s1 φ1 ρ1 σ1 E1 R1 F1 h4 => ?_) (fun _ _ z => z) fun _ _ z => z.elim
      have hn1 := (E'.trans (E1.toO E'.len')).len'
      have E01 := E'.trans (E1.toO (env := env) E'.len')
      rcases br_of h4 with ⟨rfl, h4⟩ | ⟨rfl, h4⟩
      · simp only [if_true]
        refine wpAny_mono (hx hA hc.2 h4 _ _ _ R1 F1 hn1) (fun f s2 h5 => ?_) fun _ _ z => z.elim
        cases f with
        | next =>
          refine h5.next_el fun φ2 ρ2 σ2 L2 E2 R2 F2 h5 => ?_
          exact ⟨m, Nat.lt_succ_self _, φ2, ρ2, σ2, L2, E01.trans E2, R2, F2, h5⟩
        | ret v =>
          refine h5.ret_el fun φ2 ρ2 σ2 L2 y E2 R2 X2 h5 => ?_
          exact ⟨φ2, ρ2, σ2, L2, y, E01.trans E2, R2, X2, h5⟩
        | brk => exact h5.elim
        | cont => exact h5.elim
      · simp only [Bool.false_eq_true, if_false]
        exact wpAny_execs_nil (PostS.next R1 F1 E01 h4)

/-! ## for -/
theorem hideG {A : Prop} (h : ∀ G : Prop, (A → G) → G) : A := h A id
/-- what holds between the turns of a for -/
structure FI (w : World) (B : Shared) (ce : CE) (env : Env) (n₀ : Nat) (φ1 : Fz) (ρ1 : Rh) (h1 : Heap) (I : Addr) (s : Shared) (φ : Fz) (ρ : Rh) (σ : Sig) (L : Locs) : Prop where
  E : ExtO env n₀ φ1 ρ1 h1 φ ρ s.heap
  R : Rel w B σ φ ρ s
  F : FrameOk ce env L φ ρ s.heap
  fI : φ I = none ∧ ∀ p ∈ ρ, I ≠ p.2
  le : FzLe φ1 φ
section
variable {φ1 : Fz} {ρ1 : Rh} {h1 : Heap} {I : Addr} {s' : Shared} {φ' : Fz} {ρ' : Rh} {σ' : Sig} {L' : Locs}
theorem FI.moved (c : FI w B ce env n₀ φ1 ρ1 h1 I s' φ' ρ' σ' L') (ownI : ¬ Own env I) (hIn : h1.get? I = none) {h₂ : Heap} (k : ∀ b o, b ≠ I → s'.heap.get? b = some o → h₂.get? b = some o) (tk : Nat) :
    FI w B ce env n₀ φ1 ρ1 h1 I { s' with heap := h₂, toks := tk } φ' ρ' σ' L' := by
  have lt1 : ∀ (b : Nat) o, h1.get? b = some o → b ≠ I := fun b o e q => by rw [q, hIn] at e; cases e
  exact ⟨⟨fun a o e => let ⟨o', e'⟩ := c.E.live a o e; ⟨o', k a o' (lt1 a o e) e'⟩, fun a o e hn' ho => k a o (lt1 a o e) (c.E.keep a o e hn' ho), c.E.fz, c.E.pre, c.E.len⟩, c.R.heap fun b o e q => k b o (offs_ne c.fI.1 c.fI.2 q) e,
    c.F.same (b := I) (fun b o hb e => k b o hb e) (fun q => ownI (.inl q)) (fun y c e q => ownI (.inr ⟨y, by rw [q]; exact e⟩)), c.fI, c.le⟩
theorem FI.on (c : FI w B ce env n₀ φ1 ρ1 h1 I s' φ' ρ' σ' L') {o : Obj} (hI : s'.heap.get? I = some o) {s₅ : Shared} {φ₅ : Fz} {ρ₅ : Rh} {σ₅ : Sig} {L₅ : Locs} (E5 : ExtO env n₀ φ' ρ' s'.heap φ₅ ρ₅ s₅.heap) (R5 : Rel w B σ₅ φ₅ ρ₅ s₅) (F5 : FrameOk ce env L₅ φ₅ ρ₅ s₅.heap) :
    FI w B ce env n₀ φ1 ρ1 h1 I s₅ φ₅ ρ₅ σ₅ L₅ := ⟨c.E.trans E5, R5, F5, E5.off hI c.fI.1 c.fI.2, c.le.trans (ExtO.le c.R E5)⟩
end

theorem ss_for (b : Base K w B) {i : Nat} {it : Ex} {x : Sms} (hx : SSs w B d x) : SS w B d (.for i it x) := by
  intro ce env st A n₀ L σ k hA hc hv φ ρ s R F hn
  refine invS_for hc fun id p it' b' pos hc => ?_
  · simp only [Bool.and_eq_true] at hc
    obtain ⟨⟨⟨g1, g2⟩, g3⟩, g4⟩ := hc
    conv at hv => whnf
    refine wpAny_For ?_ (fold_ok g2 env)
    refine SemE.next ((sound b d it).1 hA g3 hv) R F fun xv s1 φ1 ρ1 σ1 x1 E1 R1 F1 X1 h1 => ?_
    refine pyIter_sound hA.handled R1 X1 h1 fun oI xs fp P St hoI hxs IA => ?_
    have hn1 := (E1.toO (env := env) hn).len'
    have E01 := E1.toO (env := env) hn
    have keepI : ∀ b o, s1.heap.get? b = some o → (s1.heap.push oI).get? b = some o := fun b o e => Heap.get?_push_of_some _ e
    have R2 : Rel w B σ1 φ1 ρ1 { s1 with heap := s1.heap.push oI } := R1.keeps (tk := s1.toks) keepI
    have E2 : Ext φ1 ρ1 s1.heap φ1 ρ1 (s1.heap.push oI) := Ext.keeps keepI
    have hIn : s1.heap.get? s1.heap.objs.size = none := none_of_size (Nat.le_refl _)
    have ownI : ¬ Own env s1.heap.objs.size := by
      rintro (q | ⟨y, q⟩)
      · obtain ⟨m, n1, _⟩ := F1.ns
        obtain ⟨o, e⟩ := ns_at n1
        rw [← q, hIn] at e; cases e
      · obtain ⟨o, e⟩ := F1.live y _ q
        rw [hIn] at e; cases e
    have c0 : FI w B ce env n₀ φ1 ρ1 s1.heap s1.heap.objs.size { s1 with heap := s1.heap.push oI } φ1 ρ1 σ1 L := ⟨E2.toO hn1, R2, F1.ext R1 E2, not_new R1 hIn, FzLe.refl _⟩
    clear R2 E2 keepI hn1 X1 hoI E1
    refine codeAny_forLoop (fun m s' => ∃ j φ' ρ' σ' L', (j ≤ xs.length ∧ m = xs.length - j) ∧ FI w B ce env n₀ φ1 ρ1 s1.heap s1.heap.objs.size s' φ' ρ' σ' L' ∧ St j s'.heap ∧ forP i (fun L σ k => vcSs (CallP w B d) n₀ x L σ k) (xs.drop j) L' σ' k) ?_ xs.length
      ⟨0, φ1, ρ1, σ1, L, ⟨Nat.zero_le _, rfl⟩, c0, IA.start, hxs.2⟩
    intro m s' hm
    refine hideG fun G hG => ?_
    obtain ⟨j, φ', ρ', σ', L', ⟨hj, rfl⟩, c, st', hv'⟩ := hm
    refine hG ?_
    clear hG
    by_cases hlt : j < xs.length
    · refine IA.walks.item j _ _ _ hlt st' fun v h₂ tk₂ hPv hst₂ hk₂ => ?_
      have c2 := c.moved ownI hIn (fun b o hb e => hk₂ b o (by simpa using hb) e) tk₂
      refine hideG fun G hG => ?_
      obtain ⟨y, hy, Xy⟩ := IA.item j v hlt hPv
      refine hG ?_
      clear hG
      have hdrop : xs.drop j = y :: xs.drop (j + 1) := by
        rw [List.drop_eq_getElem_cons hlt]
        rw [List.getElem?_eq_getElem hlt] at hy
        cases hy; rfl
      rw [hdrop] at hv'
      refine wpAny_assign_Name (noE (FrameOk.store (s := { s' with heap := h₂, toks := tk₂ }) c2.F c2.R c2.E.len' g1 (.p (Xy.mono c2.le)) fun h₄ tk₄ E4 R4 F4 => ?_))
      obtain ⟨oI', hI2⟩ := IA.obj _ _ hst₂
      have c4 := c2.on hI2 E4 R4 F4
      have st4 : St (j + 1) h₄ := IA.stay _ _ _ hst₂ (fun o e => E4.keep _ _ e c.fI.2 ownI) fun b o e => R4.sub _ _ (c.le _ _ e)
      refine wpAny_mono (hx hA g4 hv' _ _ _ R4 F4 c4.E.len') (fun f s5 h5 => ?_) fun _ _ z => z.elim
      cases f with
      | next =>
        refine h5.next_el fun φ5 ρ5 σ5 L5 E5 R5 F5 h5 => ?_
        obtain ⟨oI4, hI4⟩ := IA.obj _ _ st4
        have c5 := c4.on hI4 E5 R5 F5
        exact ⟨xs.length - (j + 1), Nat.sub_succ_lt_self _ _ hlt, j + 1, φ5, ρ5, σ5, L5, ⟨hlt, rfl⟩, c5, IA.stay _ _ _ st4 (fun o e => E5.keep _ _ e c4.fI.2 ownI) (fun b o e => R5.sub _ _ (c5.le _ _ e)), h5⟩
      | ret v =>
        refine h5.ret_el fun φ5 ρ5 σ5 L5 z E5 R5 X5 h5 => ?_
        exact ⟨φ5, ρ5, σ5, L5, z, (E01.trans c4.E).trans E5, R5, X5, h5⟩
      | brk => exact h5.elim
      | cont => exact h5.elim
    · obtain rfl : j = xs.length := Nat.le_antisymm hj (Nat.not_lt.mp hlt)
      refine IA.walks.done _ _ _ st' fun h₂ tk₂ hk₂ => ?_
      have c2 := c.moved ownI hIn (fun b o hb e => hk₂ b o (by simpa using hb) e) tk₂
      rw [List.drop_length] at hv'
      exact wpAny_execs_nil (PostS.next (s₁ := { s' with heap := h₂, toks := tk₂ }) c2.R c2.F (E01.trans c2.E) hv')
end
end Mine
end
section
open PySem PySem.W PyProof.Rows Builtin Builtin.ObjectAttr
set_option Elab.async false
set_option maxRecDepth 100000
namespace Mine

section
variable {K : Frag} {w : World} {B : Shared} {σ σ₁ : Sig} {φ φ₁ : Fz} {ρ ρ₁ : Rh} {s s₁ : Shared} {A : Around} {ce : CE} {env : Env} {L : Locs} {n₀ d : Nat}

inductive Stores (w : World) (A : Around) (ce : CE) (env : Env) : List Nat → List (Value → Sem Unit) → Prop
  | nil : Stores w A ce env [] []
  | cons {i id f is fs} : slotIs ce id i = true → (∀ u Q s, wpAny (model pw w) A (storeName env id u) Q NoE s → wpAny (model pw w) A (f u) Q NoE s) → Stores w A ce env is fs → Stores w A ce env (i :: is) (f :: fs)
theorem Stores.append {is fs js gs} (h : Stores w A ce env is fs) (k : Stores w A ce env js gs) : Stores w A ce env (is ++ js) (fs ++ gs) := by
  induction h with
  | nil => exact k
  | cons a b _ ih => exact .cons a b ih
theorem Stores.reverse {is fs} (h : Stores w A ce env is fs) : Stores w A ce env is.reverse fs.reverse := by
  induction h with
  | nil => exact .nil
  | cons a b _ ih => rw [List.reverse_cons, List.reverse_cons]; exact ih.append (.cons a b .nil)

theorem stores_sound {is : List Nat} {fs : List (Value → Sem Unit)} (S : Stores w A ce env is fs) : ∀ {vs : List XV} {us : List Value} {L : Locs} {s : Shared} {k : Locs → Prop} {Q : Unit → Shared → Prop}, RXs φ ρ vs us → setAll is vs L k → n₀ ≤ ρ.length → Rel w B σ φ ρ s → FrameOk ce env L φ ρ s.heap →
    (∀ h' tk L', ExtO env n₀ φ ρ s.heap φ ρ h' → Rel w B σ φ ρ { s with heap := h', toks := tk } → FrameOk ce env L' φ ρ h' → k L' → Q () { s with heap := h', toks := tk }) →
    wpAny (model pw w) A (assignInOrder fs us) Q NoE s := by
  induction S with
  | nil =>
    intro vs us L s k Q X hk hn R F hq
    cases X with
    | nil =>
      show wpAny _ _ (pure ()) _ _ _
      exact wpAny_pure (hq s.heap s.toks L (ExtO.refl hn) R F hk)
    | cons _ _ => exact hk.elim
  | cons a g r ih =>
    intro vs us L s k Q X hk hn R F hq
    cases X with
    | nil => exact hk.elim
    | @cons v vs u us Xv Xs =>
      show wpAny _ _ (do holding us _; assignInOrder _ us) _ _ _
      refine wpAny_bind (wpAny_holding (g u _ _ (F.store R hn a Xv fun h' tk E1 R1 F1 => ?_)))
      refine ih Xs hk hn R1 F1 fun h'' tk' L' E2 R2 F2 hk' => ?_
      exact hq h'' tk' L' (E1.trans E2) R2 F2 hk'

theorem chkTs_cons {i : Nat} {r : List Nat} {l : List Expr} (h : chkTs ce (i :: r) l = true) : ∃ id p t, l = .Name id p :: t ∧ slotIs ce id i = true ∧ chkTs ce r t = true :=
  xCons_inv (M := fun l => ∃ id p t, l = .Name id p :: t ∧ slotIs ce id i = true ∧ chkTs ce r t = true) h fun e t h =>
  xE_Name_inv (M := fun e => ∃ id p t', e :: t = .Name id p :: t' ∧ slotIs ce id i = true ∧ chkTs ce r t' = true) h fun id p h =>
    ⟨id, p, t, rfl, (Bool.and_eq_true_iff.mp h).1, (Bool.and_eq_true_iff.mp h).2⟩
theorem chkTs_nil {l : List Expr} (h : chkTs ce [] l = true) : l = [] := xNil_inv (M := fun l => l = []) h fun _ => rfl
theorem targets_ok : ∀ {is : List Nat} {ts : List Expr}, chkTs ce is ts = true → Stores w A ce env is ((assignEach ts env).map (·.2)) ∧ (assignEach ts env).findIdx? (·.1) = none ∧ (assignEach ts env).length = is.length ∧ ts.length = is.length
  | [], ts, h => by cases chkTs_nil h; exact ⟨.nil, rfl, rfl, rfl⟩
  | i :: is, ts, h => by
    obtain ⟨id, p, t, rfl, h1, h2⟩ := chkTs_cons h
    obtain ⟨g1, g2, g3, g4⟩ := targets_ok h2
    have e : assignEach (.Name id p :: t) env = (false, assign (.Name id p) env) :: assignEach t env := rfl
    rw [e]
    refine ⟨.cons h1 (fun u Q s hh => wpAny_assign_Name hh) g1, ?_, by simp [g3], by simp [g4]⟩
    rw [List.findIdx?_cons]
    simp [g2]
theorem setAll_len : ∀ {is : List Nat} {vs : List XV} {L : Locs} {k : Locs → Prop}, setAll is vs L k → is.length = vs.length := by
  intro is
  induction is with
  | nil =>
    intro vs L k h
    cases vs with
    | nil => rfl
    | cons _ _ => exact h.elim
  | cons i is ih =>
    intro vs L k h
    cases vs with
    | nil => exact h.elim
    | cons v vs => exact congrArg (· + 1) (ih (L := L.set i (some v)) (k := k) h)

theorem ss_unpack (b : Base K w B) {is : List Nat} {x : Ex} : SS w B d (.unpack is x) := by
  intro ce env st A n₀ L σ k hA hc hv φ ρ s R F hn
  refine invS_unpack hc fun ts m p e pos hc => ?_
  · simp only [Bool.and_eq_true] at hc
    obtain ⟨⟨h1, h2⟩, h3⟩ := hc
    conv at hv => whnf
    obtain ⟨g1, g2, g3, g4⟩ := targets_ok (w := w) (A := A) (env := env) h1
    refine Assign_Tuple ?_ (by revert h2; cases e <;> first | exact fun _ => rfl | exact fun h => absurd h Bool.false_ne_true) (by revert h2; cases e <;> first | exact fun _ => rfl | exact fun h => absurd h Bool.false_ne_true)
    refine SemE.next ((sound b d x).1 hA h3 hv) R F fun u s1 φ1 ρ1 σ1 x1 E1 R1 F1 X1 h4 => ?_
    have hn1 := (E1.toO (env := env) hn).len'
    refine asP_el X1 h4 fun y X h4 => ?_
    · refine asTV_el X h4 fun xs a vs n q r h4 => ?_
      · have hlen := setAll_len h4
        have hz := r.array
        refine wpAny_assign_Tuple hA.handled (R1.isTupF q) (by rw [g3, hlen, List.length_map, hz]) g2 fun h' he => ?_
        have keep : ∀ b o, s1.heap.get? b = some o → h'.get? b = some o := fun b o e => he b o (by rintro rfl; rw [none_of_size (Nat.le_refl _)] at e; cases e) e
        have R2 : Rel w B σ1 φ1 ρ1 { s1 with heap := h' } := R1.keeps (tk := s1.toks) keep
        have E2 : Ext φ1 ρ1 s1.heap φ1 ρ1 h' := Ext.keeps keep
        refine stores_sound (n₀ := n₀) g1 (r.toRXs) h4 hn1 R2 (F1.ext R1 E2) fun h'' tk L' E3 R3 F3 hk => ?_
        exact PostS.next R3 F3 (((E1.trans E2).toO hn).trans E3) hk

/-! ## several names at once -/
theorem setAll_snoc {i : Nat} {v : XV} {k : Locs → Prop} : ∀ {is : List Nat} {vs : List XV} {L : Locs}, is.length = vs.length → (setAll (is ++ [i]) (vs ++ [v]) L k ↔ setAll is vs L fun L' => k (L'.set i (some v)))
  | [], [], _, _ => Iff.rfl
  | _ :: _, [], _, h => by cases h
  | [], _ :: _, _, h => by cases h
  | j :: is, u :: vs, L, h => by
    show setAll (is ++ [i]) (vs ++ [v]) (L.set j (some u)) k ↔ setAll is vs (L.set j (some u)) _
    exact setAll_snoc (Nat.succ.inj h)
theorem setAll_comm {i : Nat} {v : XV} {k : Locs → Prop} : ∀ {is : List Nat} {vs : List XV} {L : Locs}, i ∉ is → (setAll is vs (L.set i (some v)) k ↔ setAll is vs L fun L' => k (L'.set i (some v)))
  | [], [], _, _ => Iff.rfl
  | _ :: _, [], _, _ => Iff.rfl
  | [], _ :: _, _, _ => Iff.rfl
  | j :: is, u :: vs, L, h => by
    show setAll is vs ((L.set i (some v)).set j (some u)) k ↔ setAll is vs (L.set j (some u)) _
    have hij : i ≠ j := by rintro rfl; exact h (.head _)
    rw [List.set_comm _ _ hij]
    exact setAll_comm fun q => h (.tail _ q)
theorem setAll_rev {k : Locs → Prop} : ∀ {is : List Nat} {vs : List XV} {L : Locs}, is.Nodup → is.length = vs.length → (setAll is.reverse vs.reverse L k ↔ setAll is vs L k)
  | [], [], _, _, _ => Iff.rfl
  | _ :: _, [], _, _, h => by cases h
  | [], _ :: _, _, _, h => by cases h
  | i :: is, v :: vs, L, nd, h => by
    rw [List.reverse_cons, List.reverse_cons, setAll_snoc (by simpa using Nat.succ.inj h), setAll_rev (List.nodup_cons.mp nd).2 (Nat.succ.inj h)]
    show _ ↔ setAll is vs (L.set i (some v)) k
    exact (setAll_comm (List.nodup_cons.mp nd).1).symm

/-- the names of targets that stand on a line -/
noncomputable def onLine (env : Env) (line : Nat) (x : Expr) : Option Str := match x with
  | .Name nm pos => if (env.kindOf nm == some .local && pos.line == line) = true then some nm else none
  | _ => none
theorem onLine_all (line : Nat) : ∀ (is : List Nat) (ts : List Expr), chkTs ce is ts = true → (ts.filterMap (onLine env line)).length = ts.length → Stores w A ce env is ((ts.filterMap (onLine env line)).map fun n => bindName env n)
  | [], ts, h, _ => by cases chkTs_nil h; exact .nil
  | i :: is, ts, h, hl => by
    obtain ⟨id, p, t, rfl, g1, g2⟩ := chkTs_cons h
    rw [List.filterMap_cons] at hl ⊢
    by_cases q : (env.kindOf id == some .local && p.line == line) = true
    · have e : onLine env line (.Name id p) = some id := if_pos q
      rw [e] at hl ⊢
      exact .cons g1 (fun u Q s hh => bindName_of hh) (onLine_all line is t g2 (Nat.succ.inj hl))
    · have e : onLine env line (.Name id p) = none := if_neg q
      rw [e] at hl
      exact absurd hl (Nat.ne_of_lt (Nat.lt_succ_of_le (List.length_filterMap_le _ t)))
theorem ite_el {α : Type} {P : α → Prop} {c : Prop} [Decidable c] {t e : α} (h1 : P t) (h2 : ¬ c → P e) : P (if c then t else e) := by
  by_cases h : c
  · rw [if_pos h]; exact h1
  · rw [if_neg h]; exact h2 h
theorem swapped_is {ts vs : List Expr} {m m2 : Nat} {p p2 : Pos} (is : List Nat) (ht : chkTs ce is ts = true) (hf : (vs.all (foldedForSure 8) || !vs.all (constantsAlone 8)) = true) :
    ∃ r, swappedStores [.Tuple ts m p] (.Tuple vs m2 p2) env = pure r ∧ (r = none ∨ ∃ names, r = some names ∧ names.length = is.length ∧ Stores w A ce env is (names.map fun n => bindName env n)) := by
  have no : ∃ r, (pure none : Sem (Option (List Str))) = pure r ∧ (r = none ∨ ∃ names, r = some names ∧ names.length = is.length ∧ Stores w A ce env is (names.map fun n => bindName env n)) := ⟨none, rfl, .inl rfl⟩
  refine ite_el (P := fun x : Sem (Option (List Str)) => ∃ r, x = pure r ∧ (r = none ∨ ∃ names, r = some names ∧ names.length = is.length ∧ Stores w A ce env is (names.map fun n => bindName env n))) no fun _ => ?_
  refine ite_el (P := fun x : Sem (Option (List Str)) => ∃ r, x = pure r ∧ (r = none ∨ ∃ names, r = some names ∧ names.length = is.length ∧ Stores w A ce env is (names.map fun n => bindName env n))) no fun _ => ?_
  refine ite_el (P := fun x : Sem (Option (List Str)) => ∃ r, x = pure r ∧ (r = none ∨ ∃ names, r = some names ∧ names.length = is.length ∧ Stores w A ce env is (names.map fun n => bindName env n))) no fun h3 => ?_
  refine ite_el (P := fun x : Sem (Option (List Str)) => ∃ r, x = pure r ∧ (r = none ∨ ∃ names, r = some names ∧ names.length = is.length ∧ Stores w A ce env is (names.map fun n => bindName env n))) no fun h4 => ?_
  have h5 : ¬ vs.all (constantsAlone 8) = true := fun h5 => by
    rw [h5, Bool.not_true, Bool.or_false] at hf
    exact h4 hf
  have h3' : (ts.filterMap (onLine env ((ts.head?.map (·.pos.line)).getD 0))).length = ts.length := by
    have h3 : ¬ ((ts.filterMap (onLine env ((ts.head?.map (·.pos.line)).getD 0))).length != ts.length || _) = true := h3
    rw [Bool.or_eq_true, not_or] at h3
    exact Decidable.not_not.mp fun q => h3.1 (bne_iff_ne.mpr q)
  refine ⟨some (ts.filterMap (onLine env ((ts.head?.map (·.pos.line)).getD 0))), ?_, .inr ⟨_, rfl, ?_, onLine_all _ is ts ht h3'⟩⟩
  · exact if_neg h5
  · rw [h3']
    exact (targets_ok (w := w) (A := A) (env := env) ht).2.2.2

theorem ss_multi (b : Base K w B) {is : List Nat} {es : Exs} : SS w B d (.multi is es) := by
  intro ce env st A n₀ L σ k hA hc hv φ ρ s R F hn
  refine invS_multi hc fun ts m p vs m2 p2 pos hc => ?_
  · simp only [Bool.and_eq_true, beq_iff_eq, decide_eq_true_eq] at hc
    obtain ⟨⟨⟨⟨⟨h1, h2⟩, h3⟩, h4⟩, h5⟩, h6⟩ := hc
    conv at hv => whnf
    obtain ⟨g1, g2, g3, g4⟩ := targets_ok (w := w) (A := A) (env := env) h1
    obtain ⟨r, hr, hcase⟩ := swapped_is (w := w) (A := A) (env := env) (m := m) (m2 := m2) (p := p) (p2 := p2) is h1 h5
    have evals : ∀ {Q : Value → Shared → Prop}, (∀ s1 φ1 ρ1 σ1 vs' us a, Ext φ ρ s.heap φ1 ρ1 s1.heap → Rel w B σ1 φ1 ρ1 s1 → FrameOk ce env L φ1 ρ1 s1.heap → RXs φ1 ρ1 vs' us → IsTup s1.heap a us.toArray → setAll is vs' L (fun L₁ => k .next L₁ σ1) → Q (.ref a) s1) →
        wpAny (model pw w) A (eval (.Tuple vs m2 p2) env) Q NoE s := by
      intro Q hq
      refine wpAny_Tuple (SEs.next (sounds b d es).1 hA h6 hv R F fun us s1 φ1 ρ1 σ1 x1 hl E1 R1 F1 X1 h7 => ⟨by rw [hl, sizeLine_is, ← h2]; (first | omega | lia), ?_⟩)
      have R2 := R1.push ({ cls := .type "tuple", data := .seq us.toArray } : Obj) s1.toks
      have E2 : Ext φ1 ρ1 s1.heap φ1 ρ1 (s1.heap.push { cls := .type "tuple", data := .seq us.toArray }) := Ext.push _ _
      exact hq _ φ1 ρ1 σ1 x1 us _ (E1.trans E2) R2 (F1.ext R1 E2) X1 ⟨_, Heap.get?_push_size _ rfl, rfl, _, rfl⟩ h7
    rcases hcase with rfl | ⟨names, rfl, hnl, hst⟩
    · refine Assign_Tuple (evals fun s1 φ1 ρ1 σ1 vs' us a E1 R1 F1 X1 ha h7 => ?_) rfl hr
      have hn1 := (E1.toO (env := env) hn).len'
      have hlen := setAll_len h7
      refine wpAny_assign_Tuple hA.handled ha (by rw [g3, hlen, X1.length]; simp) g2 fun h' he => ?_
      have keep : ∀ b o, s1.heap.get? b = some o → h'.get? b = some o := fun b o e => he b o (by rintro rfl; rw [none_of_size (Nat.le_refl _)] at e; cases e) e
      have R2 : Rel w B σ1 φ1 ρ1 { s1 with heap := h' } := R1.keeps (tk := s1.toks) keep
      have E2 : Ext φ1 ρ1 s1.heap φ1 ρ1 h' := Ext.keeps keep
      refine stores_sound (n₀ := n₀) g1 X1 h7 hn1 R2 (F1.ext R1 E2) fun h'' tk L' E3 R3 F3 hk => ?_
      exact PostS.next R3 F3 (((E1.trans E2).toO hn).trans E3) hk
    · refine Assign_Tuple_swapped (evals fun s1 φ1 ρ1 σ1 vs' us a E1 R1 F1 X1 ha h7 => ?_) rfl hr
      have hn1 := (E1.toO (env := env) hn).len'
      have hlen := setAll_len h7
      have hsz : names.length = us.toArray.size := by rw [hnl, hlen, X1.length]; simp
      rw [hsz]
      refine unpackItems_tuple hA.handled ha fun h' he => ?_
      have keep : ∀ b o, s1.heap.get? b = some o → h'.get? b = some o := fun b o e => he b o (by rintro rfl; rw [none_of_size (Nat.le_refl _)] at e; cases e) e
      have R2 : Rel w B σ1 φ1 ρ1 { s1 with heap := h' } := R1.keeps (tk := s1.toks) keep
      have E2 : Ext φ1 ρ1 s1.heap φ1 ρ1 h' := Ext.keeps keep
      have Xr : ∀ {vs : List XV} {us : List Value}, RXs φ1 ρ1 vs us → RXs φ1 ρ1 vs.reverse us.reverse := by
        intro vs us h
        induction h with
        | nil => exact .nil
        | cons a _ ih => simp only [List.reverse_cons]; exact ih.snoc a
      have hst' := hst.reverse
      rw [← List.map_reverse] at hst'
      refine stores_sound (n₀ := n₀) hst' (Xr X1) ((setAll_rev h4 hlen).mpr h7) hn1 R2 (F1.ext R1 E2) fun h'' tk L' E3 R3 F3 hk => ?_
      exact PostS.next R3 F3 (((E1.trans E2).toO hn).trans E3) hk
end
end Mine
end
section
open PySem PySem.W PyProof.Rows Builtin Builtin.ObjectAttr
set_option Elab.async false
set_option maxRecDepth 100000
namespace Mine

section
variable {K : Frag} {w : World} {B : Shared} {σ σ₁ : Sig} {φ φ₁ : Fz} {ρ ρ₁ : Rh} {s s₁ : Shared} {A : Around} {ce : CE} {env : Env} {L : Locs} {n₀ d : Nat}

/-! ## a list cut and named anew: its place moves -/
theorem uniq_var {i c : Nat} (h : uniq i c L σ = true) {j : Nat} {v : XV} (hj : L[j]? = some (some v)) (hne : j ≠ i) : (∀ q, v = .c q → q ≠ c) ∧ ∀ f q, v = .bm f q → q ≠ c := by
  unfold uniq at h
  rw [Bool.and_eq_true] at h
  have h1 := List.all_eq_true.mp h.1 (some v, j) (by
    rw [List.mem_zipIdx_iff_getElem?]
    exact hj)
  dsimp only at h1
  rw [Bool.or_eq_true] at h1
  rcases h1 with h1 | h1
  · exact absurd (beq_iff_eq.mp h1) hne
  · constructor
    · rintro q rfl; simpa using h1
    · rintro f q rfl; simpa using h1
theorem uniq_inst {i c : Nat} (h : uniq i c L σ = true) {j c' : Nat} {fs : List XV} (hj : σ[j]? = some (.inst c' fs)) {v : XV} (hv : v ∈ fs) : (∀ q, v = .c q → q ≠ c) ∧ ∀ f q, v = .bm f q → q ≠ c := by
  unfold uniq at h
  rw [Bool.and_eq_true] at h
  have h1 := List.all_eq_true.mp h.2 _ (List.mem_of_getElem? hj)
  dsimp only at h1
  have h2 := List.all_eq_true.mp h1 v hv
  constructor
  · rintro q rfl; simpa using h2
  · rintro f q rfl; simpa using h2

theorem RX.moved {c : Nat} {p : Addr × Addr} {v : XV} {u : Value} (X : RX φ ρ v u) (h : (∀ q, v = .c q → q ≠ c) ∧ ∀ f q, v = .bm f q → q ≠ c) : RX φ (ρ.set c p) v u := by
  cases X with
  | p a => exact .p a
  | @c i a m e => exact .c (m := m) (by rw [List.getElem?_set_ne (Ne.symm (h.1 i rfl))]; exact e)
  | @bm f i a m q e e2 => exact .bm (m := m) (by rw [List.getElem?_set_ne (Ne.symm (h.2 f i rfl))]; exact e) e2
theorem RXs.moved {c : Nat} {p : Addr × Addr} {vs : List XV} {us : List Value} (X : RXs φ ρ vs us) (h : ∀ v ∈ vs, (∀ q, v = .c q → q ≠ c) ∧ ∀ f q, v = .bm f q → q ≠ c) : RXs φ (ρ.set c p) vs us := by
  induction X with
  | nil => exact .nil
  | cons a _ ih => exact .cons (a.moved (h _ (.head _))) (ih fun v hv => h v (.tail _ hv))

/-- a place moves -/
theorem Rel.placed (R : Rel w B σ φ ρ s) {i c D : Nat} {ys : List PV} {us : Array Value} {n : Nat} {H : Heap} (huq : uniq i c L σ = true) (hcl : c < ρ.length) (old : ∀ b o, s.heap.get? b = some o → H.get? b = some o) (hDn : s.heap.get? D = none)
    (hDl : H.get? D = some { cls := .type "list", data := .seq us n }) (r : RVs φ ys us.toList) : Rel w B (σ.set c (.list ys)) φ (ρ.set c (D, D)) { s with heap := H } := by
  have nD := not_new R hDn
  refine ⟨?_, R.base, fun a o e => old _ _ (R.sub a o e), ?_, fun j p cl g1 g2 => ?_, fun p hp => ?_, ?_⟩
  · obtain ⟨h0, tk0, q0⟩ := R.rest
    exact ⟨H, tk0, by rw [q0]⟩
  · rw [List.length_set, List.length_set]; exact R.len
  · by_cases hj : c = j
    · subst hj
      rw [List.getElem?_set_self hcl] at g1
      rw [List.getElem?_set_self (R.len ▸ hcl)] at g2
      cases g1; cases g2
      exact ⟨rfl, _, _, hDl, r⟩
    · rw [List.getElem?_set_ne hj] at g1 g2
      have := (R.cells j p cl g1 g2).mono (φ₁ := φ) (ρ₁ := ρ) (h' := H) (FzLe.refl _) (RhLe.refl _) fun o e => old _ _ e
      cases cl with
      | list ys => exact this
      | dict f n => exact this
      | inst cc fs =>
        obtain ⟨r1, es, n, us, r2, r3, r4, r5⟩ := this
        exact ⟨r1, es, n, us, r2, r3, r4, r5.moved fun v hv => uniq_inst huq g2 hv⟩
  · rcases List.mem_or_eq_of_mem_set hp with hp | rfl
    · exact R.off p hp
    · exact nD.1
  · have q6 := R.apart
    rw [List.pairwise_iff_getElem] at q6 ⊢
    intro j l hj hl hjl
    rw [List.length_set] at hj hl
    rw [List.getElem_set, List.getElem_set]
    split
    · split
      · omega
      · exact nD.2 _ (List.getElem_mem _)
    · split
      · exact fun e => nD.2 _ (List.getElem_mem _) e.symm
      · exact q6 j l hj hl hjl
theorem FrameOk.placed (R : Rel w B σ φ ρ s) (F : FrameOk ce env L φ ρ s.heap) {i c D : Nat} {H : Heap} (huq : uniq i c L σ = true) (old : ∀ b o, s.heap.get? b = some o → H.get? b = some o) (hDn : s.heap.get? D = none) : FrameOk ce env (L.set i none) φ (ρ.set c (D, D)) H := by
  obtain ⟨m0, n1, n2⟩ := F.ns
  have offs : ∀ a o, s.heap.get? a = some o → (∀ p ∈ ρ, a ≠ p.2) → ∀ p ∈ ρ.set c (D, D), a ≠ p.2 := fun a o ha h p hp => by
    rcases List.mem_or_eq_of_mem_set hp with hp | rfl
    · exact h p hp
    · rintro rfl; rw [hDn] at ha; cases ha
  obtain ⟨oL, hoL⟩ := ns_at n1
  have hLi : ∀ {j : Nat} {v : XV}, (L.set i none)[j]? = some (some v) → j ≠ i ∧ L[j]? = some (some v) := fun {j v} e => by
    by_cases hj : i = j
    · subst hj
      rw [List.getElem?_set] at e
      simp only [if_true] at e
      split at e <;> cases e
    · rw [List.getElem?_set_ne hj] at e
      exact ⟨Ne.symm hj, e⟩
  refine ⟨F.kind, F.glob, F.blt, F.slots, F.globs, F.inj, ⟨m0, n1.at' fun o e => old _ _ e, fun y j v g1 g2 => ?_⟩, ⟨F.locOff.1, offs _ _ hoL F.locOff.2⟩, fun y j g1 => ?_, F.apart, fun y cc g1 => by obtain ⟨o, e⟩ := F.live y cc g1; exact ⟨o, old _ _ e⟩⟩
  · obtain ⟨hj, g2⟩ := hLi g2
    obtain ⟨u, r1, r2⟩ := n2 y j v g1 g2
    exact ⟨u, r1, r2.moved (uniq_var huq g2 hj)⟩
  · refine F.cells_el g1 fun cc c1 c2 c3 c4 ov o c5 _ c7 c6 => ?_
    refine ⟨cc, c1, c2, offs _ _ c5 c3, c4, ov, c7 _ (old _ _ c5), fun v g2 => ?_⟩
    obtain ⟨hj, g2⟩ := hLi g2
    obtain ⟨u, r1, r2⟩ := c6 v g2
    exact ⟨u, r1, r2.moved (uniq_var huq g2 hj)⟩
theorem ExtO.placed {c D : Nat} {h H : Heap} (old : ∀ b o, h.get? b = some o → H.get? b = some o) (hDn : h.get? D = none) (hc0 : n₀ ≤ c) (hn : n₀ ≤ ρ.length) : ExtO env n₀ φ ρ h φ (ρ.set c (D, D)) H := by
  refine ⟨fun a o e => ⟨o, old _ _ e⟩, fun a o e _ _ => old _ _ e, fun _ _ _ _ => rfl, ⟨(ρ.set c (D, D)).drop n₀, ?_, fun p hp => ?_⟩, hn⟩
  · have : (ρ.set c (D, D)).take n₀ = ρ.take n₀ := by rw [List.take_set_of_le hc0]
    rw [← this, List.take_append_drop]
  · rw [List.drop_set, if_neg (Nat.not_lt.mpr hc0)] at hp
    rcases List.mem_or_eq_of_mem_set hp with q | rfl
    · exact .inl q
    · exact .inr hDn

theorem reslice_end {φ₀ : Fz} {ρ₀ : Rh} {s₀ : Shared} {i c D : Nat} {ys : List PV} {us : Array Value} {n : Nat} {H : Heap} {id : Str} {k : KF} (F : FrameOk ce env L φ ρ s.heap) (R : Rel w B σ φ ρ s) (E0 : ExtO env n₀ φ₀ ρ₀ s₀.heap φ ρ s.heap) (h1 : slotIs ce id i = true)
    (huq : uniq i c L σ = true) (hc0 : n₀ ≤ c) (eL : L[i]? = some (some (.c c))) (hcl : c < ρ.length) (old : ∀ b o, s.heap.get? b = some o → H.get? b = some o) (hDn : s.heap.get? D = none)
    (hDl : H.get? D = some { cls := .type "list", data := .seq us n }) (r : RVs φ ys us.toList) (h3 : k .next L (σ.set c (.list ys))) :
    wpAny (model pw w) A (storeName env id (.ref D)) (fun _ => PostS w B ce env n₀ φ₀ ρ₀ s₀ k .next) NoE { s with heap := H } := by
  have E3 : ExtO env n₀ φ ρ s.heap φ (ρ.set c (D, D)) H := ExtO.placed old hDn hc0 E0.len'
  refine FrameOk.store (s := { s with heap := H }) (F.placed R huq old hDn) (R.placed huq hcl old hDn hDl r) E3.len' h1 (.c (m := D) (List.getElem?_set_self hcl)) fun h' tk E4 R4 F4 => ?_
  have hLL : (L.set i none).set i (some (.c c)) = L := by
    rw [List.set_set]
    have hi := (List.getElem?_eq_some_iff.mp eL)
    rw [← hi.2]
    exact List.set_getElem_self hi.1
  rw [hLL] at F4
  exact PostS.next R4 F4 ((E0.trans E3).trans E4) h3
theorem ss_reslice (b : Base K w B) {i : Nat} {x : Ex} : SS w B d (.reslice i x) := by
  intro ce env st A n₀ L σ k hA hc hv φ ρ s R F hn
  refine invS_reslice hc fun id p0 id' p1 n' p2 p3 pos hc => ?_
  · simp only [Bool.and_eq_true, beq_iff_eq] at hc
    obtain ⟨⟨h1, rfl⟩, h2⟩ := hc
    conv at hv => whnf
    split at hv
    · rename_i c eL
      refine wpAny_Assign_Name ?_ rfl
      refine Subscript_ (name_var F h1 eL fun u X => ?_)
      refine wpAny_Slice (wpAny_pure ?_)
      rw [evalPart_some]
      refine SemE.next ((sound b d x).1 hA h2 hv) R F fun u2 s2 φ2 ρ2 σ2 x2 E2 R2 F2 X2 h3 => ?_
      refine wpAny_pure ?_
      refine asP_el X2 h3 fun y Y h3 => ?_
      refine asI_el Y h3 fun m t hh => ?_
      obtain ⟨⟨hc0, huq⟩, h3⟩ := hh
      refine onList_el R2 (X.mono (Ext.le R E2) E2.rh) h3 fun c' a xs vs nn _ e0 e1 e2 e3 e4 hh => ?_
      have hlim := hh.1
      have h3 := hh.2
      cases e0
      rw [lim_is] at hlim
      have il : s2.heap.IsList a vs := ⟨_, e3, rfl, _, rfl⟩
      refine tail_any (ops := [.ref s2.heap.objs.size, .ref a]) (Heap.IsList.typeIs (s := { s2 with heap := s2.heap.push { cls := .type "slice", data := .fields #[.none, .int m t, .none] } }) (il.push _)) slot_list_getitem.lookup
        (wpAny_getItem_list_slice (il.push _) (Heap.IsSliceOf.new ..) .none (.int m t) .none (by decide) ?_ (by rw [← e4.array, sizeLine_is]; omega)) rfl
      dsimp only
      have old1 : ∀ b o, s2.heap.get? b = some o → (s2.heap.push { cls := Value.type "slice", data := Data.fields #[.none, .int m t, .none] }).get? b = some o := fun b o e => Heap.get?_push_of_some _ e
      have hDn : s2.heap.get? (s2.heap.push { cls := Value.type "slice", data := Data.fields #[.none, .int m t, .none] }).objs.size = none := none_of_size (by rw [Heap.size_push]; exact Nat.le_succ _)
      generalize s2.heap.push { cls := Value.type "slice", data := Data.fields #[.none, .int m t, .none] } = H1 at old1 hDn ⊢
      exact reslice_end F2 R2 (E2.toO hn) h1 huq hc0 eL (List.getElem?_eq_some_iff.mp e1).1 (fun b o e => Heap.get?_push_of_some _ (old1 b o e)) hDn (Heap.get?_push_size _ rfl) (slTo_pick e4 m) h3
    · exact hv.elim

mutual
theorem soundS (b : Base K w B) (d : Nat) : ∀ x, SS w B d x
  | .assign _ _ => ss_assign b
  | .reslice _ _ => ss_reslice b
  | .astore _ _ _ => ss_astore b
  | .sstore _ _ _ => ss_sstore b
  | .unpack _ _ => ss_unpack b
  | .multi _ _ => ss_multi b
  | .expr _ => ss_expr b
  | .ret _ => ss_ret b
  | .ifs _ x y => ss_ifs b (soundSs b d x) (soundSs b d y)
  | .while _ x => ss_while b (soundSs b d x)
  | .for _ _ x => ss_for b (soundSs b d x)
theorem soundSs (b : Base K w B) (d : Nat) : ∀ x, SSs w B d x
  | .nil => sss_nil
  | .cons x r => sss_cons (soundS b d x) (soundSs b d r)
end
end
end Mine
end
section
open PySem PySem.W PyProof.Rows Builtin Builtin.ObjectAttr
set_option Elab.async false
set_option maxRecDepth 100000
namespace Mine

section
variable {K : Frag} {w : World} {B : Shared} {σ σ₁ : Sig} {φ φ₁ : Fz} {ρ ρ₁ : Rh} {s s₁ : Shared} {A : Around} {ce : CE} {env : Env} {L : Locs} {n₀ d : Nat}

theorem Bud.le {d d' : Nat} {A : Around} (h : d ≤ d') (b : Bud d' A) : Bud d A := ⟨b.1, by have := b.2.1; (first | lia | omega), by have := b.2.2; (first | lia | omega)⟩
theorem CallP.le {d d' f : Nat} {args : List XV} {k : XV → Sig → Prop} (h : d ≤ d') (c : CallP w B d f args σ k) : CallP w B d' f args σ k := fun A φ ρ s vals b R X => c A φ ρ s vals (b.le h) R X
theorem CallP.mono {f : Nat} {args : List XV} {k k' : XV → Sig → Prop} (c : CallP w B d f args σ k) (h : ∀ v σ', k v σ' → k' v σ') : CallP w B d f args σ k' := fun A φ ρ s vals b R X =>
  codeAny_mono (c A φ ρ s vals b R X) fun r s' z => by
    rcases r with e | (v | _ | _ | _) <;> first | exact z.elim | exact Post.mono h z

/-- a call by its body's meaning -/
theorem callBy (b : Base K w B) {f : Nat} {fi : FnInfo} {args : List XV} {k : XV → Sig → Prop} (hf : fnInfo f = some fi) (hl : args.length = fi.np)
    (h : vcSs (CallP w B d) σ.length fi.body (startL args fi) σ (retK k)) : CallP w B (d + 1) f args σ k := fun A φ ρ s vals hA R X => by
  refine call_sound b hf hl (by have := hA.2.1; rw [show recursionLimit = 1000 from rfl]; (first | lia | omega)) (fun sc env body hc φ' ρ' s' R' F' hn => ?_) R X
  have hA' : AOk d (A.deeper env) := ⟨hA.1, by have := hA.2.1; show A.depth + 1 + 4 * d + 11 ≤ 1000; (first | lia | omega), by have := hA.2.2; show A.units + 3 + 20 * d + 310 ≤ 9900; (first | lia | omega)⟩
  exact soundSs b d fi.body hA' hc (by rw [R.len]; exact h) φ' ρ' s' R' F' hn
end
end Mine
end
section
open PySem PySem.W PyProof.Rows Builtin Builtin.ObjectAttr
set_option Elab.async false
set_option maxRecDepth 100000
namespace Mine

section
variable {K : Frag} {w : World} {B : Shared} {σ σ₁ : Sig} {φ φ₁ : Fz} {ρ ρ₁ : Rh} {s s₁ : Shared} {A : Around} {ce : CE} {env : Env} {L : Locs} {n₀ d : Nat}

/-! ## what a call made for itself is let go -/
noncomputable def Small (n : Nat) : XV → Prop
  | .p _ => True
  | .c i => i < n
  | .bm _ i => i < n
noncomputable def Letgo (σ : Sig) (k : XV → Sig → Prop) : XV → Sig → Prop := fun v σ' => ∃ σ₂ τ, σ' = σ₂ ++ τ ∧ σ₂.length = σ.length ∧
  (∀ (i c : Nat) (fs : List XV), σ₂[i]? = some (Cell.inst c fs) → σ[i]? = some (Cell.inst c fs) ∨ ∀ x ∈ fs, Small σ.length x) ∧
  ((Small σ.length v ∧ k v σ₂) ∨ ∃ i xs, v = .c i ∧ σ.length ≤ i ∧ σ'[i]? = some (.list xs) ∧ k (.p (.lst xs)) σ₂)

theorem RXs.small {fs : List XV} {vs : List Value} (h : RXs φ ρ fs vs) : ∀ x ∈ fs, Small ρ.length x := by
  induction h with
  | nil => intro x hx; cases hx
  | cons a r ih =>
    intro x hx
    rcases List.mem_cons.mp hx with rfl | hx
    · cases a with
      | p a => trivial
      | c e => exact (List.getElem?_eq_some_iff.mp e).1
      | bm e _ => exact (List.getElem?_eq_some_iff.mp e).1
    · exact ih x hx

theorem callDrop {f : Nat} {args : List XV} {k : XV → Sig → Prop} (c : CallP w B d f args σ (Letgo σ k)) : CallP w B d f args σ k := fun A φ ρ s vals b R X =>
  codeAny_mono (c A φ ρ s vals b R X) fun r s' z => by
    match r, z with
    | .ok (.ret v), z =>
      obtain ⟨φ', ρ', σ', x, E, R', XV, σ₂, τ, rfl, hl, hi, hk⟩ := z
      obtain ⟨ρ₂, rfl, hr⟩ := E.pre
      have hlen : ρ.length = σ₂.length := by rw [R.len, hl]
      have R2 : Rel w B σ₂ φ' ρ s' := R'.take hlen fun cc hc => by
        cases cc with
        | list _ => trivial
        | dict _ _ => trivial
        | inst cn fs =>
          dsimp only
          obtain ⟨i, hi', e⟩ := List.mem_iff_getElem.mp hc
          have e1 : σ₂[i]? = some (.inst cn fs) := by rw [List.getElem?_eq_getElem hi', e]
          have hs : ∀ x ∈ fs, Small ρ.length x := by
            rcases hi i cn fs e1 with q | q
            · have hρ : i < ρ.length := by rw [hlen]; exact hi'
              obtain ⟨_, es, n, us, _, _, _, q4⟩ := R.cells i _ _ (List.getElem?_eq_getElem hρ) q
              exact q4.small
            · rw [R.len]; exact q
          intro x hx
          have := hs x hx
          cases x with
          | p _ => trivial
          | c _ => exact this
          | bm _ _ => exact this
      have E2 : Ext φ ρ s.heap φ' ρ s'.heap := ⟨E.live, E.keep, E.fz, [], by simp, by simp⟩
      rcases hk with ⟨hsm, hk⟩ | ⟨i, xs, rfl, hi1, hi2, hk⟩
      · refine ⟨φ', ρ, σ₂, x, E2, R2, ?_, hk⟩
        rw [← R.len] at hsm
        cases XV with
        | p a => exact .p a
        | c e => exact .c (by rwa [List.getElem?_append_left hsm] at e)
        | bm e e2 => exact .bm (by rwa [List.getElem?_append_left hsm] at e) e2
      · cases XV with
        | @c _ a m e =>
          obtain ⟨q0, us, n, q1, q2⟩ := R'.cells i _ _ e hi2
          dsimp only at q0 q1
          subst q0
          rw [← R.len] at hi1
          rw [List.getElem?_append_right hi1] at e
          have hmem := List.mem_of_getElem? e
          have hn : s.heap.get? a = none := hr _ hmem
          have hφ : φ' a = none := R'.off _ (List.mem_append_right _ hmem)
          have hap : ∀ p ∈ ρ, a ≠ p.2 := fun p hp => Ne.symm ((List.pairwise_append.mp R'.apart).2.2 p hp _ hmem)
          exact ⟨_, ρ, σ₂, _, E2.put hn, R2.freeze q1 hφ hap, .p (.lst (Fz.put_self _ _ _) (q2.mono (Fz.le_put hφ))), hk⟩

end
end Mine
end
section
open PySem PySem.W PyProof.Rows Builtin Builtin.ObjectAttr
set_option Elab.async false
set_option maxRecDepth 100000
namespace Mine

/-! ## depths -/
theorem dn {j N d : Nat} (h : N ≤ d + 1) (e : Nat.ble (j + 1) N = true) : j ≤ d := Nat.le_of_succ_le_succ (Nat.le_trans (Nat.le_of_ble_eq_true e) h)
theorem dt {j N d : Nat} (h : N ≤ d) (e : Nat.ble j N = true) : j ≤ d := Nat.le_trans (Nat.le_of_ble_eq_true e) h
theorem dc {c j N d : Nat} (h : c + N ≤ d + 1) (e : Nat.ble (j + 1) N = true) : c + j ≤ d := Nat.le_of_succ_le_succ (Nat.le_trans (Nat.add_le_add_left (Nat.le_of_ble_eq_true e) c) h)
theorem dc0 {c N d : Nat} (h : c + N ≤ d + 1) (e : Nat.ble 1 N = true) : c ≤ d := dc (j := 0) h e
theorem dcn {c j N d : Nat} (h : c + N ≤ d + 1) (e : Nat.ble (j + 1) N = true) : j ≤ d := Nat.le_trans (Nat.le_add_left _ _) (dc h e)
theorem ds {c j N d : Nat} (h : c + N ≤ d) (e : Nat.ble j N = true) : c + j ≤ d := Nat.le_trans (Nat.add_le_add_left (Nat.le_of_ble_eq_true e) c) h
theorem ds0 {c N d : Nat} (h : c + N ≤ d) : c ≤ d := Nat.le_trans (Nat.le_add_right _ _) h
structure Calls (P : Nat → CP) : Prop where
  le : ∀ {d d' f args σ k}, d ≤ d' → P d f args σ k → P d' f args σ k
  mono : ∀ {d f args σ k k'}, P d f args σ k → (∀ v σ', k v σ' → k' v σ') → P d f args σ k'
  by' : ∀ {d f fi args σ k}, fnInfo f = some fi → args.length = fi.np → vcSs (P d) σ.length fi.body (startL args fi) σ (retK k) → P (d + 1) f args σ k
  drop : ∀ {d f args σ k}, P d f args σ (Letgo σ k) → P d f args σ k
theorem calls {K : Frag} {w : World} {B : Shared} (b : Base K w B) : Calls (CallP w B) where
  le := fun h c => c.le h
  mono := fun c h => c.mono h
  by' := fun a h v => callBy b a h v
  drop := fun c => callDrop c
theorem br_intro {t : Bool} {A B : Prop} (h1 : t = true → A) (h2 : t = false → B) : br t A B := by
  cases t
  · exact h2 rfl
  · exact h1 rfl

/-! ## trees -/
inductive Hd where
  | const (v : Int) | loc (n : Int) | glob (n : Int) | setl (n : Int) | setg (n : Int) | ite
  | lam (l : Int) (xs : List Int) (r : Int) | call | seq | prim (o : Int) | fix (ns : List Int)
inductive T where
  | node (h : Hd) (ps : List T)

noncomputable def T.hd : T → Hd
  | .node h _ => h
noncomputable def T.ps : T → List T
  | .node _ ps => ps

noncomputable def iv (l : List Int) : PV := .lst (l.map .int)
noncomputable def encH : Hd → List PV → PV
  | .const v, _ => .obj 0 [.int v]
  | .loc n, _ => .obj 1 [.int n]
  | .glob n, _ => .obj 2 [.int n]
  | .setl n, ps => .obj 3 (.int n :: ps)
  | .setg n, ps => .obj 4 (.int n :: ps)
  | .ite, ps => .obj 5 ps
  | .lam l xs r, ps => .obj 6 (.int l :: iv xs :: .int r :: ps)
  | .call, ps => .obj 7 [ps.headD .none, .lst ps.tail]
  | .seq, ps => .obj 8 [.lst ps]
  | .prim o, ps => .obj 9 [.int o, .lst ps]
  | .fix ns, ps => .obj 10 [iv ns, .lst ps.dropLast, ps.getLastD .none]
mutual
noncomputable def enc : T → PV
  | .node h ps => encH h (encs ps)
noncomputable def encs : List T → List PV
  | [] => []
  | t :: r => enc t :: encs r
end
theorem encs_map : ∀ ps, encs ps = ps.map enc
  | [] => rfl
  | t :: r => by rw [encs, encs_map r]; rfl
theorem encs_len (ps : List T) : (encs ps).length = ps.length := by rw [encs_map, List.length_map]
mutual
noncomputable def T.sz : T → Nat
  | .node _ ps => 1 + szs ps
noncomputable def szs : List T → Nat
  | [] => 0
  | t :: r => t.sz + szs r
end
theorem T.sz_pos : ∀ t : T, 1 ≤ t.sz
  | .node _ ps => by rw [T.sz]; exact Nat.le_add_right _ _
theorem len_szs : ∀ ps : List T, ps.length ≤ szs ps
  | [] => Nat.le_refl _
  | t :: r => by have := len_szs r; have := t.sz_pos; rw [szs, List.length_cons]; (first | lia | omega)
theorem mem_szs : ∀ {ps : List T} {t : T}, t ∈ ps → t.sz ≤ szs ps
  | _ :: _, _, .head _ => by rw [szs]; exact Nat.le_add_right _ _
  | _ :: _, _, .tail _ h => by rw [szs]; exact Nat.le_trans (mem_szs h) (Nat.le_add_left _ _)

/-- the heads' demands: the number of parts, few numbers, none below naught -/
noncomputable def Hd.ok : Hd → Nat → Prop
  | .const v, n => n = 0
  | .loc x, n => n = 0 ∧ 0 ≤ x
  | .glob _, n => n = 0
  | .setl x, n => n = 1 ∧ 0 ≤ x
  | .setg _, n => n = 1
  | .ite, n => n = 3
  | .lam l xs r, n => n = 1 ∧ 0 ≤ l ∧ xs.length ≤ 8 ∧ (∀ x ∈ xs, 0 ≤ x)
  | .call, n => 1 ≤ n
  | .seq, _ => True
  | .prim _, _ => True
  | .fix ns, n => 1 ≤ n ∧ ns.length ≤ 8 ∧ ∀ x ∈ ns, 0 ≤ x
mutual
noncomputable def T.wf : T → Prop
  | .node h ps => h.ok ps.length ∧ wfs ps
noncomputable def wfs : List T → Prop
  | [] => True
  | t :: r => t.wf ∧ wfs r
end
theorem wfs_mem : ∀ {ps : List T}, wfs ps → ∀ t ∈ ps, t.wf
  | t :: r, h, x, hx => by
    rw [wfs] at h
    rcases List.mem_cons.mp hx with rfl | hx
    · exact h.1
    · exact wfs_mem h.2 x hx
theorem wfs_of : ∀ {ps : List T}, (∀ t ∈ ps, t.wf) → wfs ps
  | [], _ => trivial
  | t :: r, h => by rw [wfs]; exact ⟨h t (.head _), wfs_of fun x hx => h x (.tail _ hx)⟩

/-- the number of a head's class -/
noncomputable def Hd.cls : Hd → Nat
  | .const _ => 0 | .loc _ => 1 | .glob _ => 2 | .setl _ => 3 | .setg _ => 4 | .ite => 5 | .lam _ _ _ => 6 | .call => 7 | .seq => 8 | .prim _ => 9 | .fix _ => 10
noncomputable def Hd.kind : Hd → Int
  | .const _ => 0 | .loc _ => 1 | .glob _ => 2 | .setl _ => 3 | .setg _ => 4 | .ite => 6 | .lam _ _ _ => 7 | .call => 8 | .seq => 9 | .prim _ => 10 | .fix _ => 11

section
variable {P : Nat → CP} {σ σ₁ : Sig} {d : Nat} {k : XV → Sig → Prop}

/-- the call of a parts method -/
noncomputable def partsFn : Hd → Nat
  | .const _ => 30 | .loc _ => 30 | .glob _ => 30 | .setl _ => 31 | .setg _ => 33 | .ite => 35 | .lam _ _ _ => 37 | .call => 40 | .seq => 42 | .prim _ => 44 | .fix _ => 46
theorem exists_one {ps : List PV} (h : ps.length = 1) : ∃ a, ps = [a] := by
  match ps, h with
  | [a], _ => exact ⟨a, rfl⟩
theorem exists_three {ps : List PV} (h : ps.length = 3) : ∃ a b c, ps = [a, b, c] := by
  match ps, h with
  | [a, b, c], _ => exact ⟨a, b, c, rfl⟩

theorem one_T {ps : List T} (h : ps.length = 1) : ∃ a, ps = [a] := by
  match ps, h with
  | [a], _ => exact ⟨a, rfl⟩
theorem three_T {ps : List T} (h : ps.length = 3) : ∃ a b c, ps = [a, b, c] := by
  match ps, h with
  | [a, b, c], _ => exact ⟨a, b, c, rfl⟩
theorem nil_T {ps : List T} (h : ps.length = 0) : ps = [] := List.length_eq_zero_iff.mp h
theorem encs_append (a b : List T) : encs (a ++ b) = encs a ++ encs b := by rw [encs_map, encs_map, encs_map, List.map_append]
theorem enc_fix {ns : List Int} {ls : List T} {b : T} : enc (.node (.fix ns) (ls ++ [b])) = .obj 10 [iv ns, .lst (encs ls), enc b] := by
  show encH (.fix ns) (encs (ls ++ [b])) = _
  rw [encs_append]
  show PV.obj 10 [iv ns, .lst (encs ls ++ [enc b]).dropLast, (encs ls ++ [enc b]).getLastD .none] = _
  rw [List.dropLast_concat]; simp

theorem c_parts (C : Calls P) {t : T} (ht : t.wf) (hz : t.sz ≤ 1000) (hd : 1 ≤ d) (h : k (.p (.lst (encs t.ps))) σ) : P d (partsFn t.hd) [.p (enc t)] σ k := by
  obtain ⟨d, rfl⟩ : ∃ e, d = e + 1 := ⟨d - 1, Nat.eq_add_of_sub_eq hd rfl⟩
  obtain ⟨hd, ps⟩ := t
  rw [T.wf] at ht
  rw [T.sz] at hz
  have hl := len_szs ps
  replace ht := ht.1
  have hlim : ps.length + 1 ≤ lim := by have hlim : lim = 1048576 := rfl; (first | lia | omega)
  have pure_ : ∀ {f : Nat} {fi : FnInfo} {t : T}, fnInfo f = some fi → fi.np = 1 → vcSs (P d) σ.length fi.body (startL [.p (enc t)] fi) σ (retK fun v σ' => v = .p (.lst (encs ps)) ∧ σ' = σ) → P (d + 1) f [.p (enc t)] σ k := fun hf hl hv =>
    C.mono (C.by' hf hl.symm hv) fun v σ' e => by rw [e.1, e.2]; exact h
  cases hd with
  | const v =>
    cases nil_T ht
    exact pure_ (fi := f30) rfl rfl ⟨rfl, rfl⟩
  | loc v =>
    cases nil_T ht.1
    exact pure_ (fi := f30) rfl rfl ⟨rfl, rfl⟩
  | glob v =>
    cases nil_T ht
    exact pure_ (fi := f30) rfl rfl ⟨rfl, rfl⟩
  | setl v =>
    obtain ⟨a, rfl⟩ := one_T ht.1
    exact pure_ (fi := f31) rfl rfl ⟨rfl, rfl⟩
  | setg v =>
    obtain ⟨a, rfl⟩ := one_T ht
    exact pure_ (fi := f33) rfl rfl ⟨rfl, rfl⟩
  | lam l xs r =>
    obtain ⟨a, rfl⟩ := one_T ht.1
    exact pure_ (fi := f37) rfl rfl ⟨rfl, rfl⟩
  | ite =>
    obtain ⟨a, b, c, rfl⟩ := three_T ht
    exact pure_ (fi := f35) rfl rfl ⟨rfl, rfl⟩
  | call =>
    cases ps with
    | nil => exact absurd (show 1 ≤ 0 from ht) (by decide)
    | cons q r =>
      refine pure_ (fi := f40) rfl rfl ⟨?_, rfl, rfl⟩
      show 1 + (encs r).length ≤ lim
      rw [encs_len, Nat.add_comm]; exact Nat.le_of_succ_le hlim
  | fix ns =>
    have hne : ps ≠ [] := by rintro rfl; exact absurd (show 1 ≤ 0 from ht.1) (by decide)
    obtain ⟨r, q, rfl⟩ : ∃ r q, ps = r ++ [q] := ⟨_, _, (List.dropLast_concat_getLast hne).symm⟩
    refine pure_ (fi := f46) rfl rfl ?_
    rw [enc_fix, encs_append]
    refine ⟨?_, rfl, rfl⟩
    rw [List.length_append] at hlim
    show (encs r).length + 1 ≤ lim
    rw [encs_len]; exact Nat.le_of_succ_le hlim
  | seq =>
    refine pure_ (fi := f42) rfl rfl ⟨?_, rfl, rfl⟩
    rw [encs_len]; exact Nat.le_of_succ_le hlim
  | prim o =>
    refine pure_ (fi := f44) rfl rfl ⟨?_, rfl, rfl⟩
    rw [encs_len]; exact Nat.le_of_succ_le hlim
end
end Mine
end
section
open PySem PySem.W PyProof.Rows Builtin Builtin.ObjectAttr
set_option Elab.async false
set_option maxRecDepth 100000
namespace Mine

theorem idx_0 (xs : List PV) : idx xs 0 = xs[0]? := rfl
theorem idx_1 (xs : List PV) : idx xs 1 = xs[1]? := rfl
theorem idx_2 (xs : List PV) : idx xs 2 = xs[2]? := rfl
theorem idx_3 (xs : List PV) : idx xs 3 = xs[3]? := rfl
theorem idx_4 (xs : List PV) : idx xs 4 = xs[4]? := rfl
theorem idx_n (xs : List PV) (n : Nat) : idx xs (n : Int) = xs[n]? := rfl
theorem idx_m1 (xs : List PV) (h : xs ≠ []) : idx xs (-1) = some (xs.getLastD .none) := by
  show (if 0 < xs.length then xs[xs.length - 1 - 0]? else none) = _
  rw [if_pos (List.length_pos_iff.mpr h), Nat.sub_zero, ← List.getLast?_eq_getElem?, List.getLastD_eq_getLast?, List.getLast?_eq_some_getLast h]
  rfl
theorem slTo_m1 (xs : List PV) : slTo xs (-1) = xs.dropLast := by
  show xs.take (xs.length - (0 + 1)) = _
  rw [List.dropLast_eq_take]
theorem slTo_n (xs : List PV) (n : Nat) : slTo xs (n : Int) = xs.take n := rfl
theorem toInts_iv : ∀ l : List Int, toInts (l.map .int) = some l
  | [] => rfl
  | a :: r => by show (toInts (r.map .int)).map (a :: ·) = _; rw [toInts_iv r]; rfl

noncomputable def withFn : Hd → Nat
  | .setl _ => 32 | .setg _ => 34 | .ite => 36 | .lam _ _ _ => 38 | .call => 41 | .seq => 43 | .prim _ => 45 | .fix _ => 47 | _ => 0
noncomputable def Hd.bs : Hd → List Int
  | .lam _ xs r => xs ++ if 0 ≤ r then [r] else []
  | .fix ns => ns
  | .const _ => []
  | .loc _ => []
  | .glob _ => []
  | .setl _ => []
  | .setg _ => []
  | .ite => []
  | .call => []
  | .seq => []
  | .prim _ => []

section
variable {P : Nat → CP} {σ σ₁ : Sig} {d : Nat} {k : XV → Sig → Prop}

theorem someP_i {α : Type} {o : Option α} {a : α} {k : α → Prop} (e : o = some a) (h : k a) : someP o k := by rw [e]; exact h
theorem c_with (C : Calls P) {t : T} {qs : List PV} (ht : t.wf) (hn : t.ps ≠ []) (hl : qs.length = t.ps.length) (hz : qs.length ≤ 1000) (hd : 1 ≤ d) (h : k (.p (encH t.hd qs)) σ) :
    P d (withFn t.hd) [.p (enc t), .p (.lst qs)] σ k := by
  obtain ⟨d, rfl⟩ : ∃ e, d = e + 1 := ⟨d - 1, Nat.eq_add_of_sub_eq hd rfl⟩
  obtain ⟨hd, ps⟩ := t
  rw [T.wf] at ht
  replace ht := ht.1
  have hne : qs ≠ [] := by
    rintro rfl
    exact hn (List.length_eq_zero_iff.mp hl.symm)
  have hlim : qs.length ≤ lim := Nat.le_trans hz (Nat.le_of_ble_eq_true rfl)
  have pure_ : ∀ {f : Nat} {fi : FnInfo} {t : T}, fnInfo f = some fi → fi.np = 2 → vcSs (P d) σ.length fi.body (startL [.p (enc t), .p (.lst qs)] fi) σ (retK fun v σ' => v = .p (encH hd qs) ∧ σ' = σ) → P (d + 1) f [.p (enc t), .p (.lst qs)] σ k := fun hf hl hv =>
    C.mono (C.by' hf hl.symm hv) fun v σ' e => by rw [e.1, e.2]; exact h
  have le0 : ∀ n : Nat, n ≤ 10 → n ≤ lim := fun n hn => Nat.le_trans hn (Nat.le_of_ble_eq_true rfl)
  cases hd with
  | const v => exact absurd (nil_T ht) hn
  | loc v => exact absurd (nil_T ht.1) hn
  | glob v => exact absurd (nil_T ht) hn
  | setl v =>
    obtain ⟨a, rfl⟩ := exists_one (hl.trans ht.1)
    exact pure_ (fi := f32) rfl rfl ⟨le0 0 (by decide), ⟨by decide, rfl⟩, rfl, rfl⟩
  | setg v =>
    obtain ⟨a, rfl⟩ := exists_one (hl.trans ht)
    exact pure_ (fi := f34) rfl rfl ⟨le0 0 (by decide), ⟨by decide, rfl⟩, rfl, rfl⟩
  | lam l xs r =>
    obtain ⟨a, rfl⟩ := exists_one (hl.trans ht.1)
    exact pure_ (fi := f38) rfl rfl ⟨le0 0 (by decide), ⟨by decide, rfl⟩, rfl, rfl⟩
  | ite =>
    obtain ⟨a, b, c, rfl⟩ := exists_three (hl.trans ht)
    exact pure_ (fi := f36) rfl rfl ⟨le0 0 (by decide), le0 1 (by decide), le0 2 (by decide), ⟨by decide, rfl⟩, rfl, rfl⟩
  | call =>
    obtain ⟨q, r, rfl⟩ := List.exists_cons_of_ne_nil hne
    exact pure_ (fi := f41) rfl rfl ⟨le0 0 (by decide), hlim, ⟨by decide, rfl⟩, rfl, rfl⟩
  | seq => exact pure_ (fi := f43) rfl rfl ⟨⟨by decide, rfl⟩, rfl, rfl⟩
  | prim o => exact pure_ (fi := f45) rfl rfl ⟨⟨by decide, rfl⟩, rfl, rfl⟩
  | fix ns =>
    refine pure_ (fi := f47) rfl rfl ⟨hlim, le0 1 (by decide), someP_i (idx_m1 _ hne) ⟨⟨by decide, rfl⟩, ?_, rfl⟩⟩
    rw [slTo_m1]; rfl
theorem c_binders (C : Calls P) {l r : Int} {xs : List Int} {ps : List T} (hx : xs.length ≤ 8) (hd : 1 ≤ d) (h : k (.p (iv (Hd.lam l xs r).bs)) σ) : P d 39 [.p (enc (.node (.lam l xs r) ps))] σ k := by
  obtain ⟨d, rfl⟩ : ∃ e, d = e + 1 := ⟨d - 1, Nat.eq_add_of_sub_eq hd rfl⟩
  have e1 : (xs.map PV.int).length + 1 ≤ lim := Nat.le_trans (Nat.succ_le_succ (by rw [List.length_map]; exact hx)) (by decide)
  refine C.by' (fi := f39) rfl rfl ?_
  refine br_intro (fun q => ?_) (fun q => ?_)
  · refine And.intro (e1) ?_
    rw [Hd.bs, if_pos (of_decide_eq_true q), iv, List.map_append] at h
    exact h
  · refine And.intro (Nat.le_of_succ_le e1) ?_
    rw [Hd.bs, if_neg (of_decide_eq_false q), List.append_nil] at h
    exact h
end
end Mine
end
section
open PySem PySem.W PyProof.Rows Builtin Builtin.ObjectAttr
set_option Elab.async false
set_option maxRecDepth 100000
namespace Mine

noncomputable def Hd.nums : Hd → List Int
  | .loc n => [n]
  | .setl n => [n]
  | .lam _ xs r => xs ++ if 0 ≤ r then [r] else []
  | .fix ns => ns
  | .const _ => []
  | .glob _ => []
  | .setg _ => []
  | .ite => []
  | .call => []
  | .seq => []
  | .prim _ => []
noncomputable def Hd.lab : Hd → List Int
  | .lam l _ _ => [l]
  | .const _ => []
  | .loc _ => []
  | .glob _ => []
  | .setl _ => []
  | .setg _ => []
  | .ite => []
  | .call => []
  | .seq => []
  | .prim _ => []
  | .fix _ => []
noncomputable def Hd.labv : Hd → PV
  | .lam l _ _ => .int l
  | .const _ => .none
  | .loc _ => .none
  | .glob _ => .none
  | .setl _ => .none
  | .setg _ => .none
  | .ite => .none
  | .call => .none
  | .seq => .none
  | .prim _ => .none
  | .fix _ => .none
noncomputable def Hd.c3 : Hd → PV
  | .const v => .int v
  | .glob n => .int n
  | .setg n => .int n
  | .lam _ _ r => .bool (decide (0 ≤ r))
  | .prim o => .int o
  | .loc _ => .none
  | .setl _ => .none
  | .ite => .none
  | .call => .none
  | .seq => .none
  | .fix _ => .none
mutual
noncomputable def shp : T → PV
  | .node h ps => .tup [.int h.kind, .tup (h.nums.map .int), h.labv, h.c3, .tup (shps ps)]
noncomputable def shps : List T → List PV
  | [] => []
  | t :: r => shp t :: shps r
end
theorem shps_map : ∀ ps, shps ps = ps.map shp
  | [] => rfl
  | t :: r => by rw [shps, shps_map r]; rfl

section
variable {P : Nat → CP} {σ σ₁ : Sig} {d : Nat} {k : XV → Sig → Prop}

theorem compP_map {α : Type} {body : PV → Sig → (PV → Sig → Prop) → Prop} (e f : α → PV) : ∀ (l : List α) {k : List PV → Sig → Prop}, (∀ a ∈ l, ∀ {k : PV → Sig → Prop}, k (f a) σ → body (e a) σ k) → k (l.map f) σ → compP body (l.map e) σ k
  | [], _, _, h => h
  | a :: r, _, hb, h => hb a (.head _) (compP_map e f r (fun x hx => hb x (.tail _ hx)) h)

theorem c_shape (C : Calls P) : ∀ (n : Nat) {t : T} {d : Nat} {k : XV → Sig → Prop}, t.sz ≤ n → t.wf → t.sz ≤ 1000 → t.sz + 2 ≤ d → k (.p (shp t)) σ → P d 6 [.p (enc t)] σ k
  | 0, t, _, _, hn, _, _, _, _ => absurd hn (by have := t.sz_pos; (first | lia | omega))
  | n + 1, .node hd ps, d, k, hn, ht, hz, hdd, h => by
    obtain ⟨d, rfl⟩ : ∃ e, d = e + 1 := ⟨d - 1, by (first | lia | omega)⟩
    have ht0 := ht
    have hz0 := hz
    rw [T.wf] at ht
    rw [T.sz] at hn hz hdd
    have hl := len_szs ps
    have hlim : lim = 1048576 := rfl
    rw [shp] at h
    have last : ∀ {k : List PV → Sig → Prop}, k (shps ps) σ → compP (fun x σ' k => P d 6 [.p x] σ' fun y σ' => asP y fun v => k v σ') (encs ps) σ k := fun {k} h => by
      rw [encs_map]
      rw [shps_map] at h
      refine compP_map _ _ _ (fun t hm k hk => ?_) h
      have := mem_szs hm
      exact c_shape C n (by first | exact dn hd rfl | exact dt hd rfl | exact dc hd rfl | exact dc0 hd rfl | exact dcn hd rfl | exact ds hd rfl | exact ds0 hd | exact dn hdd rfl | exact dt hdd rfl | (first | lia | omega)) (wfs_mem ht.2 t hm) (by first | exact dn hd rfl | exact dt hd rfl | exact dc hd rfl | exact dc0 hd rfl | exact dcn hd rfl | exact ds hd rfl | exact ds0 hd | exact dn hdd rfl | exact dt hdd rfl | (first | lia | omega)) (by first | exact dn hd rfl | exact dt hd rfl | exact dc hd rfl | exact dc0 hd rfl | exact dcn hd rfl | exact ds hd rfl | exact ds0 hd | exact dn hdd rfl | exact dt hdd rfl | (first | lia | omega)) hk
    have e1 : (encs ps).length ≤ lim := by rw [encs_len]; (first | lia | omega)
    have e2 : (shps ps).length ≤ lim := by rw [shps_map, List.length_map]; (first | lia | omega)
    refine C.by' (fi := f6) rfl rfl ?_
    cases hd with
    | const v =>
      refine c_parts C ht0 hz0 (by first | exact dn hd rfl | exact dt hd rfl | exact dc hd rfl | exact dc0 hd rfl | exact dcn hd rfl | exact ds hd rfl | exact ds0 hd | exact dn hdd rfl | exact dt hdd rfl | (first | lia | omega)) ?_
      exact ⟨e1, last ⟨e2, h⟩⟩
    | loc v =>
      refine c_parts C ht0 hz0 (by first | exact dn hd rfl | exact dt hd rfl | exact dc hd rfl | exact dc0 hd rfl | exact dcn hd rfl | exact ds hd rfl | exact ds0 hd | exact dn hdd rfl | exact dt hdd rfl | (first | lia | omega)) ?_
      exact ⟨e1, last ⟨e2, h⟩⟩
    | glob v =>
      refine c_parts C ht0 hz0 (by first | exact dn hd rfl | exact dt hd rfl | exact dc hd rfl | exact dc0 hd rfl | exact dcn hd rfl | exact ds hd rfl | exact ds0 hd | exact dn hdd rfl | exact dt hdd rfl | (first | lia | omega)) ?_
      exact ⟨e1, last ⟨e2, h⟩⟩
    | setl v =>
      refine c_parts C ht0 hz0 (by first | exact dn hd rfl | exact dt hd rfl | exact dc hd rfl | exact dc0 hd rfl | exact dcn hd rfl | exact ds hd rfl | exact ds0 hd | exact dn hdd rfl | exact dt hdd rfl | (first | lia | omega)) ?_
      exact ⟨e1, last ⟨e2, h⟩⟩
    | setg v =>
      refine c_parts C ht0 hz0 (by first | exact dn hd rfl | exact dt hd rfl | exact dc hd rfl | exact dc0 hd rfl | exact dcn hd rfl | exact ds hd rfl | exact ds0 hd | exact dn hdd rfl | exact dt hdd rfl | (first | lia | omega)) ?_
      exact ⟨e1, last ⟨e2, h⟩⟩
    | ite =>
      refine c_parts C ht0 hz0 (by first | exact dn hd rfl | exact dt hd rfl | exact dc hd rfl | exact dc0 hd rfl | exact dcn hd rfl | exact ds hd rfl | exact ds0 hd | exact dn hdd rfl | exact dt hdd rfl | (first | lia | omega)) ?_
      exact ⟨e1, last ⟨e2, h⟩⟩
    | call =>
      refine c_parts C ht0 hz0 (by first | exact dn hd rfl | exact dt hd rfl | exact dc hd rfl | exact dc0 hd rfl | exact dcn hd rfl | exact ds hd rfl | exact ds0 hd | exact dn hdd rfl | exact dt hdd rfl | (first | lia | omega)) ?_
      exact ⟨e1, last ⟨e2, h⟩⟩
    | seq =>
      refine c_parts C ht0 hz0 (by first | exact dn hd rfl | exact dt hd rfl | exact dc hd rfl | exact dc0 hd rfl | exact dcn hd rfl | exact ds hd rfl | exact ds0 hd | exact dn hdd rfl | exact dt hdd rfl | (first | lia | omega)) ?_
      exact ⟨e1, last ⟨e2, h⟩⟩
    | prim o =>
      refine c_parts C ht0 hz0 (by first | exact dn hd rfl | exact dt hd rfl | exact dc hd rfl | exact dc0 hd rfl | exact dcn hd rfl | exact ds hd rfl | exact ds0 hd | exact dn hdd rfl | exact dt hdd rfl | (first | lia | omega)) ?_
      exact ⟨e1, last ⟨e2, h⟩⟩
    | fix ns =>
      have hns : (ns.map PV.int).length ≤ lim := by have := ht.1.2.1; rw [List.length_map]; (first | lia | omega)
      conv => whnf
      refine ⟨hns, c_parts C ht0 hz0 (by first | exact dn hd rfl | exact dt hd rfl | exact dc hd rfl | exact dc0 hd rfl | exact dcn hd rfl | exact ds hd rfl | exact ds0 hd | exact dn hdd rfl | exact dt hdd rfl | (first | lia | omega)) ?_⟩
      exact ⟨e1, last ⟨e2, h⟩⟩
    | lam l xs r =>
      have hns : (xs.map PV.int).length ≤ 8 := by have := ht.1.2.2.1; rw [List.length_map]; (first | lia | omega)
      conv => whnf
      refine ⟨Nat.le_trans hns (by decide), br_intro (fun hr => ?_) (fun hr => ?_)⟩
      · conv => whnf
        refine ⟨Nat.le_trans (Nat.add_le_add_right hns 1) (by decide), c_parts C ht0 hz0 (by first | exact dn hd rfl | exact dt hd rfl | exact dc hd rfl | exact dc0 hd rfl | exact dcn hd rfl | exact ds hd rfl | exact ds0 hd | exact dn hdd rfl | exact dt hdd rfl | (first | lia | omega)) ?_⟩
        refine ⟨e1, last ⟨e2, ?_⟩⟩
        simp only [Hd.nums, Hd.labv, Hd.c3, Hd.kind, if_pos (of_decide_eq_true hr), List.map_append] at h
        exact h
      · conv => whnf
        refine ⟨Nat.le_trans hns (by decide), c_parts C ht0 hz0 (by first | exact dn hd rfl | exact dt hd rfl | exact dc hd rfl | exact dc0 hd rfl | exact dcn hd rfl | exact ds hd rfl | exact ds0 hd | exact dn hdd rfl | exact dt hdd rfl | (first | lia | omega)) ?_⟩
        refine ⟨e1, last ⟨e2, ?_⟩⟩
        simp only [Hd.nums, Hd.labv, Hd.c3, Hd.kind, if_neg (of_decide_eq_false hr), List.map_append] at h
        exact h
end
end Mine
end
section
open PySem PySem.W PyProof.Rows Builtin Builtin.ObjectAttr
set_option Elab.async false
set_option maxRecDepth 100000
namespace Mine

mutual
noncomputable def nums : T → List Int
  | .node h ps => h.nums ++ numss ps
noncomputable def numss : List T → List Int
  | [] => []
  | t :: r => nums t ++ numss r
end
mutual
noncomputable def labs : T → List Int
  | .node h ps => h.lab ++ labss ps
noncomputable def labss : List T → List Int
  | [] => []
  | t :: r => labs t ++ labss r
end
mutual
noncomputable def bnds : T → List Int
  | .node h ps => h.bs ++ bndss ps
noncomputable def bndss : List T → List Int
  | [] => []
  | t :: r => bnds t ++ bndss r
end
mutual
noncomputable def bar : T → PV
  | .node h ps => .tup [.int h.kind, .int h.nums.length, .bool h.lab.isEmpty, h.c3, .tup (bars ps)]
noncomputable def bars : List T → List PV
  | [] => []
  | t :: r => bar t :: bars r
end
theorem bars_map : ∀ ps, bars ps = ps.map bar
  | [] => rfl
  | t :: r => by rw [bars, bars_map r]; rfl
theorem numss_len : ∀ {ps : List T}, (∀ t ∈ ps, (nums t).length ≤ 9 * t.sz) → (numss ps).length ≤ 9 * szs ps
  | [], _ => Nat.zero_le _
  | t :: r, h => by
    have := h t (.head _)
    have := numss_len fun x hx => h x (.tail _ hx)
    rw [numss, szs, List.length_append]; (first | lia | omega)
theorem labss_len : ∀ {ps : List T}, (∀ t ∈ ps, (labs t).length ≤ t.sz) → (labss ps).length ≤ szs ps
  | [], _ => Nat.zero_le _
  | t :: r, h => by
    have := h t (.head _)
    have := labss_len fun x hx => h x (.tail _ hx)
    rw [labss, szs, List.length_append]; (first | lia | omega)
theorem bndss_len : ∀ {ps : List T}, (∀ t ∈ ps, (bnds t).length ≤ 9 * t.sz) → (bndss ps).length ≤ 9 * szs ps
  | [], _ => Nat.zero_le _
  | t :: r, h => by
    have := h t (.head _)
    have := bndss_len fun x hx => h x (.tail _ hx)
    rw [bndss, szs, List.length_append]; (first | lia | omega)
theorem Hd.nums_len {h : Hd} {n : Nat} (ok : h.ok n) : h.nums.length ≤ 9 := by
  cases h with
  | lam l xs r =>
    have := ok.2.2.1
    rw [Hd.nums, List.length_append]
    split
    · simp only [List.length_singleton]; (first | lia | omega)
    · simp only [List.length_nil]; (first | lia | omega)
  | fix ns => have := ok.2.1; rw [Hd.nums]; (first | lia | omega)
  | _ => simp [Hd.nums]
theorem Hd.bs_len {h : Hd} {n : Nat} (ok : h.ok n) : h.bs.length ≤ 9 := by
  cases h with
  | lam l xs r =>
    have := ok.2.2.1
    rw [Hd.bs, List.length_append]
    split
    · simp only [List.length_singleton]; (first | lia | omega)
    · simp only [List.length_nil]; (first | lia | omega)
  | fix ns => have := ok.2.1; rw [Hd.bs]; (first | lia | omega)
  | _ => simp [Hd.bs]
theorem Hd.lab_len (h : Hd) : h.lab.length ≤ 1 := by cases h <;> simp [Hd.lab]
theorem nums_len : ∀ (n : Nat) {t : T}, t.sz ≤ n → t.wf → (nums t).length ≤ 9 * t.sz
  | 0, t, h, _ => absurd h (by have := t.sz_pos; (first | lia | omega))
  | n + 1, .node hd ps, h, ht => by
    rw [T.wf] at ht
    rw [T.sz] at h
    have h1 := Hd.nums_len ht.1
    have h2 := numss_len (ps := ps) fun t hm => nums_len n (by have := mem_szs hm; (first | lia | omega)) (wfs_mem ht.2 t hm)
    rw [nums, T.sz, List.length_append]; (first | lia | omega)
theorem labs_len : ∀ (n : Nat) {t : T}, t.sz ≤ n → (labs t).length ≤ t.sz
  | 0, t, h => absurd h (by have := t.sz_pos; (first | lia | omega))
  | n + 1, .node hd ps, h => by
    rw [T.sz] at h
    have h1 := hd.lab_len
    have h2 := labss_len (ps := ps) fun t hm => labs_len n (by have := mem_szs hm; (first | lia | omega))
    rw [labs, T.sz, List.length_append]; (first | lia | omega)
theorem bnds_len : ∀ (n : Nat) {t : T}, t.sz ≤ n → t.wf → (bnds t).length ≤ 9 * t.sz
  | 0, t, h, _ => absurd h (by have := t.sz_pos; (first | lia | omega))
  | n + 1, .node hd ps, h, ht => by
    rw [T.wf] at ht
    rw [T.sz] at h
    have h1 := Hd.bs_len ht.1
    have h2 := bndss_len (ps := ps) fun t hm => bnds_len n (by have := mem_szs hm; (first | lia | omega)) (wfs_mem ht.2 t hm)
    rw [bnds, T.sz, List.length_append]; (first | lia | omega)

/-- the body of the first loop at the n-th place -/
noncomputable def loopAt : Nat → Sms → Sms
  | 0, .cons (.for _ _ b) _ => b
  | 0, .cons (.while _ b) _ => b
  | n + 1, .cons _ r => loopAt n r
  | _, _ => .nil
noncomputable def condAt : Nat → Sms → Ex
  | 0, .cons (.while c _) _ => c
  | n + 1, .cons _ r => condAt n r
  | _, _ => .none

section
variable {P : Nat → CP} {σ σ₁ : Sig} {d : Nat} {k : XV → Sig → Prop}


theorem c_numbers (C : Calls P) : ∀ (n : Nat) {t : T} {d : Nat} {k : XV → Sig → Prop}, t.sz ≤ n → t.wf → t.sz ≤ 1000 → t.sz + 2 ≤ d → k (.p (.tup [iv (nums t), iv (labs t)])) σ → P d 7 [.p (shp t)] σ k
  | 0, t, _, _, hn, _, _, _, _ => absurd hn (by have := t.sz_pos; (first | lia | omega))
  | n + 1, .node hd ps, d, k, hn, ht, hz, hdd, h => by
    obtain ⟨d, rfl⟩ : ∃ e, d = e + 1 := ⟨d - 1, by (first | lia | omega)⟩
    rw [T.wf] at ht
    rw [T.sz] at hn hz hdd
    have hl := len_szs ps
    have hlim : lim = 1048576 := rfl
    have loop : ∀ (qs : List T) (a b : List PV) (x0 x3 x4 x5 : Option XV) (K : Fl → Locs → Sig → Prop), (∀ t ∈ qs, t ∈ ps) → a.length + 9 * szs qs ≤ 10000 → b.length + szs qs ≤ 10000 →
        (∀ y3 y4 y5, K .next [x0, some (.p (.lst (a ++ (numss qs).map .int))), some (.p (.lst (b ++ (labss qs).map .int))), y3, y4, y5] σ) →
        forP 3 (fun L σ' k => vcSs (P d) σ.length (loopAt 1 b7) L σ' k) (shps qs) [x0, some (.p (.lst a)), some (.p (.lst b)), x3, x4, x5] σ K := by
      intro qs
      induction qs with
      | nil =>
        intro a b x0 x3 x4 x5 K _ _ _ hK
        have := hK x3 x4 x5
        simp only [numss, labss, List.map_nil, List.append_nil] at this
        exact this
      | cons t r ih =>
        intro a b x0 x3 x4 x5 K hm ha hb hK
        have ht' := wfs_mem ht.2 t (hm t (.head _))
        have hs := mem_szs (hm t (.head _))
        rw [szs] at ha hb
        have l1 := nums_len _ (Nat.le_refl _) ht'
        have l2 := labs_len _ (Nat.le_refl t.sz)
        refine c_numbers C n (by first | exact dn hd rfl | exact dt hd rfl | exact dc hd rfl | exact dc0 hd rfl | exact dcn hd rfl | exact ds hd rfl | exact ds0 hd | exact dn hdd rfl | exact dt hdd rfl | (first | lia | omega)) ht' (by first | exact dn hd rfl | exact dt hd rfl | exact dc hd rfl | exact dc0 hd rfl | exact dcn hd rfl | exact ds hd rfl | exact ds0 hd | exact dn hdd rfl | exact dt hdd rfl | (first | lia | omega)) (by first | exact dn hd rfl | exact dt hd rfl | exact dc hd rfl | exact dc0 hd rfl | exact dcn hd rfl | exact ds hd rfl | exact ds0 hd | exact dn hdd rfl | exact dt hdd rfl | (first | lia | omega)) ?_
        refine And.intro (by rw [List.length_map]; (first | lia | omega)) ?_
        refine And.intro (by rw [List.length_map]; (first | lia | omega)) ?_
        refine ih (a ++ (nums t).map .int) (b ++ (labs t).map .int) x0 _ _ _ K (fun x hx => hm x (.tail _ hx)) (by rw [List.length_append, List.length_map]; (first | lia | omega)) (by rw [List.length_append, List.length_map]; (first | lia | omega)) fun y3 y4 y5 => ?_
        have := hK y3 y4 y5
        rw [numss, labss, List.map_append, List.map_append, ← List.append_assoc, ← List.append_assoc] at this
        exact this
    have q1 := Hd.nums_len ht.1
    have e1 : (hd.nums.map PV.int).length ≤ lim := by rw [List.length_map]; (first | lia | omega)
    have e2 : (shps ps).length ≤ lim := by rw [shps_map, List.length_map]; (first | lia | omega)
    have fin : ∀ lab : List PV, lab = hd.lab.map .int → forP 3 (fun L σ' k => vcSs (P d) σ.length (loopAt 1 b7) L σ' k) (shps ps) [some (.p (shp (.node hd ps))), some (.p (.lst (hd.nums.map .int))), some (.p (.lst lab)), none, none, none] σ
        (fun f L₁ σ₁ => match f with
          | .next => vcSs (P d) σ.length (.cons (.ret (.tuple (.cons (.var 1) (.cons (.var 2) .nil)))) .nil) L₁ σ₁ (retK k)
          | .ret v => retK k (.ret v) L₁ σ₁) := by
      rintro lab rfl
      have := hd.lab_len
      refine loop ps _ _ _ _ _ _ _ (fun _ h => h) (by rw [List.length_map]; (first | lia | omega)) (by rw [List.length_map]; (first | lia | omega)) fun y3 y4 y5 => ?_
      simp only [nums, labs, iv, List.map_append] at h
      exact h
    refine C.by' (fi := f7) rfl rfl ?_
    rw [shp] at fin ⊢
    cases hd with
    | lam l xs r =>
      refine And.intro (by decide) ?_
      refine And.intro (e1) ?_
      refine And.intro (by decide) ?_
      refine And.intro (by decide) ?_
      refine And.intro (by decide) ?_
      exact ⟨e2, fin _ rfl⟩
    | _ =>
      refine And.intro (by decide) ?_
      refine And.intro (e1) ?_
      refine And.intro (by decide) ?_
      refine And.intro (by decide) ?_
      exact ⟨e2, fin _ rfl⟩
end
end Mine
end
section
open PySem PySem.W PyProof.Rows Builtin Builtin.ObjectAttr
set_option Elab.async false
set_option maxRecDepth 100000
namespace Mine

/-- the same places hold the same numbers -/
noncomputable def Pairing (a b : List Int) : Prop := ∀ i j : Nat, i < a.length → j < i → (a[i]? = a[j]? ↔ b[i]? = b[j]?)

section
variable {P : Nat → CP} {σ σ₁ : Sig} {d : Nat} {k : XV → Sig → Prop}

theorem c_bare (C : Calls P) : ∀ (n : Nat) {t : T} {d : Nat} {k : XV → Sig → Prop}, t.sz ≤ n → t.wf → t.sz ≤ 1000 → t.sz + 2 ≤ d → k (.p (bar t)) σ → P d 8 [.p (shp t)] σ k
  | 0, t, _, _, hn, _, _, _, _ => absurd hn (by have := t.sz_pos; (first | lia | omega))
  | n + 1, .node hd ps, d, k, hn, ht, hz, hdd, h => by
    obtain ⟨d, rfl⟩ : ∃ e, d = e + 1 := ⟨d - 1, by (first | lia | omega)⟩
    rw [T.wf] at ht
    rw [T.sz] at hn hz hdd
    have hl := len_szs ps
    have hlim : lim = 1048576 := rfl
    rw [bar] at h
    have last : ∀ {k : List PV → Sig → Prop}, k (bars ps) σ → compP (fun x σ' k => P d 8 [.p x] σ' fun y σ' => asP y fun v => k v σ') (shps ps) σ k := fun {k} h => by
      rw [shps_map]
      rw [bars_map] at h
      refine compP_map _ _ _ (fun t hm k hk => ?_) h
      have := mem_szs hm
      exact c_bare C n (by first | exact dn hd rfl | exact dt hd rfl | exact dc hd rfl | exact dc0 hd rfl | exact dcn hd rfl | exact ds hd rfl | exact ds0 hd | exact dn hdd rfl | exact dt hdd rfl | (first | lia | omega)) (wfs_mem ht.2 t hm) (by first | exact dn hd rfl | exact dt hd rfl | exact dc hd rfl | exact dc0 hd rfl | exact dcn hd rfl | exact ds hd rfl | exact ds0 hd | exact dn hdd rfl | exact dt hdd rfl | (first | lia | omega)) (by first | exact dn hd rfl | exact dt hd rfl | exact dc hd rfl | exact dc0 hd rfl | exact dcn hd rfl | exact ds hd rfl | exact ds0 hd | exact dn hdd rfl | exact dt hdd rfl | (first | lia | omega)) hk
    have q1 := Hd.nums_len ht.1
    have e1 : (hd.nums.map PV.int).length ≤ lim := by rw [List.length_map]; (first | lia | omega)
    have e2 : (shps ps).length ≤ lim := by rw [shps_map, List.length_map]; (first | lia | omega)
    have e3 : (bars ps).length ≤ lim := by rw [bars_map, List.length_map]; (first | lia | omega)
    have e4 : ((hd.nums.map PV.int).length : Int) = hd.nums.length := by rw [List.length_map]
    rw [← e4] at h
    refine C.by' (fi := f8) rfl rfl ?_
    rw [shp]
    cases hd with
    | _ =>
      refine And.intro (by decide) ?_
      refine And.intro (by decide) ?_
      refine And.intro (e1) ?_
      refine And.intro (by decide) ?_
      refine And.intro (by decide) ?_
      refine And.intro (by decide) ?_
      exact ⟨e2, last ⟨e3, h⟩⟩

theorem rangeL_up (n : Nat) : rangeL 0 (n : Int) 1 = (List.range' 0 n).map fun (j : Nat) => PV.int (j : Int) := by
  unfold rangeL
  rw [if_pos rfl, ← List.range_eq_range', Int.sub_zero, Int.toNat_natCast]
  simp

theorem c_pairing (C : Calls P) {a b : List Int} (hab : a.length = b.length) (hz : a.length ≤ 10000) (hd : 1 ≤ d) (h : ∀ t : Bool, (t = true ↔ Pairing a b) → k (.p (.bool t)) σ) : P d 9 [.p (iv a), .p (iv b)] σ k := by
  obtain ⟨d, rfl⟩ : ∃ e, d = e + 1 := ⟨d - 1, by (first | lia | omega)⟩
  have hlim : lim = 1048576 := rfl
  have get : ∀ {l : List Int} {i : Nat} {v : Int}, l[i]? = some v → idx (l.map PV.int) (i : Int) = some (.int v) := fun {l i v} e => by
    rw [idx_n, List.getElem?_map, e]; rfl
  have inner : ∀ (m s i : Nat) (x0 x1 x3 : Option XV) (K : Fl → Locs → Sig → Prop), x0 = some (.p (iv a)) → x1 = some (.p (iv b)) → i < a.length → s + m = i → (∀ j, j < s → (a[i]? = a[j]? ↔ b[i]? = b[j]?)) →
      ((∀ j, j < i → (a[i]? = a[j]? ↔ b[i]? = b[j]?)) → ∀ y3, K .next [x0, x1, some (.p (.int i)), y3] σ) →
      (∀ L, ¬ Pairing a b → K (.ret (.p (.bool false))) L σ) →
      forP 3 (fun L σ' k => vcSs (P d) σ.length (loopAt 0 (loopAt 0 b9)) L σ' k) ((List.range' s m).map fun (j : Nat) => PV.int (j : Int)) [x0, x1, some (.p (.int i)), x3] σ K := by
    intro m
    induction m with
    | zero =>
      rintro s i x0 x1 x3 K rfl rfl hi hs hj h1 h2
      exact h1 (fun j hj' => hj j (by first | exact dn hd rfl | exact dt hd rfl | exact dc hd rfl | exact dc0 hd rfl | exact dcn hd rfl | exact ds hd rfl | exact ds0 hd | exact dn hdd rfl | exact dt hdd rfl | (first | lia | omega))) x3
    | succ m ih =>
      rintro s i x0 x1 x3 K rfl rfl hi hs hj h1 h2
      rw [List.range'_succ]
      have hs' : s < a.length := by (first | lia | omega)
      have gi : a[i]? = some a[i] := List.getElem?_eq_getElem hi
      have gs : a[s]? = some a[s] := List.getElem?_eq_getElem hs'
      have hi2 : b[i]? = some (b[i]'(hab ▸ hi)) := List.getElem?_eq_getElem _
      have hs2 : b[s]? = some (b[s]'(hab ▸ hs')) := List.getElem?_eq_getElem _
      conv => whnf
      refine ⟨by show i ≤ lim; (first | lia | omega), someP_i (get gi) ?_⟩
      conv => whnf
      refine ⟨by show s ≤ lim; (first | lia | omega), someP_i (get gs) ?_⟩
      conv => whnf
      refine ⟨by show i ≤ lim; (first | lia | omega), someP_i (get hi2) ?_⟩
      conv => whnf
      refine ⟨by show s ≤ lim; (first | lia | omega), someP_i (get hs2) ?_⟩
      conv => whnf
      have key : (a[i]? = a[s]? ↔ b[i]? = b[s]?) ↔ (decide (a[i] = a[s]) = decide (b[i]'(hab ▸ hi) = b[s]'(hab ▸ hs'))) := by
        rw [gi, gs, hi2, hs2, Option.some_inj, Option.some_inj, decide_eq_decide]
      refine br_intro (fun ht => ?_) (fun ht => ?_)
      · refine h2 _ fun hp => ?_
        have := key.mp (hp i s hi (by first | exact dn hd rfl | exact dt hd rfl | exact dc hd rfl | exact dc0 hd rfl | exact dcn hd rfl | exact ds hd rfl | exact ds0 hd | exact dn hdd rfl | exact dt hdd rfl | (first | lia | omega)))
        rw [this] at ht
        simp at ht
      · refine ih (s + 1) i _ _ _ K rfl rfl hi (by first | exact dn hd rfl | exact dt hd rfl | exact dc hd rfl | exact dc0 hd rfl | exact dcn hd rfl | exact ds hd rfl | exact ds0 hd | exact dn hdd rfl | exact dt hdd rfl | (first | lia | omega)) (fun j hj' => ?_) h1 h2
        by_cases q : j = s
        · subst q
          refine key.mpr ?_
          simpa using ht
        · exact hj j (by first | exact dn hd rfl | exact dt hd rfl | exact dc hd rfl | exact dc0 hd rfl | exact dcn hd rfl | exact ds hd rfl | exact ds0 hd | exact dn hdd rfl | exact dt hdd rfl | (first | lia | omega))
  have outer : ∀ (m s : Nat) (x0 x1 x2 x3 : Option XV) (K : Fl → Locs → Sig → Prop), x0 = some (.p (iv a)) → x1 = some (.p (iv b)) → s + m = a.length → (∀ i j, i < s → j < i → (a[i]? = a[j]? ↔ b[i]? = b[j]?)) →
      (Pairing a b → ∀ y2 y3, K .next [x0, x1, y2, y3] σ) →
      (∀ L, ¬ Pairing a b → K (.ret (.p (.bool false))) L σ) →
      forP 2 (fun L σ' k => vcSs (P d) σ.length (loopAt 0 b9) L σ' k) ((List.range' s m).map fun (j : Nat) => PV.int (j : Int)) [x0, x1, x2, x3] σ K := by
    intro m
    induction m with
    | zero =>
      rintro s x0 x1 x2 x3 K rfl rfl hs hj h1 h2
      exact h1 (fun i j hi hj' => hj i j (by first | exact dn hd rfl | exact dt hd rfl | exact dc hd rfl | exact dc0 hd rfl | exact dcn hd rfl | exact ds hd rfl | exact ds0 hd | exact dn hdd rfl | exact dt hdd rfl | (first | lia | omega)) hj') x2 x3
    | succ m ih =>
      rintro s x0 x1 x2 x3 K rfl rfl hs hj h1 h2
      rw [List.range'_succ]
      refine And.intro (by rw [hlim]; show (s : Int) ≤ 1048576; (first | lia | omega)) ?_
      refine And.intro (⟨.inl rfl, by decide, by show s ≤ lim; (first | lia | omega)⟩) ?_
      rw [rangeL_up]
      refine ⟨by rw [List.length_map, List.length_range']; (first | lia | omega), ?_⟩
      refine inner s 0 s _ _ _ _ rfl rfl (by first | exact dn hd rfl | exact dt hd rfl | exact dc hd rfl | exact dc0 hd rfl | exact dcn hd rfl | exact ds hd rfl | exact ds0 hd | exact dn hdd rfl | exact dt hdd rfl | (first | lia | omega)) (by first | exact dn hd rfl | exact dt hd rfl | exact dc hd rfl | exact dc0 hd rfl | exact dcn hd rfl | exact ds hd rfl | exact ds0 hd | exact dn hdd rfl | exact dt hdd rfl | (first | lia | omega)) (fun j hj' => by (first | lia | omega)) (fun hall y3 => ?_) (fun L hn => h2 L hn)
      refine ih (s + 1) _ _ _ _ K rfl rfl (by first | exact dn hd rfl | exact dt hd rfl | exact dc hd rfl | exact dc0 hd rfl | exact dcn hd rfl | exact ds hd rfl | exact ds0 hd | exact dn hdd rfl | exact dt hdd rfl | (first | lia | omega)) (fun i j hi hj' => ?_) h1 h2
      by_cases q : i = s
      · subst q; exact hall j hj'
      · exact hj i j (by first | exact dn hd rfl | exact dt hd rfl | exact dc hd rfl | exact dc0 hd rfl | exact dcn hd rfl | exact ds hd rfl | exact ds0 hd | exact dn hdd rfl | exact dt hdd rfl | (first | lia | omega)) hj'
  refine C.by' (fi := f9) rfl rfl ?_
  have e1 : (a.map PV.int).length = a.length := List.length_map _
  have e2 : (b.map PV.int).length = b.length := List.length_map _
  refine And.intro (by rw [e1]; (first | lia | omega)) ?_
  refine And.intro (by rw [e1, hlim]; (first | lia | omega)) ?_
  refine And.intro (⟨.inl rfl, by decide, by show (a.map PV.int).length ≤ lim; (first | lia | omega)⟩) ?_
  rw [e1, rangeL_up]
  refine ⟨by rw [List.length_map, List.length_range']; (first | lia | omega), ?_⟩
  refine outer a.length 0 _ _ _ _ _ rfl rfl (by first | exact dn hd rfl | exact dt hd rfl | exact dc hd rfl | exact dc0 hd rfl | exact dcn hd rfl | exact ds hd rfl | exact ds0 hd | exact dn hdd rfl | exact dt hdd rfl | (first | lia | omega)) (fun i j hi => by (first | lia | omega)) (fun hp y2 y3 => ?_) (fun L hn => h false (by simp [hn]))
  refine And.intro (by rw [e1]; (first | lia | omega)) ?_
  refine And.intro (by rw [e2]; (first | lia | omega)) ?_
  refine h _ ?_
  rw [e1, e2, hab]
  simp [hp]
end
end Mine
end
section
open PySem PySem.W PyProof.Rows Builtin Builtin.ObjectAttr
set_option Elab.async false
set_option maxRecDepth 100000
namespace Mine

/-! ## as plain data -/
noncomputable def Hd.c3D : Hd → PyData
  | .const v => .int v
  | .glob n => .int n
  | .setg n => .int n
  | .lam _ _ r => .bool (decide (0 ≤ r))
  | .prim o => .int o
  | .loc _ => .none
  | .setl _ => .none
  | .ite => .none
  | .call => .none
  | .seq => .none
  | .fix _ => .none
noncomputable def Hd.labD : Hd → PyData
  | .lam l _ _ => .int l
  | .const _ => .none
  | .loc _ => .none
  | .glob _ => .none
  | .setl _ => .none
  | .setg _ => .none
  | .ite => .none
  | .call => .none
  | .seq => .none
  | .prim _ => .none
  | .fix _ => .none
mutual
noncomputable def barD : T → PyData
  | .node h ps => .tuple [.int h.kind, .int h.nums.length, .bool h.lab.isEmpty, h.c3D, .tuple (barDs ps)]
noncomputable def barDs : List T → List PyData
  | [] => []
  | t :: r => barD t :: barDs r
end
mutual
noncomputable def shpD : T → PyData
  | .node h ps => .tuple [.int h.kind, .tuple (h.nums.map .int), h.labD, h.c3D, .tuple (shpDs ps)]
noncomputable def shpDs : List T → List PyData
  | [] => []
  | t :: r => shpD t :: shpDs r
end
theorem toPys_ints : ∀ l : List Int, toPy.toPys (l.map PV.int) = some (l.map PyData.int)
  | [] => rfl
  | a :: r => by rw [List.map_cons, toPy.toPys, toPys_ints r]; rfl
theorem toPy_c3 (h : Hd) : toPy h.c3 = some h.c3D := by cases h <;> rfl
theorem toPy_labv (h : Hd) : toPy h.labv = some h.labD := by cases h <;> rfl
mutual
theorem toPy_bar : ∀ t : T, toPy (bar t) = some (barD t)
  | .node h ps => by
    rw [bar, barD, toPy]
    simp [toPy.toPys, toPy, toPy_c3, toPys_bar ps]
theorem toPys_bar : ∀ ts : List T, toPy.toPys (bars ts) = some (barDs ts)
  | [] => rfl
  | t :: r => by rw [bars, barDs, toPy.toPys, toPy_bar t, toPys_bar r]
end
mutual
theorem toPy_shp : ∀ t : T, toPy (shp t) = some (shpD t)
  | .node h ps => by
    rw [shp, shpD, toPy]
    simp [toPy.toPys, toPy, toPy_c3, toPy_labv, toPys_shp ps, toPys_ints]
theorem toPys_shp : ∀ ts : List T, toPy.toPys (shps ts) = some (shpDs ts)
  | [] => rfl
  | t :: r => by rw [shps, shpDs, toPy.toPys, toPy_shp t, toPys_shp r]
end
theorem lay_c3 (h : Hd) : PyData.canLay0 h.c3D = true := by cases h <;> rfl
theorem lay_labD (h : Hd) : PyData.canLay0 h.labD = true := by cases h <;> rfl
theorem dep_c3 (h : Hd) : PyData.depth h.c3D = 0 := by cases h <;> rfl
theorem dep_labD (h : Hd) : PyData.depth h.labD = 0 := by cases h <;> rfl
theorem lay_ints : ∀ l : List Int, PyData.canLayAll0 (l.map PyData.int) = true
  | [] => rfl
  | a :: r => by rw [List.map_cons, PyData.canLayAll0, lay_ints r]; rfl
theorem dep_ints : ∀ l : List Int, PyData.depthAll (l.map PyData.int) = 0
  | [] => rfl
  | a :: r => by rw [List.map_cons, PyData.depthAll, dep_ints r]; rfl
mutual
theorem lay_bar : ∀ t : T, PyData.canLay0 (barD t) = true
  | .node h ps => by
    rw [barD]
    simp [PyData.canLay0, PyData.canLayAll0, lay_c3, lays_bar ps]
theorem lays_bar : ∀ ts : List T, PyData.canLayAll0 (barDs ts) = true
  | [] => rfl
  | t :: r => by rw [barDs, PyData.canLayAll0, lay_bar t, lays_bar r]; rfl
end
mutual
theorem lay_shp : ∀ t : T, PyData.canLay0 (shpD t) = true
  | .node h ps => by
    rw [shpD]
    simp [PyData.canLay0, PyData.canLayAll0, lay_c3, lay_labD, lays_shp ps, lay_ints]
theorem lays_shp : ∀ ts : List T, PyData.canLayAll0 (shpDs ts) = true
  | [] => rfl
  | t :: r => by rw [shpDs, PyData.canLayAll0, lay_shp t, lays_shp r]; rfl
end
mutual
theorem dep_bar : ∀ t : T, PyData.depth (barD t) ≤ 2 * t.sz
  | .node h ps => by
    have := deps_bar ps
    rw [barD, T.sz]
    simp only [PyData.depth, PyData.depthAll, dep_c3]
    (first | lia | omega)
theorem deps_bar : ∀ ts : List T, PyData.depthAll (barDs ts) ≤ 2 * szs ts
  | [] => Nat.zero_le _
  | t :: r => by
    have := dep_bar t
    have := deps_bar r
    rw [barDs, PyData.depthAll, szs]
    (first | lia | omega)
end
mutual
theorem dep_shp : ∀ t : T, PyData.depth (shpD t) ≤ 2 * t.sz
  | .node h ps => by
    have := deps_shp ps
    rw [shpD, T.sz]
    simp only [PyData.depth, PyData.depthAll, dep_c3, dep_labD, dep_ints]
    (first | lia | omega)
theorem deps_shp : ∀ ts : List T, PyData.depthAll (shpDs ts) ≤ 2 * szs ts
  | [] => Nat.zero_le _
  | t :: r => by
    have := dep_shp t
    have := deps_shp r
    rw [shpDs, PyData.depthAll, szs]
    (first | lia | omega)
end
theorem shaped_bar {t : T} (h : t.sz ≤ 30) : PySem.SeqAt.shaped (barD t) = true := by
  unfold PySem.SeqAt.shaped
  rw [lay_bar, Bool.true_and, decide_eq_true_eq]
  have := dep_bar t
  (first | lia | omega)
theorem shaped_shp {t : T} (h : t.sz ≤ 30) : PySem.SeqAt.shaped (shpD t) = true := by
  unfold PySem.SeqAt.shaped
  rw [lay_shp, Bool.true_and, decide_eq_true_eq]
  have := dep_shp t
  (first | lia | omega)
mutual
theorem eqv_refl : ∀ d : PyData, PyData.canLay0 d = true → PyData.eqv d d = true
  | .none, _ => rfl
  | .bool b, _ => by simp [PyData.eqv]
  | .int b, _ => by simp [PyData.eqv]
  | .str b, _ => by simp [PyData.eqv]
  | .list xs, h => by rw [PyData.eqv]; exact eqvAll_refl xs (by rw [PyData.canLay0] at h; exact h)
  | .tuple xs, h => by rw [PyData.eqv]; exact eqvAll_refl xs (by rw [PyData.canLay0] at h; exact h)
  | .dict xs, h => by rw [PyData.canLay0] at h; cases h
theorem eqvAll_refl : ∀ d : List PyData, PyData.canLayAll0 d = true → PyData.eqvAll d d = true
  | [], _ => rfl
  | x :: r, h => by
    rw [PyData.canLayAll0, Bool.and_eq_true] at h
    rw [PyData.eqvAll, eqv_refl x h.1, eqvAll_refl r h.2]; rfl
end
theorem eqv_c3 {h g : Hd} (e : h.kind = g.kind) : PyData.eqv h.c3D g.c3D = true ↔ h.c3D = g.c3D := by
  cases h <;> cases g <;> first | (exfalso; revert e; simp [Hd.kind]; done) | simp [Hd.c3D, PyData.eqv]
mutual
theorem eqv_bar : ∀ t u : T, PyData.eqv (barD t) (barD u) = true ↔ barD t = barD u
  | .node h ps, .node g qs => by
    have := eqvs_bar ps qs
    rw [barD, barD]
    simp only [PyData.eqv, PyData.eqvAll, Bool.and_eq_true, beq_iff_eq, this, PyData.tuple.injEq, List.cons.injEq, PyData.int.injEq, PyData.bool.injEq, and_true]
    constructor
    · rintro ⟨a, b, c, e, f⟩
      exact ⟨a, b, c, (eqv_c3 a).mp e, f⟩
    · rintro ⟨a, b, c, e, f⟩
      exact ⟨a, b, c, (eqv_c3 a).mpr e, f⟩
theorem eqvs_bar : ∀ ts us : List T, PyData.eqvAll (barDs ts) (barDs us) = true ↔ barDs ts = barDs us
  | [], [] => by simp [barDs, PyData.eqvAll]
  | [], u :: r => by simp [barDs, PyData.eqvAll]
  | t :: r, [] => by simp [barDs, PyData.eqvAll]
  | t :: r, u :: q => by
    have h1 := eqv_bar t u
    have h2 := eqvs_bar r q
    simp only [barDs, PyData.eqvAll, Bool.and_eq_true, h1, h2, List.cons.injEq]
end
theorem lab_len_isEmpty {h g : Hd} (e : h.lab.isEmpty = g.lab.isEmpty) : h.lab.length = g.lab.length := by
  cases h <;> cases g <;> first | rfl | (revert e; simp [Hd.lab]; done)
mutual
theorem bar_len : ∀ t u : T, barD t = barD u → (nums t).length = (nums u).length ∧ (labs t).length = (labs u).length
  | .node h ps, .node g qs, e => by
    rw [barD, barD] at e
    simp only [PyData.tuple.injEq, List.cons.injEq, PyData.int.injEq, PyData.bool.injEq, and_true] at e
    obtain ⟨a, b, c, e, f⟩ := e
    have := bars_len ps qs f
    have h3 := lab_len_isEmpty c
    rw [nums, nums, labs, labs, List.length_append, List.length_append, List.length_append, List.length_append]
    (first | lia | omega)
theorem bars_len : ∀ t u : List T, barDs t = barDs u → (numss t).length = (numss u).length ∧ (labss t).length = (labss u).length
  | [], [], _ => ⟨rfl, rfl⟩
  | [], u :: r, e => by simp [barDs] at e
  | t :: r, [], e => by simp [barDs] at e
  | t :: r, u :: q, e => by
    simp only [barDs, List.cons.injEq] at e
    have h1 := bar_len t u e.1
    have h2 := bars_len r q e.2
    rw [numss, numss, labss, labss, List.length_append, List.length_append, List.length_append, List.length_append]
    (first | lia | omega)
end

/-- equal but for one-to-one renamings -/
noncomputable def Alike (t u : T) : Prop := barD t = barD u ∧ Pairing (nums t) (nums u) ∧ Pairing (labs t) (labs u)

section
variable {P : Nat → CP} {σ σ₁ : Sig} {d : Nat} {k : XV → Sig → Prop}

theorem datP_i {a b : PV} {da db : PyData} {k : Bool → Prop} (ha : toPy a = some da) (hb : toPy b = some db) (sa : PySem.SeqAt.shaped da = true) (sb : PySem.SeqAt.shaped db = true) (h : k (PyData.eqv da db)) : datP a b k := ⟨da, db, ⟨⟨ha, hb⟩, sa, sb⟩, h⟩
theorem cmp_ne {x y : PV} {k : Bool → Prop} (h : eqP x y fun t => k (!t)) : cmpP .ne (.p x) (.p y) σ k := h
theorem eqP_bar {t u : T} {k : Bool → Prop} (ht : t.sz ≤ 30) (hu : u.sz ≤ 30) (h : k (PyData.eqv (barD t) (barD u))) : eqP (bar t) (bar u) k := by
  have := datP_i (toPy_bar t) (toPy_bar u) (shaped_bar ht) (shaped_bar hu) h
  obtain ⟨h, ps⟩ := t
  obtain ⟨g, qs⟩ := u
  rw [bar, bar] at *
  exact this
theorem c_same (C : Calls P) {t u : T} (ht : t.wf) (hu : u.wf) (hzt : t.sz ≤ 30) (hzu : u.sz ≤ 30) (hd : 40 ≤ d) (h : ∀ r : Bool, (r = true ↔ Alike t u) → k (.p (.bool r)) σ) : P d 10 [.p (shp t), .p (shp u)] σ k := by
  obtain ⟨d, rfl⟩ : ∃ e, d = e + 1 := ⟨d - 1, by (first | lia | omega)⟩
  have hlim : lim = 1048576 := rfl
  refine C.by' (fi := f10) rfl rfl ?_
  refine c_bare C _ (Nat.le_refl _) ht (by first | exact dn hd rfl | exact dt hd rfl | exact dc hd rfl | exact dc0 hd rfl | exact dcn hd rfl | exact ds hd rfl | exact ds0 hd | exact dn hdd rfl | exact dt hdd rfl | (first | lia | omega)) (by first | exact dn hd rfl | exact dt hd rfl | exact dc hd rfl | exact dc0 hd rfl | exact dcn hd rfl | exact ds hd rfl | exact ds0 hd | exact dn hdd rfl | exact dt hdd rfl | (first | lia | omega)) ?_
  refine c_bare C _ (Nat.le_refl _) hu (by first | exact dn hd rfl | exact dt hd rfl | exact dc hd rfl | exact dc0 hd rfl | exact dcn hd rfl | exact ds hd rfl | exact ds0 hd | exact dn hdd rfl | exact dt hdd rfl | (first | lia | omega)) (by first | exact dn hd rfl | exact dt hd rfl | exact dc hd rfl | exact dc0 hd rfl | exact dcn hd rfl | exact ds hd rfl | exact ds0 hd | exact dn hdd rfl | exact dt hdd rfl | (first | lia | omega)) ?_
  refine cmp_ne (eqP_bar hzt hzu ?_)
  refine br_intro (fun q => ?_) (fun q => ?_)
  · conv => whnf
    refine h _ ?_
    have q' : ¬ barD t = barD u := fun e => by
      rw [(eqv_bar t u).mpr e] at q; cases q
    simp [Alike, q']
  · have q' : barD t = barD u := (eqv_bar t u).mp (by simpa using q)
    have hlen := bar_len t u q'
    have l1 := nums_len _ (Nat.le_refl _) ht
    have l2 := labs_len _ (Nat.le_refl t.sz)
    refine c_numbers C _ (Nat.le_refl _) ht (by first | exact dn hd rfl | exact dt hd rfl | exact dc hd rfl | exact dc0 hd rfl | exact dcn hd rfl | exact ds hd rfl | exact ds0 hd | exact dn hdd rfl | exact dt hdd rfl | (first | lia | omega)) (by first | exact dn hd rfl | exact dt hd rfl | exact dc hd rfl | exact dc0 hd rfl | exact dcn hd rfl | exact ds hd rfl | exact ds0 hd | exact dn hdd rfl | exact dt hdd rfl | (first | lia | omega)) ?_
    refine c_numbers C _ (Nat.le_refl _) hu (by first | exact dn hd rfl | exact dt hd rfl | exact dc hd rfl | exact dc0 hd rfl | exact dcn hd rfl | exact ds hd rfl | exact ds0 hd | exact dn hdd rfl | exact dt hdd rfl | (first | lia | omega)) (by first | exact dn hd rfl | exact dt hd rfl | exact dc hd rfl | exact dc0 hd rfl | exact dcn hd rfl | exact ds hd rfl | exact ds0 hd | exact dn hdd rfl | exact dt hdd rfl | (first | lia | omega)) ?_
    refine And.intro (by decide) ?_
    refine And.intro (by decide) ?_
    refine c_pairing C hlen.1 (by first | exact dn hd rfl | exact dt hd rfl | exact dc hd rfl | exact dc0 hd rfl | exact dcn hd rfl | exact ds hd rfl | exact ds0 hd | exact dn hdd rfl | exact dt hdd rfl | (first | lia | omega)) (by first | exact dn hd rfl | exact dt hd rfl | exact dc hd rfl | exact dc0 hd rfl | exact dcn hd rfl | exact ds hd rfl | exact ds0 hd | exact dn hdd rfl | exact dt hdd rfl | (first | lia | omega)) fun r hr => ?_
    refine br_intro (fun e => ?_) (fun e => ?_)
    · refine And.intro (by decide) ?_
      refine And.intro (by decide) ?_
      refine c_pairing C hlen.2 (by first | exact dn hd rfl | exact dt hd rfl | exact dc hd rfl | exact dc0 hd rfl | exact dcn hd rfl | exact ds hd rfl | exact ds0 hd | exact dn hdd rfl | exact dt hdd rfl | (first | lia | omega)) (by first | exact dn hd rfl | exact dt hd rfl | exact dc hd rfl | exact dc0 hd rfl | exact dcn hd rfl | exact ds hd rfl | exact ds0 hd | exact dn hdd rfl | exact dt hdd rfl | (first | lia | omega)) fun r' hr' => ?_
      refine h _ ?_
      rw [hr']
      exact ⟨fun z => ⟨q', hr.mp e, z⟩, fun z => z.2.2⟩
    · refine h _ ?_
      have : ¬ Pairing (nums t) (nums u) := fun z => by rw [hr.mpr z] at e; cases e
      simp [Alike, this]
end
end Mine
end
section
open PySem PySem.W PyProof.Rows Builtin Builtin.ObjectAttr
set_option Elab.async false
set_option maxRecDepth 100000
namespace Mine

section
variable {P : Nat → CP} {σ σ₁ : Sig} {d : Nat} {k : XV → Sig → Prop}

theorem c_bound (C : Calls P) : ∀ (n : Nat) {t : T} {d : Nat} {k : XV → Sig → Prop}, t.sz ≤ n → t.wf → t.sz ≤ 1000 → t.sz + 2 ≤ d → k (.p (iv (bnds t))) σ → P d 11 [.p (enc t)] σ k
  | 0, t, _, _, hn, _, _, _, _ => absurd hn (by have := t.sz_pos; (first | lia | omega))
  | n + 1, .node hd ps, d, k, hn, ht, hz, hdd, h => by
    obtain ⟨d, rfl⟩ : ∃ e, d = e + 1 := ⟨d - 1, by (first | lia | omega)⟩
    have ht0 := ht
    have hz0 := hz
    rw [T.wf] at ht
    rw [T.sz] at hn hz hdd
    have hl := len_szs ps
    have hlim : lim = 1048576 := rfl
    have loop : ∀ (qs : List T) (a : List PV) (x0 x2 : Option XV) (K : Fl → Locs → Sig → Prop), (∀ t ∈ qs, t ∈ ps) → a.length + 9 * szs qs ≤ 10000 →
        (∀ y2, K .next [x0, some (.p (.lst (a ++ (bndss qs).map .int))), y2] σ) →
        forP 2 (fun L σ' k => vcSs (P d) σ.length (loopAt 2 b11) L σ' k) (encs qs) [x0, some (.p (.lst a)), x2] σ K := by
      intro qs
      induction qs with
      | nil =>
        intro a x0 x2 K _ _ hK
        have := hK x2
        simp only [bndss, List.map_nil, List.append_nil] at this
        exact this
      | cons t r ih =>
        intro a x0 x2 K hm ha hK
        have ht' := wfs_mem ht.2 t (hm t (.head _))
        have hs := mem_szs (hm t (.head _))
        rw [szs] at ha
        have l1 := bnds_len _ (Nat.le_refl _) ht'
        refine c_bound C n (by first | exact dn hd rfl | exact dt hd rfl | exact dc hd rfl | exact dc0 hd rfl | exact dcn hd rfl | exact ds hd rfl | exact ds0 hd | exact dn hdd rfl | exact dt hdd rfl | (first | lia | omega)) ht' (by first | exact dn hd rfl | exact dt hd rfl | exact dc hd rfl | exact dc0 hd rfl | exact dcn hd rfl | exact ds hd rfl | exact ds0 hd | exact dn hdd rfl | exact dt hdd rfl | (first | lia | omega)) (by first | exact dn hd rfl | exact dt hd rfl | exact dc hd rfl | exact dc0 hd rfl | exact dcn hd rfl | exact ds hd rfl | exact ds0 hd | exact dn hdd rfl | exact dt hdd rfl | (first | lia | omega)) ?_
        refine And.intro (by rw [List.length_map]; (first | lia | omega)) ?_
        refine ih (a ++ (bnds t).map .int) x0 _ K (fun x hx => hm x (.tail _ hx)) (by rw [List.length_append, List.length_map]; (first | lia | omega)) fun y2 => ?_
        have := hK y2
        rw [bndss, List.map_append, ← List.append_assoc] at this
        exact this
    have q1 := Hd.bs_len ht.1
    have e1 : (hd.bs.map PV.int).length ≤ lim := by rw [List.length_map]; (first | lia | omega)
    have e2 : (encs ps).length ≤ lim := by rw [encs_len]; (first | lia | omega)
    have fin : ∀ a : List PV, a = hd.bs.map .int → forP 2 (fun L σ' k => vcSs (P d) σ.length (loopAt 2 b11) L σ' k) (encs ps) [some (.p (enc (.node hd ps))), some (.p (.lst a)), none] σ
        (fun f L₁ σ₁ => match f with
          | .next => vcSs (P d) σ.length (.cons (.ret (.var 1)) .nil) L₁ σ₁ (retK k)
          | .ret v => retK k (.ret v) L₁ σ₁) := by
      rintro a rfl
      refine loop ps _ _ _ _ (fun _ h => h) (by rw [List.length_map]; (first | lia | omega)) fun y2 => ?_
      simp only [bnds, iv, List.map_append] at h
      exact h
    refine C.by' (fi := f11) rfl rfl ?_
    cases hd with
    | lam l xs r =>
      have hns : (xs.map PV.int).length ≤ 8 := by have := ht.1.2.2.1; rw [List.length_map]; (first | lia | omega)
      conv => whnf
      refine ⟨Nat.le_trans hns (by decide), br_intro (fun hr => ?_) (fun hr => ?_)⟩
      · conv => whnf
        refine ⟨Nat.le_trans (Nat.add_le_add_right hns 1) (by decide), c_parts C ht0 hz0 (by first | exact dn hd rfl | exact dt hd rfl | exact dc hd rfl | exact dc0 hd rfl | exact dcn hd rfl | exact ds hd rfl | exact ds0 hd | exact dn hdd rfl | exact dt hdd rfl | (first | lia | omega)) ?_⟩
        conv => whnf
        refine ⟨e2, fin _ ?_⟩
        rw [Hd.bs, if_pos (of_decide_eq_true hr), List.map_append]; rfl
      · conv => whnf
        refine ⟨Nat.le_trans hns (by decide), c_parts C ht0 hz0 (by first | exact dn hd rfl | exact dt hd rfl | exact dc hd rfl | exact dc0 hd rfl | exact dcn hd rfl | exact ds hd rfl | exact ds0 hd | exact dn hdd rfl | exact dt hdd rfl | (first | lia | omega)) ?_⟩
        conv => whnf
        refine ⟨e2, fin _ ?_⟩
        rw [Hd.bs, if_neg (of_decide_eq_false hr), List.map_append]; rfl
    | fix ns =>
      conv => whnf
      refine ⟨e1, c_parts C ht0 hz0 (by first | exact dn hd rfl | exact dt hd rfl | exact dc hd rfl | exact dc0 hd rfl | exact dcn hd rfl | exact ds hd rfl | exact ds0 hd | exact dn hdd rfl | exact dt hdd rfl | (first | lia | omega)) ?_⟩
      exact ⟨e2, fin _ rfl⟩
    | _ =>
      refine c_parts C ht0 hz0 (by first | exact dn hd rfl | exact dt hd rfl | exact dc hd rfl | exact dc0 hd rfl | exact dcn hd rfl | exact ds hd rfl | exact ds0 hd | exact dn hdd rfl | exact dt hdd rfl | (first | lia | omega)) ?_
      exact ⟨e2, fin _ rfl⟩

theorem c_binders_of (C : Calls P) {t : T} (ht : t.wf) (hd : 2 ≤ d) (h : k (.p (iv t.hd.bs)) σ) : P d 14 [.p (enc t)] σ k := by
  obtain ⟨d, rfl⟩ : ∃ e, d = e + 1 := ⟨d - 1, by (first | lia | omega)⟩
  obtain ⟨hd, ps⟩ := t
  rw [T.wf] at ht
  refine C.by' (fi := f14) rfl rfl ?_
  cases hd with
  | lam l xs r =>
    exact c_binders C ht.1.2.2.1 (by first | exact dn hd rfl | exact dt hd rfl | exact dc hd rfl | exact dc0 hd rfl | exact dcn hd rfl | exact ds hd rfl | exact ds0 hd | exact dn hdd rfl | exact dt hdd rfl | (first | lia | omega)) h
  | _ =>
    exact h

theorem enc_obj (t : T) : ∃ c fs, enc t = .obj c fs := by
  obtain ⟨hd, ps⟩ := t
  cases hd <;> exact ⟨_, _, rfl⟩
theorem isP_enc {t u : T} {k : Bool → Prop} (h : ∀ r : Bool, (r = true → enc t = enc u) → k r) : isP (enc t) (enc u) k := by
  obtain ⟨c, fs, e1⟩ := enc_obj t
  obtain ⟨c', fs', e2⟩ := enc_obj u
  rw [e1, e2] at h ⊢
  exact h
theorem cmp_isnot {x y : PV} {k : Bool → Prop} (h : isP x y fun t => k (!t)) : cmpP .isnot (.p x) (.p y) σ k := h

theorem c_samelist (C : Calls P) {ps qs : List T} (hpq : ps.length = qs.length) (hz : ps.length ≤ 1000) (hd : 1 ≤ d) (h : ∀ r : Bool, (r = true → encs ps = encs qs) → (ps = [] → r = true) → k (.p (.bool r)) σ) :
    P d 15 [.p (.lst (encs ps)), .p (.lst (encs qs))] σ k := by
  obtain ⟨d, rfl⟩ : ∃ e, d = e + 1 := ⟨d - 1, by (first | lia | omega)⟩
  have hlim : lim = 1048576 := rfl
  have get : ∀ {l : List T} {i : Nat} {v : T}, l[i]? = some v → idx (encs l) (i : Int) = some (enc v) := fun {l i v} e => by
    rw [idx_n, encs_map, List.getElem?_map, e]; rfl
  have loop : ∀ (m s : Nat) (x0 x1 x2 : Option XV) (K : Fl → Locs → Sig → Prop), x0 = some (.p (.lst (encs ps))) → x1 = some (.p (.lst (encs qs))) → s + m = ps.length → (encs ps).take s = (encs qs).take s →
      (encs ps = encs qs → ∀ y2, K .next [x0, x1, y2] σ) →
      (∀ L, ps ≠ [] → K (.ret (.p (.bool false))) L σ) →
      forP 2 (fun L σ' k => vcSs (P d) σ.length (loopAt 1 b15) L σ' k) ((List.range' s m).map fun (j : Nat) => PV.int (j : Int)) [x0, x1, x2] σ K := by
    intro m
    induction m with
    | zero =>
      rintro s x0 x1 x2 K rfl rfl hs hj h1 h2
      rw [List.take_of_length_le (by rw [encs_len]; (first | lia | omega)), List.take_of_length_le (by rw [encs_len]; (first | lia | omega))] at hj
      exact h1 hj x2
    | succ m ih =>
      rintro s x0 x1 x2 K rfl rfl hs hj h1 h2
      rw [List.range'_succ]
      have g1 : ps[s]? = some (ps[s]'(by first | exact dn hd rfl | exact dt hd rfl | exact dc hd rfl | exact dc0 hd rfl | exact dcn hd rfl | exact ds hd rfl | exact ds0 hd | exact dn hdd rfl | exact dt hdd rfl | (first | lia | omega))) := List.getElem?_eq_getElem _
      have g2 : qs[s]? = some (qs[s]'(by first | exact dn hd rfl | exact dt hd rfl | exact dc hd rfl | exact dc0 hd rfl | exact dcn hd rfl | exact ds hd rfl | exact ds0 hd | exact dn hdd rfl | exact dt hdd rfl | (first | lia | omega))) := List.getElem?_eq_getElem _
      have hne : ps ≠ [] := by rintro rfl; simp at hs
      conv => whnf
      refine ⟨by show s ≤ lim; (first | lia | omega), someP_i (get g1) ?_⟩
      conv => whnf
      refine ⟨by show s ≤ lim; (first | lia | omega), someP_i (get g2) ?_⟩
      refine cmp_isnot (isP_enc fun r hr => ?_)
      refine br_intro (fun ht => ?_) (fun ht => ?_)
      · exact h2 _ hne
      · have e : enc (ps[s]'(by first | exact dn hd rfl | exact dt hd rfl | exact dc hd rfl | exact dc0 hd rfl | exact dcn hd rfl | exact ds hd rfl | exact ds0 hd | exact dn hdd rfl | exact dt hdd rfl | (first | lia | omega))) = enc (qs[s]'(by first | exact dn hd rfl | exact dt hd rfl | exact dc hd rfl | exact dc0 hd rfl | exact dcn hd rfl | exact ds hd rfl | exact ds0 hd | exact dn hdd rfl | exact dt hdd rfl | (first | lia | omega))) := hr (by simpa using ht)
        refine ih (s + 1) _ _ _ K rfl rfl (by first | exact dn hd rfl | exact dt hd rfl | exact dc hd rfl | exact dc0 hd rfl | exact dcn hd rfl | exact ds hd rfl | exact ds0 hd | exact dn hdd rfl | exact dt hdd rfl | (first | lia | omega)) ?_ h1 h2
        rw [List.take_succ, List.take_succ, hj]
        have i1 := get g1
        have i2 := get g2
        rw [idx_n] at i1 i2
        rw [i1, i2, e]
  refine C.by' (fi := f15) rfl rfl ?_
  have e1 := encs_len ps
  have e2 := encs_len qs
  refine And.intro (by rw [e1]; (first | lia | omega)) ?_
  refine And.intro (by rw [e2]; (first | lia | omega)) ?_
  refine br_intro (fun q => ?_) (fun q => ?_)
  · rw [e1, e2, hpq] at q
    simp at q
  · refine And.intro (by rw [e1]; (first | lia | omega)) ?_
    refine And.intro (by rw [e1, hlim]; (first | lia | omega)) ?_
    refine And.intro (⟨.inl rfl, by decide, by show (encs ps).length ≤ lim; (first | lia | omega)⟩) ?_
    rw [e1, rangeL_up]
    refine ⟨by rw [List.length_map, List.length_range']; (first | lia | omega), ?_⟩
    refine loop ps.length 0 _ _ _ _ rfl rfl (by first | exact dn hd rfl | exact dt hd rfl | exact dc hd rfl | exact dc0 hd rfl | exact dcn hd rfl | exact ds hd rfl | exact ds0 hd | exact dn hdd rfl | exact dt hdd rfl | (first | lia | omega)) rfl (fun e y2 => ?_) (fun L hn => ?_)
    · exact h true (fun _ => e) fun _ => rfl
    · exact h false (fun e => by cases e) fun e => absurd e hn
end
end Mine
end
section
open PySem PySem.W PyProof.Rows Builtin Builtin.ObjectAttr
set_option Elab.async false
set_option maxRecDepth 100000
namespace Mine

noncomputable def fw : List (Int × Int) → Int → Option PV
  | [] => fun _ => none
  | p :: r => fun z => if z = p.1 then some (.int p.2) else fw r z
noncomputable def bw : List (Int × Int) → Int → Option PV
  | [] => fun _ => none
  | p :: r => fun z => if z = p.2 then some (.int p.1) else bw r z
/-- one-to-one -/
noncomputable def Inj (ps : List (Int × Int)) : Prop := ∀ p ∈ ps, ∀ q ∈ ps, p.1 = q.1 ↔ p.2 = q.2
theorem fw_mem : ∀ {ps : List (Int × Int)} {x : Int} {v : PV}, fw ps x = some v → ∃ y, v = .int y ∧ (x, y) ∈ ps
  | [], _, _, h => by cases h
  | p :: r, x, v, h => by
    rw [fw] at h
    dsimp only at h
    split at h
    · rename_i e
      cases h
      exact ⟨p.2, rfl, by rw [e]; exact .head _⟩
    · obtain ⟨y, a, b⟩ := fw_mem h
      exact ⟨y, a, .tail _ b⟩
theorem bw_mem : ∀ {ps : List (Int × Int)} {y : Int} {v : PV}, bw ps y = some v → ∃ x, v = .int x ∧ (x, y) ∈ ps
  | [], _, _, h => by cases h
  | p :: r, x, v, h => by
    rw [bw] at h
    dsimp only at h
    split at h
    · rename_i e
      cases h
      exact ⟨p.1, rfl, by rw [e]; exact .head _⟩
    · obtain ⟨y, a, b⟩ := bw_mem h
      exact ⟨y, a, .tail _ b⟩
theorem fw_none : ∀ {ps : List (Int × Int)} {x : Int}, fw ps x = none → ∀ p ∈ ps, p.1 ≠ x
  | [], _, _, p, hp => by cases hp
  | q :: r, x, h, p, hp => by
    rw [fw] at h
    dsimp only at h
    split at h
    · cases h
    · rename_i e
      rcases List.mem_cons.mp hp with rfl | hp
      · exact fun z => e z.symm
      · exact fw_none h p hp
theorem bw_none : ∀ {ps : List (Int × Int)} {x : Int}, bw ps x = none → ∀ p ∈ ps, p.2 ≠ x
  | [], _, _, p, hp => by cases hp
  | q :: r, x, h, p, hp => by
    rw [bw] at h
    dsimp only at h
    split at h
    · cases h
    · rename_i e
      rcases List.mem_cons.mp hp with rfl | hp
      · exact fun z => e z.symm
      · exact bw_none h p hp

section
variable {P : Nat → CP} {σ σ₁ : Sig} {d : Nat} {k : XV → Sig → Prop}

/-- a Likeness and its pairs so far -/
structure Lik (σ : Sig) (i f g : Nat) (ps : List (Int × Int)) : Prop where
  inst : σ[i]? = some (.inst 14 [.c f, .c g])
  fwd : σ[f]? = some (.dict (fw ps) ps.length)
  bwd : σ[g]? = some (.dict (bw ps) ps.length)
  ne : f ≠ g
noncomputable def likSet (σ : Sig) (f g : Nat) (ps : List (Int × Int)) : Sig := (σ.set f (.dict (fw ps) ps.length)).set g (.dict (bw ps) ps.length)

theorem likSet_self {i f g : Nat} {ps : List (Int × Int)} (L : Lik σ i f g ps) : likSet σ f g ps = σ := by
  unfold likSet
  have hf := List.getElem?_eq_some_iff.mp L.fwd
  have hg := List.getElem?_eq_some_iff.mp L.bwd
  have e1 : σ.set f (.dict (fw ps) ps.length) = σ := by
    conv => lhs; rw [← hf.2]
    exact List.set_getElem_self hf.1
  rw [e1]
  conv => lhs; rw [← hg.2]
  exact List.set_getElem_self hg.1
theorem Lik.put {i f g : Nat} {ps : List (Int × Int)} (L : Lik σ i f g ps) (qs : List (Int × Int)) : Lik (likSet σ f g qs) i f g qs := by
  unfold likSet
  have hf := List.getElem?_eq_some_iff.mp L.fwd
  have hg := List.getElem?_eq_some_iff.mp L.bwd
  have n1 : f ≠ i := by rintro rfl; have := L.inst; rw [L.fwd] at this; cases this
  have n2 : g ≠ i := by rintro rfl; have := L.inst; rw [L.bwd] at this; cases this
  refine ⟨by rw [List.getElem?_set_ne n2, List.getElem?_set_ne n1]; exact L.inst, ?_, ?_, L.ne⟩
  · rw [List.getElem?_set_ne (Ne.symm L.ne)]; exact List.getElem?_set_self hf.1
  · exact List.getElem?_set_self (by rw [List.length_set]; exact hg.1)
theorem likSet_put {f g : Nat} (hne : f ≠ g) (ps qs : List (Int × Int)) : likSet (likSet σ f g ps) f g qs = likSet σ f g qs := by
  unfold likSet
  rw [List.set_comm _ _ (Ne.symm hne), List.set_set, List.set_set]
/-- what goes answers, and the pairs after it -/
theorem c_goes (C : Calls P) {i f g : Nat} {ps : List (Int × Int)} {x y : Int} (L : Lik σ i f g ps) (hI : Inj ps) (hx : 0 ≤ x) (hy : 0 ≤ y) (hl : ps.length ≤ 100000) (hd : 1 ≤ d)
    (h1 : Inj ((x, y) :: ps) → ∀ qs, (∀ p, p ∈ qs ↔ p ∈ (x, y) :: ps) → qs.length ≤ ps.length + 1 → k (.p (.bool true)) (likSet σ f g qs))
    (h2 : ¬ Inj ((x, y) :: ps) → k (.p (.bool false)) σ) : P d 54 [.c i, .p (.int x), .p (.int y)] σ k := by
  obtain ⟨d, rfl⟩ : ∃ e, d = e + 1 := ⟨d - 1, by (first | lia | omega)⟩
  have hlim : lim = 1048576 := rfl
  have L' := L
  obtain ⟨e1, e2, e3, e4⟩ := L
  refine C.by' (fi := f54) rfl rfl ?_
  cases q1 : fw ps x with
  | some v =>
    obtain ⟨b, rfl, m1⟩ := fw_mem q1
    conv => whnf
    repeat ((first | rw [e1] | rw [e2] | rw [q1]); conv => whnf)
    refine br_intro (fun z => ?_) (fun z => ?_)
    · have z := of_decide_eq_true z
      subst z
      have hI' : Inj ((x, b) :: ps) := fun p hp q hq => by
        have : ∀ r, r ∈ (x, b) :: ps → r ∈ ps := fun r hr => by
          rcases List.mem_cons.mp hr with rfl | hr
          · exact m1
          · exact hr
        exact hI p (this p hp) q (this q hq)
      have q2 : bw ps b = some (.int x) := by
        cases q2 : bw ps b with
        | none => exact absurd rfl (bw_none q2 _ m1)
        | some v =>
          obtain ⟨a, rfl, m2⟩ := bw_mem q2
          have := (hI _ m1 _ m2).mpr rfl
          dsimp only at this
          rw [this]
      conv => whnf
      repeat ((first | rw [e1] | rw [e3] | rw [q2]); conv => whnf)
      have := h1 hI' ps (fun p => ⟨fun h => .tail _ h, fun h => by
        rcases List.mem_cons.mp h with rfl | h
        · exact m1
        · exact h⟩) (Nat.le_succ _)
      rw [likSet_self L'] at this
      rw [decide_eq_true rfl]
      exact this
    · have z := of_decide_eq_false z
      exact h2 fun hI' => z ((hI' _ (.tail _ m1) _ (.head _)).mp rfl)
  | none =>
    cases q2 : bw ps y with
    | some v =>
      obtain ⟨b, rfl, m1⟩ := bw_mem q2
      conv => whnf
      repeat ((first | rw [e1] | rw [e2] | rw [e3] | rw [q1] | rw [q2]); conv => whnf)
      refine br_intro (fun z => ?_) (fun z => ?_)
      · have z := of_decide_eq_true z
        (first | lia | omega)
      · refine h2 fun hI' => fw_none q1 _ m1 ?_
        exact (hI' _ (.tail _ m1) _ (.head _)).mpr rfl
    | none =>
      conv => whnf
      repeat ((first | rw [e1] | rw [e2] | rw [e3] | rw [q1] | rw [q2]); conv => whnf)
      refine ⟨by (first | lia | omega), ?_⟩
      have n1 : f ≠ i := by rintro rfl; rw [e2] at e1; cases e1
      conv => whnf
      rw [List.getElem?_set_ne n1, e1]; conv => whnf
      rw [List.getElem?_set_ne e4, e3]; conv => whnf
      refine ⟨by (first | lia | omega), ?_⟩
      refine h1 (fun p hp q hq => ?_) ((x, y) :: ps) (fun _ => Iff.rfl) (Nat.le_refl _)
      rcases List.mem_cons.mp hp with rfl | hp
      · rcases List.mem_cons.mp hq with rfl | hq
        · simp
        · exact ⟨fun e => absurd e.symm (fw_none q1 _ hq), fun e => absurd e.symm (bw_none q2 _ hq)⟩
      · rcases List.mem_cons.mp hq with rfl | hq
        · exact ⟨fun e => absurd e (fw_none q1 _ hp), fun e => absurd e (bw_none q2 _ hp)⟩
        · exact hI _ hp _ hq
end
end Mine
end
section
open PySem PySem.W PyProof.Rows Builtin Builtin.ObjectAttr
set_option Elab.async false
set_option maxRecDepth 100000
namespace Mine

theorem Inj.congr {ps qs : List (Int × Int)} (h : ∀ p, p ∈ qs ↔ p ∈ ps) (hI : Inj ps) : Inj qs := fun p hp q hq => hI p ((h p).mp hp) q ((h q).mp hq)
theorem Inj.sub {ps qs : List (Int × Int)} (h : ∀ p, p ∈ qs → p ∈ ps) (hI : Inj ps) : Inj qs := fun p hp q hq => hI p (h p hp) q (h q hq)

section
variable {P : Nat → CP} {σ σ₁ : Sig} {d : Nat} {k : XV → Sig → Prop}

theorem c_all_go (C : Calls P) {i f g : Nat} {ps : List (Int × Int)} {xs ys : List Int} (L : Lik σ i f g ps) (hI : Inj ps) (hx : ∀ x ∈ xs, 0 ≤ x) (hy : ∀ y ∈ ys, 0 ≤ y) (hl : ps.length + xs.length ≤ 100000) (hly : ys.length ≤ 100000) (hd : 2 ≤ d)
    (h1 : xs.length = ys.length → Inj (xs.zip ys ++ ps) → ∀ qs, (∀ p, p ∈ qs ↔ p ∈ xs.zip ys ++ ps) → qs.length ≤ ps.length + xs.length → k (.p (.bool true)) (likSet σ f g qs))
    (h2 : ¬ (xs.length = ys.length ∧ Inj (xs.zip ys ++ ps)) → ∀ qs, k (.p (.bool false)) (likSet σ f g qs)) : P d 55 [.c i, .p (iv xs), .p (iv ys)] σ k := by
  obtain ⟨d, rfl⟩ : ∃ e, d = e + 1 := ⟨d - 1, by (first | lia | omega)⟩
  have hlim : lim = 1048576 := rfl
  have get : ∀ {l : List Int} {i : Nat} {v : Int}, l[i]? = some v → idx (l.map PV.int) (i : Int) = some (.int v) := fun {l i v} e => by
    rw [idx_n, List.getElem?_map, e]; rfl
  refine C.by' (fi := f55) rfl rfl ?_
  have e1 : (xs.map PV.int).length = xs.length := List.length_map _
  have e2 : (ys.map PV.int).length = ys.length := List.length_map _
  refine And.intro (by rw [e1]; (first | lia | omega)) ?_
  refine And.intro (by rw [e2]; (first | lia | omega)) ?_
  refine br_intro (fun q => ?_) (fun q => ?_)
  · conv => whnf
    rw [e1, e2] at q
    have q : ¬ xs.length = ys.length := by
      intro e; rw [e] at q; simp at q
    have := h2 (fun h => q h.1) ps
    rwa [likSet_self L] at this
  · have hxy : xs.length = ys.length := by
      rw [e1, e2] at q
      have q' : (xs.length : Int) = ys.length := by simpa using q
      (first | lia | omega)
    have loop : ∀ (m s : Nat) (qs : List (Int × Int)) (x0 x1 x2 x3 : Option XV) (K : Fl → Locs → Sig → Prop), x0 = some (.c i) → x1 = some (.p (iv xs)) → x2 = some (.p (iv ys)) → s + m = xs.length →
        (∀ p, p ∈ qs ↔ p ∈ (xs.zip ys).take s ++ ps) → Inj qs → qs.length ≤ ps.length + s →
        (Inj (xs.zip ys ++ ps) → ∀ qs, (∀ p, p ∈ qs ↔ p ∈ xs.zip ys ++ ps) → qs.length ≤ ps.length + xs.length → ∀ y3, K .next [x0, x1, x2, y3] (likSet σ f g qs)) →
        (¬ Inj (xs.zip ys ++ ps) → ∀ qs L, K (.ret (.p (.bool false))) L (likSet σ f g qs)) →
        forP 3 (fun L σ' k => vcSs (P d) σ.length (loopAt 1 b55) L σ' k) ((List.range' s m).map fun (j : Nat) => PV.int (j : Int)) [x0, x1, x2, x3] (likSet σ f g qs) K := by
      intro m
      induction m with
      | zero =>
        rintro s qs x0 x1 x2 x3 K rfl rfl rfl hs hq hI hn g1 g2
        rw [List.take_of_length_le (by rw [List.length_zip]; (first | lia | omega))] at hq
        exact g1 (Inj.congr (fun p => (hq p).symm) hI) qs hq (by first | exact dn hd rfl | exact dt hd rfl | exact dc hd rfl | exact dc0 hd rfl | exact dcn hd rfl | exact ds hd rfl | exact ds0 hd | exact dn hdd rfl | exact dt hdd rfl | (first | lia | omega)) x3
      | succ m ih =>
        rintro s qs x0 x1 x2 x3 K rfl rfl rfl hs hq hI hn g1 g2
        rw [List.range'_succ]
        have a1 : xs[s]? = some (xs[s]'(by first | exact dn hd rfl | exact dt hd rfl | exact dc hd rfl | exact dc0 hd rfl | exact dcn hd rfl | exact ds hd rfl | exact ds0 hd | exact dn hdd rfl | exact dt hdd rfl | (first | lia | omega))) := List.getElem?_eq_getElem _
        have a2 : ys[s]? = some (ys[s]'(by first | exact dn hd rfl | exact dt hd rfl | exact dc hd rfl | exact dc0 hd rfl | exact dcn hd rfl | exact ds hd rfl | exact ds0 hd | exact dn hdd rfl | exact dt hdd rfl | (first | lia | omega))) := List.getElem?_eq_getElem _
        have LL := L.put qs
        conv => whnf
        rw [LL.inst]
        conv => whnf
        refine ⟨by show s ≤ lim; (first | lia | omega), someP_i (get a1) ?_⟩
        conv => whnf
        refine ⟨by show s ≤ lim; (first | lia | omega), someP_i (get a2) ?_⟩
        have hz : (xs.zip ys)[s]? = some (xs[s]'(by first | exact dn hd rfl | exact dt hd rfl | exact dc hd rfl | exact dc0 hd rfl | exact dcn hd rfl | exact ds hd rfl | exact ds0 hd | exact dn hdd rfl | exact dt hdd rfl | (first | lia | omega)), ys[s]'(by first | exact dn hd rfl | exact dt hd rfl | exact dc hd rfl | exact dc0 hd rfl | exact dcn hd rfl | exact ds hd rfl | exact ds0 hd | exact dn hdd rfl | exact dt hdd rfl | (first | lia | omega))) := by
          rw [List.getElem?_eq_getElem (by rw [List.length_zip]; (first | lia | omega)), List.getElem_zip]
        have hmem : ∀ p, p ∈ (xs[s]'(by first | exact dn hd rfl | exact dt hd rfl | exact dc hd rfl | exact dc0 hd rfl | exact dcn hd rfl | exact ds hd rfl | exact ds0 hd | exact dn hdd rfl | exact dt hdd rfl | (first | lia | omega)), ys[s]'(by first | exact dn hd rfl | exact dt hd rfl | exact dc hd rfl | exact dc0 hd rfl | exact dcn hd rfl | exact ds hd rfl | exact ds0 hd | exact dn hdd rfl | exact dt hdd rfl | (first | lia | omega))) :: qs ↔ p ∈ (xs.zip ys).take (s + 1) ++ ps := fun p => by
          rw [List.take_add_one, hz, List.mem_cons, hq]
          simp only [List.mem_append, Option.toList_some, List.mem_singleton]
          constructor
          · rintro (h | h | h)
            · exact .inl (.inr h)
            · exact .inl (.inl h)
            · exact .inr h
          · rintro ((h | h) | h)
            · exact .inr (.inl h)
            · exact .inl h
            · exact .inr (.inr h)
        refine c_goes C LL hI (hx _ (List.getElem_mem _)) (hy _ (List.getElem_mem _)) (by first | exact dn hd rfl | exact dt hd rfl | exact dc hd rfl | exact dc0 hd rfl | exact dcn hd rfl | exact ds hd rfl | exact ds0 hd | exact dn hdd rfl | exact dt hdd rfl | (first | lia | omega)) (by first | exact dn hd rfl | exact dt hd rfl | exact dc hd rfl | exact dc0 hd rfl | exact dcn hd rfl | exact ds hd rfl | exact ds0 hd | exact dn hdd rfl | exact dt hdd rfl | (first | lia | omega)) (fun hI' rs hr hrl => ?_) (fun hI' => ?_)
        · conv => whnf
          rw [likSet_put L.ne]
          exact ih (s + 1) rs _ _ _ _ K rfl rfl rfl (by first | exact dn hd rfl | exact dt hd rfl | exact dc hd rfl | exact dc0 hd rfl | exact dcn hd rfl | exact ds hd rfl | exact ds0 hd | exact dn hdd rfl | exact dt hdd rfl | (first | lia | omega)) (fun p => (hr p).trans (hmem p)) (Inj.congr hr hI') (by first | exact dn hd rfl | exact dt hd rfl | exact dc hd rfl | exact dc0 hd rfl | exact dcn hd rfl | exact ds hd rfl | exact ds0 hd | exact dn hdd rfl | exact dt hdd rfl | (first | lia | omega)) g1 g2
        · conv => whnf
          refine g2 (fun hI2 => hI' (Inj.congr hmem (Inj.sub (fun p hp => ?_) hI2))) qs _
          rcases List.mem_append.mp hp with hp | hp
          · exact List.mem_append_left _ (List.mem_of_mem_take hp)
          · exact List.mem_append_right _ hp
    refine And.intro (by rw [e1]; (first | lia | omega)) ?_
    refine And.intro (by rw [e1, hlim]; (first | lia | omega)) ?_
    refine And.intro (⟨.inl rfl, by decide, by show (xs.map PV.int).length ≤ lim; (first | lia | omega)⟩) ?_
    rw [e1, rangeL_up]
    refine ⟨by rw [List.length_map, List.length_range']; (first | lia | omega), ?_⟩
    have := loop xs.length 0 ps (some (.c i)) (some (.p (iv xs))) (some (.p (iv ys))) none
    rw [likSet_self L] at this
    refine this _ rfl rfl rfl (by first | exact dn hd rfl | exact dt hd rfl | exact dc hd rfl | exact dc0 hd rfl | exact dcn hd rfl | exact ds hd rfl | exact ds0 hd | exact dn hdd rfl | exact dt hdd rfl | (first | lia | omega)) (fun p => Iff.rfl) hI (Nat.le_refl _) (fun hI' qs hq hn y3 => ?_) (fun hI' qs L => ?_)
    · exact h1 hxy hI' qs hq hn
    · exact h2 (fun h => hI' h.2) qs
/-- a new Likeness -/
theorem c_likeness (C : Calls P) {n : Nat} (hn : n = σ.length) (hd : 1 ≤ d) (h : k (.p .none) (σ ++ [.inst 14 [.c (n + 1), .c (n + 2)], .dict (fw []) 0, .dict (bw []) 0])) : P d 53 [.c n] (σ ++ [.inst 14 []]) k := by
  obtain ⟨d, rfl⟩ : ∃ e, d = e + 1 := ⟨d - 1, by (first | lia | omega)⟩
  subst hn
  refine C.by' (fi := f53) rfl rfl ?_
  conv => whnf
  rw [show ((σ ++ [Cell.inst 14 []]) ++ [Cell.dict (fun _ => none) 0])[σ.length]? = some (.inst 14 []) by simp]
  refine And.intro (by decide) ?_
  conv => whnf
  rw [show ∀ (v : XV), ((σ ++ [Cell.inst 14 []] ++ [Cell.dict (fun _ => none) 0]).set σ.length (.inst 14 (if 0 < ([] : List XV).length then [].set 0 v else [] ++ [v]))) ++ [Cell.dict (fun _ => none) 0] = σ ++ [.inst 14 [v], .dict (fun _ => none) 0, .dict (fun _ => none) 0] from fun v => by simp]
  rw [show ∀ a b, (σ ++ [Cell.inst 14 a, .dict (fun _ => none) 0, b])[σ.length]? = some (.inst 14 a) from fun a b => by simp]
  refine And.intro (Nat.le_of_ble_eq_true rfl) ?_
  conv => whnf
  have e : ∀ a, (σ ++ [Cell.inst 14 a, .dict (fun _ => none) 0, .dict (fun _ => none) 0]).set σ.length (.inst 14 [.c (σ.length + 1), .c (σ.length + 2)]) = σ ++ [.inst 14 [.c (σ.length + 1), .c (σ.length + 2)], .dict (fw []) 0, .dict (bw []) 0] := fun a => by simp [fw, bw]
  rw [← e [.c (σ.length + 1)]] at h
  simp at h ⊢
  exact h

/-! ## numbers as data -/
theorem c_kind_word (C : Calls P) {v : Int} (hd : 1 ≤ d) (h : k (.p (.str (Str.ofString "number"))) σ) : P d 19 [.p (.int v)] σ k := by
  obtain ⟨d, rfl⟩ : ∃ e, d = e + 1 := ⟨d - 1, by (first | lia | omega)⟩
  refine C.by' (fi := f19) rfl rfl ?_
  exact h
theorem c_inexact (C : Calls P) {v : Int} (hd : 1 ≤ d) (h : k (.p (.bool false)) σ) : P d 20 [.p (.int v)] σ k := by
  obtain ⟨d, rfl⟩ : ∃ e, d = e + 1 := ⟨d - 1, by (first | lia | omega)⟩
  refine C.by' (fi := f20) rfl rfl ?_
  exact h
theorem c_top (C : Calls P) {v : Int} (hd : 1 ≤ d) (h : k (.p (.int v)) σ) : P d 23 [.p (.int v)] σ k := by
  obtain ⟨d, rfl⟩ : ∃ e, d = e + 1 := ⟨d - 1, by (first | lia | omega)⟩
  refine C.by' (fi := f23) rfl rfl ?_
  exact h
theorem c_bottom (C : Calls P) {v : Int} (hd : 1 ≤ d) (h : k (.p (.int 1)) σ) : P d 24 [.p (.int v)] σ k := by
  obtain ⟨d, rfl⟩ : ∃ e, d = e + 1 := ⟨d - 1, by (first | lia | omega)⟩
  refine C.by' (fi := f24) rfl rfl ?_
  exact h
theorem c_exact (C : Calls P) {v u : Int} (hd : 2 ≤ d) (h : k (.p (.bool (decide (v = u)))) σ) : P d 22 [.p (.int v), .p (.int u)] σ k := by
  obtain ⟨d, rfl⟩ : ∃ e, d = e + 1 := ⟨d - 1, by (first | lia | omega)⟩
  refine C.by' (fi := f22) rfl rfl ?_
  refine c_top C (by first | exact dn hd rfl | exact dt hd rfl | exact dc hd rfl | exact dc0 hd rfl | exact dcn hd rfl | exact ds hd rfl | exact ds0 hd | exact dn hdd rfl | exact dt hdd rfl | (first | lia | omega)) ?_
  refine c_top C (by first | exact dn hd rfl | exact dt hd rfl | exact dc hd rfl | exact dc0 hd rfl | exact dcn hd rfl | exact ds hd rfl | exact ds0 hd | exact dn hdd rfl | exact dt hdd rfl | (first | lia | omega)) ?_
  refine br_intro (fun q => ?_) (fun q => ?_)
  · rw [q] at h
    refine c_bottom C (by first | exact dn hd rfl | exact dt hd rfl | exact dc hd rfl | exact dc0 hd rfl | exact dcn hd rfl | exact ds hd rfl | exact ds0 hd | exact dn hdd rfl | exact dt hdd rfl | (first | lia | omega)) ?_
    refine c_bottom C (by first | exact dn hd rfl | exact dt hd rfl | exact dc hd rfl | exact dc0 hd rfl | exact dcn hd rfl | exact ds hd rfl | exact ds0 hd | exact dn hdd rfl | exact dt hdd rfl | (first | lia | omega)) ?_
    exact h
  · rw [q] at h
    exact h
theorem c_number (C : Calls P) {v u : Int} (hd : 3 ≤ d) (h : k (.p (.bool (decide (v = u)))) σ) : P d 21 [.p (.int v), .p (.int u)] σ k := by
  obtain ⟨d, rfl⟩ : ∃ e, d = e + 1 := ⟨d - 1, by (first | lia | omega)⟩
  refine C.by' (fi := f21) rfl rfl ?_
  refine c_inexact C (by first | exact dn hd rfl | exact dt hd rfl | exact dc hd rfl | exact dc0 hd rfl | exact dcn hd rfl | exact ds hd rfl | exact ds0 hd | exact dn hdd rfl | exact dt hdd rfl | (first | lia | omega)) ?_
  refine c_inexact C (by first | exact dn hd rfl | exact dt hd rfl | exact dc hd rfl | exact dc0 hd rfl | exact dcn hd rfl | exact ds hd rfl | exact ds0 hd | exact dn hdd rfl | exact dt hdd rfl | (first | lia | omega)) ?_
  exact c_exact C (by first | exact dn hd rfl | exact dt hd rfl | exact dc hd rfl | exact dc0 hd rfl | exact dcn hd rfl | exact ds hd rfl | exact ds0 hd | exact dn hdd rfl | exact dt hdd rfl | (first | lia | omega)) h
theorem c_atoms (C : Calls P) {v u : Int} (hd : 4 ≤ d) (h : k (.p (.bool (decide (v = u)))) σ) : P d 25 [.p (.int v), .p (.int u), .p (.str (Str.ofString "number"))] σ k := by
  obtain ⟨d, rfl⟩ : ∃ e, d = e + 1 := ⟨d - 1, by (first | lia | omega)⟩
  refine C.by' (fi := f25) rfl rfl ?_
  exact c_number C (by first | exact dn hd rfl | exact dt hd rfl | exact dc hd rfl | exact dc0 hd rfl | exact dcn hd rfl | exact ds hd rfl | exact ds0 hd | exact dn hdd rfl | exact dt hdd rfl | (first | lia | omega)) h
theorem c_datum (C : Calls P) {v u : Int} (hd : 5 ≤ d) (h : k (.p (.bool (decide (v = u)))) σ) : P d 26 [.p (.int v), .p (.int u)] σ k := by
  obtain ⟨d, rfl⟩ : ∃ e, d = e + 1 := ⟨d - 1, by (first | lia | omega)⟩
  refine C.drop ?_
  have fin : ∀ b : Bool, b = decide (v = u) → Letgo σ k (.p (.bool b)) (σ ++ [Cell.list []]) := by
    rintro b rfl
    exact ⟨σ, [.list []], rfl, rfl, fun _ _ _ e => .inl e, .inl ⟨trivial, h⟩⟩
  refine C.by' (fi := f26) rfl rfl ?_
  conv => whnf
  refine ⟨2, ?_⟩
  conv => whnf
  have g0 : (σ ++ [Cell.list [PV.tup [PV.int v, PV.int u]]])[σ.length]? = some (.list [PV.tup [PV.int v, PV.int u]]) := by simp
  have g1 : (σ ++ [Cell.list [PV.tup [PV.int v, PV.int u]]]).set σ.length (.list []) = σ ++ [.list []] := by simp
  rw [g0]
  refine And.intro (Nat.le_of_ble_eq_true rfl) ?_
  conv => whnf
  rw [g0]
  conv => whnf
  refine ⟨Nat.le_of_ble_eq_true rfl, [], _, rfl, ?_⟩
  refine c_kind_word C (by first | exact dn hd rfl | exact dt hd rfl | exact dc hd rfl | exact dc0 hd rfl | exact dcn hd rfl | exact ds hd rfl | exact ds0 hd | exact dn hdd rfl | exact dt hdd rfl | (first | lia | omega)) ?_
  refine c_kind_word C (by first | exact dn hd rfl | exact dt hd rfl | exact dc hd rfl | exact dc0 hd rfl | exact dcn hd rfl | exact ds hd rfl | exact ds0 hd | exact dn hdd rfl | exact dt hdd rfl | (first | lia | omega)) ?_
  refine c_atoms C (by first | exact dn hd rfl | exact dt hd rfl | exact dc hd rfl | exact dc0 hd rfl | exact dcn hd rfl | exact ds hd rfl | exact ds0 hd | exact dn hdd rfl | exact dt hdd rfl | (first | lia | omega)) ?_
  rw [g1]
  refine br_intro (fun q => ?_) (fun q => ?_)
  · exact fin _ (by simpa using q)
  · conv => whnf
    rw [show (σ ++ [Cell.list []])[σ.length]? = some (.list []) by simp]
    refine And.intro (Nat.le_of_ble_eq_true rfl) ?_
    exact fin _ (by simpa using q)
end
end Mine
end
section
open PySem PySem.W PyProof.Rows Builtin Builtin.ObjectAttr
set_option Elab.async false
set_option maxRecDepth 100000
namespace Mine

section
variable {P : Nat → CP} {σ σ₁ : Sig} {d : Nat} {k : XV → Sig → Prop}

structure Lik2 (σ : Sig) (i1 f1 g1 : Nat) (ps : List (Int × Int)) (i2 f2 g2 : Nat) (qs : List (Int × Int)) : Prop where
  l1 : Lik σ i1 f1 g1 ps
  l2 : Lik σ i2 f2 g2 qs
  ff : f1 ≠ f2
  fg : f1 ≠ g2
  gf : g1 ≠ f2
  gg : g1 ≠ g2
theorem Lik.far {i f g f2 g2 : Nat} {ps qs : List (Int × Int)} (L : Lik σ i f g ps) (a : i ≠ f2) (b : i ≠ g2) (c : f ≠ f2) (e : f ≠ g2) (x : g ≠ f2) (y : g ≠ g2) : Lik (likSet σ f2 g2 qs) i f g ps := by
  unfold likSet
  refine ⟨?_, ?_, ?_, L.ne⟩
  · rw [List.getElem?_set_ne (Ne.symm b), List.getElem?_set_ne (Ne.symm a)]; exact L.inst
  · rw [List.getElem?_set_ne (Ne.symm e), List.getElem?_set_ne (Ne.symm c)]; exact L.fwd
  · rw [List.getElem?_set_ne (Ne.symm y), List.getElem?_set_ne (Ne.symm x)]; exact L.bwd
noncomputable def lk2 (σ : Sig) (f1 g1 : Nat) (ps : List (Int × Int)) (f2 g2 : Nat) (qs : List (Int × Int)) : Sig := likSet (likSet σ f1 g1 ps) f2 g2 qs
variable {i1 f1 g1 i2 f2 g2 : Nat} {ps qs : List (Int × Int)}
theorem Lik2.i1f (D : Lik2 σ i1 f1 g1 ps i2 f2 g2 qs) : i1 ≠ f2 ∧ i1 ≠ g2 ∧ i2 ≠ f1 ∧ i2 ≠ g1 := by
  refine ⟨?_, ?_, ?_, ?_⟩
  · rintro rfl; have := D.l1.inst; rw [D.l2.fwd] at this; cases this
  · rintro rfl; have := D.l1.inst; rw [D.l2.bwd] at this; cases this
  · rintro rfl; have := D.l2.inst; rw [D.l1.fwd] at this; cases this
  · rintro rfl; have := D.l2.inst; rw [D.l1.bwd] at this; cases this
theorem Lik2.put (D : Lik2 σ i1 f1 g1 ps i2 f2 g2 qs) (ps' qs' : List (Int × Int)) : Lik2 (lk2 σ f1 g1 ps' f2 g2 qs') i1 f1 g1 ps' i2 f2 g2 qs' := by
  obtain ⟨a, b, c, e⟩ := D.i1f
  exact ⟨(D.l1.put ps').far a b D.ff D.fg D.gf D.gg, (D.l2.far (qs := ps') c e (Ne.symm D.ff) (Ne.symm D.gf) (Ne.symm D.fg) (Ne.symm D.gg)).put qs', D.ff, D.fg, D.gf, D.gg⟩
theorem lk2_left (D : Lik2 σ i1 f1 g1 ps i2 f2 g2 qs) (ps' : List (Int × Int)) : likSet σ f1 g1 ps' = lk2 σ f1 g1 ps' f2 g2 qs := by
  obtain ⟨a, b, c, e⟩ := D.i1f
  exact (likSet_self (D.l2.far (qs := ps') c e (Ne.symm D.ff) (Ne.symm D.gf) (Ne.symm D.fg) (Ne.symm D.gg))).symm
theorem lk2_right (D : Lik2 σ i1 f1 g1 ps i2 f2 g2 qs) (qs' : List (Int × Int)) : likSet σ f2 g2 qs' = lk2 σ f1 g1 ps f2 g2 qs' := by
  unfold lk2; rw [likSet_self D.l1]
theorem lk2_self (D : Lik2 σ i1 f1 g1 ps i2 f2 g2 qs) : lk2 σ f1 g1 ps f2 g2 qs = σ := by rw [← lk2_left D, likSet_self D.l1]
theorem likSet_comm (D : Lik2 σ i1 f1 g1 ps i2 f2 g2 qs) (ps' qs' : List (Int × Int)) : likSet (likSet σ f2 g2 qs') f1 g1 ps' = lk2 σ f1 g1 ps' f2 g2 qs' := by
  unfold lk2 likSet
  rw [List.set_comm _ _ (Ne.symm D.fg), List.set_comm _ _ (Ne.symm D.ff), List.set_comm (i := g2) (j := g1) _ _ (Ne.symm D.gg), List.set_comm (i := f2) (j := g1) _ _ (Ne.symm D.gf)]
theorem lk2_put (D : Lik2 σ i1 f1 g1 ps i2 f2 g2 qs) (ps' qs' ps'' qs'' : List (Int × Int)) : lk2 (lk2 σ f1 g1 ps' f2 g2 qs') f1 g1 ps'' f2 g2 qs'' = lk2 σ f1 g1 ps'' f2 g2 qs'' := by
  rw [← likSet_comm D ps' qs', lk2, likSet_put D.l1.ne, likSet_comm D, lk2, likSet_put D.l2.ne]; rfl
inductive SK : Hd → Hd → Prop
  | const (v v' : Int) : SK (.const v) (.const v')
  | loc (v v' : Int) : SK (.loc v) (.loc v')
  | glob (v v' : Int) : SK (.glob v) (.glob v')
  | setl (v v' : Int) : SK (.setl v) (.setl v')
  | setg (v v' : Int) : SK (.setg v) (.setg v')
  | prim (v v' : Int) : SK (.prim v) (.prim v')
  | ite : SK .ite .ite
  | call : SK .call .call
  | seq : SK .seq .seq
  | fix (v v' : List Int) : SK (.fix v) (.fix v')
  | lam (l : Int) (xs : List Int) (r l' : Int) (xs' : List Int) (r' : Int) : SK (.lam l xs r) (.lam l' xs' r')
theorem ik {a b : Int} (e : a = b) {M : Prop} (h : (a == b) = false) : M := absurd e (beq_eq_false_iff_ne.mp h)
theorem Hd.sk {h g : Hd} (e : h.kind = g.kind) : SK h g := by
  cases h <;> cases g <;> first | constructor | exact ik e rfl

/-- what is handed on of two heads -/
structure HK (k : XV → Sig → Prop) (σ : Sig) (i1 f1 g1 : Nat) (ps : List (Int × Int)) (i2 f2 g2 : Nat) (qs : List (Int × Int)) (h g : Hd) : Prop where
  D : Lik2 σ i1 f1 g1 ps i2 f2 g2 qs
  hI : Inj ps
  hJ : Inj qs
  h1 : h.c3D = g.c3D → h.nums.length = g.nums.length → Inj (h.nums.zip g.nums ++ ps) → Inj (h.lab.zip g.lab ++ qs) → ∀ ps' qs', (∀ p, p ∈ ps' ↔ p ∈ h.nums.zip g.nums ++ ps) → (∀ p, p ∈ qs' ↔ p ∈ h.lab.zip g.lab ++ qs) →
    ps'.length ≤ ps.length + 9 → qs'.length ≤ qs.length + 1 → k (.p (.bool true)) (lk2 σ f1 g1 ps' f2 g2 qs')
  h2 : ¬ (h.c3D = g.c3D ∧ h.nums.length = g.nums.length ∧ Inj (h.nums.zip g.nums ++ ps) ∧ Inj (h.lab.zip g.lab ++ qs)) → ∀ ps' qs', k (.p (.bool false)) (lk2 σ f1 g1 ps' f2 g2 qs')
section
variable {h g : Hd}
/-- nothing is noted -/
theorem HK.no (H : HK k σ i1 f1 g1 ps i2 f2 g2 qs h g) (hn : ¬ (h.c3D = g.c3D ∧ h.nums.length = g.nums.length ∧ Inj (h.nums.zip g.nums ++ ps) ∧ Inj (h.lab.zip g.lab ++ qs))) : k (.p (.bool false)) σ := by
  have := H.h2 hn ps qs
  rwa [lk2_self H.D] at this
theorem HK.still (H : HK k σ i1 f1 g1 ps i2 f2 g2 qs h g) (e1 : h.nums = []) (e2 : g.nums = []) (e3 : h.lab = []) (r : Bool) (hr : r = true ↔ h.c3D = g.c3D) : k (.p (.bool r)) σ := by
  cases r with
  | true =>
    have := H.h1 (hr.mp rfl) (by rw [e1, e2]) (by rw [e1]; exact H.hI) (by rw [e3]; exact H.hJ) ps qs (fun p => by rw [e1]; rfl) (fun p => by rw [e3]; rfl) (Nat.le_add_right _ _) (Nat.le_add_right _ _)
    rwa [lk2_self H.D] at this
  | false => exact H.no fun z => by cases hr.mpr z.1
/-- one number -/
theorem HK.goes (C : Calls P) (H : HK k σ i1 f1 g1 ps i2 f2 g2 qs h g) (hd : 7 ≤ d) (hl : ps.length ≤ 90000) {x y : Int} (hx : 0 ≤ x) (hy : 0 ≤ y) (e0 : h.c3D = g.c3D) (e1 : h.nums = [x]) (e2 : g.nums = [y]) (e3 : h.lab = []) :
    P d 54 [.c i1, .p (.int x), .p (.int y)] σ k := by
  have h1 := H.h1
  have h2 := H.h2
  rw [e1, e2, e3] at h1 h2
  refine c_goes C H.D.l1 H.hI hx hy (Nat.le_trans hl (by decide)) (Nat.le_trans (by decide) hd) (fun hI' rs hr hn => ?_) (fun hI' => ?_)
  · rw [lk2_left H.D]
    exact h1 e0 rfl hI' H.hJ rs qs hr (fun p => Iff.rfl) (Nat.le_trans hn (Nat.add_le_add_left (by decide) _)) (Nat.le_add_right _ _)
  · have := h2 (fun z => hI' z.2.2.1) ps qs
    rwa [lk2_self H.D] at this
end

theorem nn_bs {l r : Int} {xs : List Int} (hx : ∀ x ∈ xs, 0 ≤ x) : ∀ x ∈ (Hd.lam l xs r).bs, 0 ≤ x := by
  intro x hm
  rw [Hd.bs] at hm
  rcases List.mem_append.mp hm with hm | hm
  · exact hx x hm
  · split at hm
    · rename_i q; rw [List.mem_singleton.mp hm]; exact q
    · cases hm
theorem lam_c3 {l r l' r' : Int} {xs xs' : List Int} (z : (Hd.lam l xs r).c3D = (Hd.lam l' xs' r').c3D) : (decide (r < 0) == decide (r' < 0)) = true := by
  simp only [Hd.c3D, PyData.bool.injEq, decide_eq_decide] at z
  rw [beq_iff_eq, decide_eq_decide]; omega
theorem c3_lam (l : Int) {r : Int} (xs : List Int) (l' : Int) {r' : Int} (xs' : List Int) (q : (!(decide (r < 0) == decide (r' < 0))) = false) : (Hd.lam l xs r).c3D = (Hd.lam l' xs' r').c3D := by
  have q : (decide (r < 0) == decide (r' < 0)) = true := by simpa using q
  rw [beq_iff_eq, decide_eq_decide] at q
  simp only [Hd.c3D, PyData.bool.injEq, decide_eq_decide]; omega
theorem c_heads' (C : Calls P) {h g : Hd} {as bs : List T} (ht : (T.node h as).wf) (hu : (T.node g bs).wf) (hk : SK h g) (H : HK k σ i1 f1 g1 ps i2 f2 g2 qs h g) (hl : ps.length ≤ 90000) (hm : qs.length ≤ 90000) (hd : 7 ≤ d) :
    P (d + 1) 27 [.p (enc (.node h as)), .p (enc (.node g bs)), .c i1, .c i2] σ k := by
  rw [T.wf] at ht hu
  refine C.by' (fi := f27) rfl rfl ?_
  cases hk with
  | const v v' => exact c_datum C (Nat.le_trans (by decide) hd) (H.still rfl rfl rfl _ (by simp [Hd.c3D]))
  | loc v v' =>
    conv => whnf
    rw [H.D.l1.inst]
    exact H.goes C hd hl ht.1.2 hu.1.2 rfl rfl rfl rfl
  | setl v v' =>
    conv => whnf
    rw [H.D.l1.inst]
    exact H.goes C hd hl ht.1.2 hu.1.2 rfl rfl rfl rfl
  | glob v v' => exact H.still rfl rfl rfl _ (by simp [Hd.c3D])
  | setg v v' => exact H.still rfl rfl rfl _ (by simp [Hd.c3D])
  | prim v v' => exact H.still rfl rfl rfl _ (by simp [Hd.c3D])
  | ite => exact H.still rfl rfl rfl true (by simp [Hd.c3D])
  | call => exact H.still rfl rfl rfl true (by simp [Hd.c3D])
  | seq => exact H.still rfl rfl rfl true (by simp [Hd.c3D])
  | fix ns ms =>
    have b1 : ns.length ≤ 8 := ht.1.2.1
    have b2 : ms.length ≤ 8 := hu.1.2.1
    conv => whnf
    rw [H.D.l1.inst]
    refine c_all_go C H.D.l1 H.hI ht.1.2.2 hu.1.2.2 (Nat.le_trans (Nat.add_le_add hl b1) (by decide)) (Nat.le_trans b2 (by decide)) (Nat.le_trans (by decide) hd) (fun e hI' rs hr hn => ?_) (fun hI' rs => ?_)
    · conv => whnf
      rw [lk2_left H.D]
      exact H.h1 rfl e hI' H.hJ rs qs hr (fun p => Iff.rfl) (Nat.le_trans hn (Nat.add_le_add_left (Nat.le_succ_of_le b1) _)) (Nat.le_add_right _ _)
    · conv => whnf
      rw [lk2_left H.D]
      exact H.h2 (fun z => hI' ⟨z.2.1, z.2.2.1⟩) rs qs
  | lam l xs r l' xs' r' =>
    have D := H.D
    have n1 : (Hd.lam l xs r).nums.length ≤ 9 := Hd.nums_len ht.1
    have n2 : (Hd.lam l' xs' r').nums.length ≤ 9 := Hd.nums_len hu.1
    refine br_intro (fun q => ?_) (fun q => ?_)
    · refine H.no fun z => ?_
      rw [lam_c3 z.1] at q; cases q
    · have hr := c3_lam l xs l' xs' q
      conv => whnf
      rw [D.l2.inst]
      refine c_goes C D.l2 H.hJ ht.1.2.1 hu.1.2.1 (Nat.le_trans hm (by decide)) (Nat.le_trans (by decide) hd) (fun hJ' rs hrs hn => ?_) (fun hJ' => H.no fun z => hJ' z.2.2.2)
      conv => whnf
      have D' := D.put ps rs
      rw [lk2_right D]
      rw [D'.l1.inst]
      refine c_binders C ht.1.2.2.1 (Nat.le_trans (by decide) hd) ?_
      refine c_binders C hu.1.2.2.1 (Nat.le_trans (by decide) hd) ?_
      refine c_all_go C D'.l1 H.hI (nn_bs ht.1.2.2.2) (nn_bs hu.1.2.2.2) (Nat.le_trans (Nat.add_le_add hl n1) (by decide)) (Nat.le_trans n2 (by decide)) (Nat.le_trans (by decide) hd) (fun e hI' ts hts hn' => ?_) (fun hI' ts => ?_)
      · conv => whnf
        rw [lk2_left D', lk2_put D]
        exact H.h1 hr e hI' hJ' ts rs hts hrs (Nat.le_trans hn' (Nat.add_le_add_left n1 _)) hn
      · conv => whnf
        rw [lk2_left D', lk2_put D]
        exact H.h2 (fun z => hI' ⟨z.2.1, z.2.2.1⟩) ts rs
theorem c_heads (C : Calls P) {h g : Hd} {as bs : List T} (ht : (T.node h as).wf) (hu : (T.node g bs).wf) (hk : h.kind = g.kind) (D : Lik2 σ i1 f1 g1 ps i2 f2 g2 qs) (hI : Inj ps) (hJ : Inj qs) (hl : ps.length ≤ 90000) (hm : qs.length ≤ 90000) (hd : 8 ≤ d)
    (h1 : h.c3D = g.c3D → h.nums.length = g.nums.length → Inj (h.nums.zip g.nums ++ ps) → Inj (h.lab.zip g.lab ++ qs) → ∀ ps' qs', (∀ p, p ∈ ps' ↔ p ∈ h.nums.zip g.nums ++ ps) → (∀ p, p ∈ qs' ↔ p ∈ h.lab.zip g.lab ++ qs) → ps'.length ≤ ps.length + 9 → qs'.length ≤ qs.length + 1 → k (.p (.bool true)) (lk2 σ f1 g1 ps' f2 g2 qs'))
    (h2 : ¬ (h.c3D = g.c3D ∧ h.nums.length = g.nums.length ∧ Inj (h.nums.zip g.nums ++ ps) ∧ Inj (h.lab.zip g.lab ++ qs)) → ∀ ps' qs', k (.p (.bool false)) (lk2 σ f1 g1 ps' f2 g2 qs')) :
    P d 27 [.p (enc (.node h as)), .p (enc (.node g bs)), .c i1, .c i2] σ k := by
  obtain ⟨e, rfl⟩ : ∃ e, d = e + 1 := ⟨d - 1, (Nat.sub_add_cancel (Nat.le_trans (by decide) hd)).symm⟩
  exact c_heads' C ht hu (Hd.sk hk) ⟨D, hI, hJ, h1, h2⟩ hl hm (Nat.le_of_succ_le_succ hd)
end
end Mine
end
section
open PySem PySem.W PyProof.Rows Builtin Builtin.ObjectAttr
set_option Elab.async false
set_option maxRecDepth 100000
namespace Mine

noncomputable def zn : List (T × T) → List (Int × Int)
  | [] => []
  | p :: r => (nums p.1).zip (nums p.2) ++ zn r
noncomputable def zl : List (T × T) → List (Int × Int)
  | [] => []
  | p :: r => (labs p.1).zip (labs p.2) ++ zl r
theorem zn_append : ∀ (a b : List (T × T)), zn (a ++ b) = zn a ++ zn b
  | [], _ => rfl
  | p :: r, b => by rw [List.cons_append, zn, zn, zn_append r b, List.append_assoc]
theorem zl_append : ∀ (a b : List (T × T)), zl (a ++ b) = zl a ++ zl b
  | [], _ => rfl
  | p :: r, b => by rw [List.cons_append, zl, zl, zl_append r b, List.append_assoc]
theorem zn_zip : ∀ (as bs : List T), barDs as = barDs bs → zn (as.zip bs) = (numss as).zip (numss bs)
  | [], [], _ => rfl
  | [], b :: q, e => by simp [barDs] at e
  | a :: r, [], e => by simp [barDs] at e
  | a :: r, b :: q, e => by
    simp only [barDs, List.cons.injEq] at e
    rw [List.zip_cons_cons, zn, zn_zip r q e.2, numss, numss, List.zip_append (bar_len a b e.1).1]
theorem zl_zip : ∀ (as bs : List T), barDs as = barDs bs → zl (as.zip bs) = (labss as).zip (labss bs)
  | [], [], _ => rfl
  | [], b :: q, e => by simp [barDs] at e
  | a :: r, [], e => by simp [barDs] at e
  | a :: r, b :: q, e => by
    simp only [barDs, List.cons.injEq] at e
    rw [List.zip_cons_cons, zl, zl_zip r q e.2, labss, labss, List.zip_append (bar_len a b e.1).2]
theorem barDs_zip : ∀ (as bs : List T), barDs as = barDs bs ↔ as.length = bs.length ∧ ∀ p ∈ as.zip bs, barD p.1 = barD p.2
  | [], [] => by simp [barDs]
  | [], b :: q => by simp [barDs]
  | a :: r, [] => by simp [barDs]
  | a :: r, b :: q => by
    have := barDs_zip r q
    simp only [barDs, List.cons.injEq, this, List.length_cons, List.zip_cons_cons, List.mem_cons, forall_eq_or_imp]
    constructor
    · rintro ⟨h1, h2, h3⟩; exact ⟨by (first | lia | omega), h1, h3⟩
    · rintro ⟨h1, h2, h3⟩; exact ⟨h2, by (first | lia | omega), h3⟩

noncomputable def Good (rs : List (T × T)) (ps qs : List (Int × Int)) : Prop := (∀ p ∈ rs, barD p.1 = barD p.2) ∧ Inj (zn rs ++ ps) ∧ Inj (zl rs ++ qs)

theorem pairing_inj {a b : List Int} (h : a.length = b.length) : Inj (a.zip b) ↔ Pairing a b := by
  have mem : ∀ {p}, p ∈ a.zip b ↔ ∃ i : Nat, ∃ h1 : i < a.length, p = (a[i], b[i]'(h ▸ h1)) := fun {p} => by
    rw [List.mem_iff_getElem]
    constructor
    · rintro ⟨i, hi, e⟩
      rw [List.length_zip] at hi
      rw [List.getElem_zip] at e
      exact ⟨i, by (first | lia | omega), e.symm⟩
    · rintro ⟨i, h1, rfl⟩
      exact ⟨i, by rw [List.length_zip]; (first | lia | omega), List.getElem_zip⟩
  constructor
  · intro hI i j hi hj
    have hj' : j < a.length := by (first | lia | omega)
    have := hI _ (mem.mpr ⟨i, hi, rfl⟩) _ (mem.mpr ⟨j, hj', rfl⟩)
    rw [List.getElem?_eq_getElem hi, List.getElem?_eq_getElem hj', List.getElem?_eq_getElem (h ▸ hi), List.getElem?_eq_getElem (h ▸ hj'), Option.some_inj, Option.some_inj]
    exact this
  · intro hP p hp q hq
    obtain ⟨i, hi, rfl⟩ := mem.mp hp
    obtain ⟨j, hj, rfl⟩ := mem.mp hq
    have key : ∀ i j (hi : i < a.length) (hj : j < a.length), j < i → (a[i] = a[j] ↔ b[i]'(h ▸ hi) = b[j]'(h ▸ hj)) := fun i j hi hj l => by
      have := hP i j hi l
      rw [List.getElem?_eq_getElem hi, List.getElem?_eq_getElem hj, List.getElem?_eq_getElem (h ▸ hi), List.getElem?_eq_getElem (h ▸ hj), Option.some_inj, Option.some_inj] at this
      exact this
    dsimp only
    rcases Nat.lt_trichotomy i j with l | rfl | l
    · have := key j i hj hi l
      exact ⟨fun e => (this.mp e.symm).symm, fun e => (this.mpr e.symm).symm⟩
    · exact ⟨fun _ => rfl, fun _ => rfl⟩
    · exact key i j hi hj l
theorem good_alike {t u : T} : Good [(t, u)] [] [] ↔ Alike t u := by
  unfold Good Alike
  simp only [List.mem_singleton, forall_eq, zn, zl, List.append_nil]
  constructor
  · rintro ⟨a, b, c⟩
    have := bar_len t u a
    exact ⟨a, (pairing_inj this.1).mp b, (pairing_inj this.2).mp c⟩
  · rintro ⟨a, b, c⟩
    have := bar_len t u a
    exact ⟨a, (pairing_inj this.1).mpr b, (pairing_inj this.2).mpr c⟩

theorem bar_node {h g : Hd} {as bs : List T} : barD (.node h as) = barD (.node g bs) ↔ h.kind = g.kind ∧ h.nums.length = g.nums.length ∧ h.lab.isEmpty = g.lab.isEmpty ∧ h.c3D = g.c3D ∧ barDs as = barDs bs := by
  rw [barD, barD]
  simp only [PyData.tuple.injEq, List.cons.injEq, PyData.int.injEq, PyData.bool.injEq, and_true]
  constructor
  · rintro ⟨a, b, c⟩; exact ⟨a, by (first | lia | omega), c⟩
  · rintro ⟨a, b, c⟩; exact ⟨a, by (first | lia | omega), c⟩
theorem kind_lab {h g : Hd} (e : h.kind = g.kind) : h.lab.isEmpty = g.lab.isEmpty := by
  cases h <;> cases g <;> first | rfl | (exfalso; revert e; simp [Hd.kind]; done)

/-- a step -/
theorem good_step {h g : Hd} {as bs : List T} {rs : List (T × T)} {ps qs ps' qs' : List (Int × Int)} (hk : h.kind = g.kind) (hc : h.c3D = g.c3D) (hn : h.nums.length = g.nums.length) (hl : as.length = bs.length)
    (hp : ∀ p, p ∈ ps' ↔ p ∈ h.nums.zip g.nums ++ ps) (hq : ∀ p, p ∈ qs' ↔ p ∈ h.lab.zip g.lab ++ qs) : Good ((.node h as, .node g bs) :: rs) ps qs ↔ Good (as.zip bs ++ rs) ps' qs' := by
  have hb := kind_lab hk
  have hll := lab_len_isEmpty hb
  have base : (∀ p ∈ ((.node h as, .node g bs) :: rs : List (T × T)), barD p.1 = barD p.2) ↔ ∀ p ∈ as.zip bs ++ rs, barD p.1 = barD p.2 := by
    simp only [List.mem_cons, forall_eq_or_imp, List.mem_append, bar_node, barDs_zip]
    constructor
    · rintro ⟨⟨_, _, _, _, _, h1⟩, h2⟩ p (q | q)
      · exact h1 p q
      · exact h2 p q
    · intro h1
      exact ⟨⟨hk, hn, hb, hc, hl, fun p q => h1 p (.inl q)⟩, fun p q => h1 p (.inr q)⟩
  unfold Good
  rw [base]
  refine and_congr_right fun hall => ?_
  have hbs : barDs as = barDs bs := (barDs_zip as bs).mpr ⟨hl, fun p q => hall p (List.mem_append_left _ q)⟩
  have m1 : ∀ p, p ∈ zn ((.node h as, .node g bs) :: rs) ++ ps ↔ p ∈ zn (as.zip bs ++ rs) ++ ps' := fun p => by
    rw [zn, zn_append, zn_zip _ _ hbs, nums, nums, List.zip_append hn]
    simp only [List.mem_append, hp]
    constructor
    · rintro (((h | h) | h) | h)
      · exact .inr (.inl h)
      · exact .inl (.inl h)
      · exact .inl (.inr h)
      · exact .inr (.inr h)
    · rintro ((h | h) | (h | h))
      · exact .inl (.inl (.inr h))
      · exact .inl (.inr h)
      · exact .inl (.inl (.inl h))
      · exact .inr h
  have m2 : ∀ p, p ∈ zl ((.node h as, .node g bs) :: rs) ++ qs ↔ p ∈ zl (as.zip bs ++ rs) ++ qs' := fun p => by
    rw [zl, zl_append, zl_zip _ _ hbs, labs, labs, List.zip_append hll]
    simp only [List.mem_append, hq]
    constructor
    · rintro (((h | h) | h) | h)
      · exact .inr (.inl h)
      · exact .inl (.inl h)
      · exact .inl (.inr h)
      · exact .inr (.inr h)
    · rintro ((h | h) | (h | h))
      · exact .inl (.inl (.inr h))
      · exact .inl (.inr h)
      · exact .inl (.inl (.inl h))
      · exact .inr h
  exact and_congr ⟨Inj.congr fun p => (m1 p).symm, Inj.congr m1⟩ ⟨Inj.congr fun p => (m2 p).symm, Inj.congr m2⟩
theorem good_head {h g : Hd} {as bs : List T} {rs : List (T × T)} {ps qs : List (Int × Int)} (G : Good ((.node h as, .node g bs) :: rs) ps qs) :
    (h.c3D = g.c3D ∧ h.nums.length = g.nums.length ∧ Inj (h.nums.zip g.nums ++ ps) ∧ Inj (h.lab.zip g.lab ++ qs)) ∧ h.kind = g.kind ∧ as.length = bs.length := by
  obtain ⟨a, b, c⟩ := G
  have h1 := bar_node.mp (a _ (.head _))
  have hll := lab_len_isEmpty h1.2.2.1
  refine ⟨⟨h1.2.2.2.1, h1.2.1, Inj.sub (fun p hp => ?_) b, Inj.sub (fun p hp => ?_) c⟩, h1.1, ((barDs_zip _ _).mp h1.2.2.2.2).1⟩
  · rw [zn, nums, nums, List.zip_append h1.2.1]
    rcases List.mem_append.mp hp with hp | hp
    · exact List.mem_append_left _ (List.mem_append_left _ (List.mem_append_left _ hp))
    · exact List.mem_append_right _ hp
  · rw [zl, labs, labs, List.zip_append hll]
    rcases List.mem_append.mp hp with hp | hp
    · exact List.mem_append_left _ (List.mem_append_left _ (List.mem_append_left _ hp))
    · exact List.mem_append_right _ hp
end Mine
end
section
open PySem PySem.W PyProof.Rows Builtin Builtin.ObjectAttr
set_option Elab.async false
set_option maxRecDepth 100000
namespace Mine

section
variable {P : Nat → CP} {σ σ₁ : Sig} {d : Nat} {k : XV → Sig → Prop}

noncomputable def two (p : T × T) : PV := .tup [enc p.1, enc p.2]
/-- the state within same_core -/
noncomputable def St (σ : Sig) (ps qs : List (Int × Int)) (xs : List PV) : Sig :=
  σ ++ [.inst 14 [.c (σ.length + 1), .c (σ.length + 2)], .dict (fw ps) ps.length, .dict (bw ps) ps.length, .inst 14 [.c (σ.length + 4), .c (σ.length + 5)], .dict (fw qs) qs.length, .dict (bw qs) qs.length, .list xs]
theorem app_get (σ l : Sig) (j : Nat) : (σ ++ l)[σ.length + j]? = l[j]? := by
  rw [List.getElem?_append_right (Nat.le_add_right _ _), Nat.add_sub_cancel_left]
theorem app_set (σ l : Sig) (j : Nat) (c : Cell) : (σ ++ l).set (σ.length + j) c = σ ++ l.set j c := by
  rw [List.set_append_right _ _ (Nat.le_add_right _ _), Nat.add_sub_cancel_left]
theorem St_lik (ps qs : List (Int × Int)) (xs : List PV) : Lik2 (St σ ps qs xs) σ.length (σ.length + 1) (σ.length + 2) ps (σ.length + 3) (σ.length + 4) (σ.length + 5) qs :=
  ⟨⟨app_get σ _ 0, app_get σ _ 1, app_get σ _ 2, by (first | lia | omega)⟩, ⟨app_get σ _ 3, app_get σ _ 4, app_get σ _ 5, by (first | lia | omega)⟩, by (first | lia | omega), by (first | lia | omega), by (first | lia | omega), by (first | lia | omega)⟩
theorem St_lk2 (ps qs ps' qs' : List (Int × Int)) (xs : List PV) : lk2 (St σ ps qs xs) (σ.length + 1) (σ.length + 2) ps' (σ.length + 4) (σ.length + 5) qs' = St σ ps' qs' xs := by
  unfold lk2 likSet St
  rw [app_set, app_set, app_set, app_set]; rfl
theorem St_get (ps qs : List (Int × Int)) (xs : List PV) : (St σ ps qs xs)[σ.length + 6]? = some (.list xs) := app_get σ _ 6
theorem St_set (ps qs : List (Int × Int)) (xs ys : List PV) : (St σ ps qs xs).set (σ.length + 6) (.list ys) = St σ ps qs ys := by
  unfold St
  rw [app_set]; rfl

theorem rangeL_down (n : Nat) : rangeL ((n : Int) - 1) (-1) (-1) = (List.range n).map fun (j : Nat) => PV.int ((n : Int) - 1 - (j : Int)) := by
  unfold rangeL
  rw [if_neg (by decide)]
  congr 2
  (first | lia | omega)

theorem push_loop {as bs : List T} (hab : as.length = bs.length) (hz : as.length ≤ 1000) {ps qs : List (Int × Int)} {n₀ : Nat} :
    ∀ (m : Nat) (xs : List PV) (x0 x1 x2 x3 x5 x6 x9 : Option XV) (K : Fl → Locs → Sig → Prop), m ≤ as.length → xs.length + m ≤ 100000 →
    (∀ y9, K .next [x0, x1, x2, x3, some (.c (σ.length + 6)), x5, x6, some (.p (.lst (encs as))), some (.p (.lst (encs bs))), y9] (St σ ps qs (xs ++ (((as.zip bs).take m).reverse.map two)))) →
    forP 9 (fun L σ' k => vcSs (P d) n₀ (loopAt 5 (loopAt 3 b28)) L σ' k) ((List.range m).map fun (j : Nat) => PV.int ((m : Int) - 1 - (j : Int))) [x0, x1, x2, x3, some (.c (σ.length + 6)), x5, x6, some (.p (.lst (encs as))), some (.p (.lst (encs bs))), x9] (St σ ps qs xs) K := by
  have hlim : lim = 1048576 := rfl
  have get : ∀ {l : List T} {i : Nat} {v : T}, l[i]? = some v → idx (encs l) (i : Int) = some (enc v) := fun {l i v} e => by
    rw [idx_n, encs_map, List.getElem?_map, e]; rfl
  intro m
  induction m with
  | zero =>
    intro xs x0 x1 x2 x3 x5 x6 x9 K hm hx hK
    have := hK x9
    simp only [List.take_zero, List.reverse_nil, List.map_nil, List.append_nil] at this
    exact this
  | succ m ih =>
    intro xs x0 x1 x2 x3 x5 x6 x9 K hm hx hK
    rw [List.range_succ_eq_map, List.map_cons, List.map_map]
    have g1 : as[m]? = some (as[m]'(by first | exact dn hd rfl | exact dt hd rfl | exact dc hd rfl | exact dc0 hd rfl | exact dcn hd rfl | exact ds hd rfl | exact ds0 hd | exact dn hdd rfl | exact dt hdd rfl | (first | lia | omega))) := List.getElem?_eq_getElem _
    have g2 : bs[m]? = some (bs[m]'(by first | exact dn hd rfl | exact dt hd rfl | exact dc hd rfl | exact dc0 hd rfl | exact dcn hd rfl | exact ds hd rfl | exact ds0 hd | exact dn hdd rfl | exact dt hdd rfl | (first | lia | omega))) := List.getElem?_eq_getElem _
    have em : ((m + 1 : Nat) : Int) - 1 - ((0 : Nat) : Int) = (m : Int) := by (first | lia | omega)
    rw [em]
    conv => whnf
    rw [St_get]
    conv => whnf
    refine ⟨by show m ≤ lim; (first | lia | omega), someP_i (get g1) ?_⟩
    conv => whnf
    refine ⟨by show m ≤ lim; (first | lia | omega), someP_i (get g2) ?_⟩
    conv => whnf
    rw [St_get]
    refine And.intro (by (first | lia | omega)) ?_
    refine And.intro (trivial) ?_
    rw [St_set]
    have := ih (xs ++ [two (as[m]'(by first | exact dn hd rfl | exact dt hd rfl | exact dc hd rfl | exact dc0 hd rfl | exact dcn hd rfl | exact ds hd rfl | exact ds0 hd | exact dn hdd rfl | exact dt hdd rfl | (first | lia | omega)), bs[m]'(by first | exact dn hd rfl | exact dt hd rfl | exact dc hd rfl | exact dc0 hd rfl | exact dcn hd rfl | exact ds hd rfl | exact ds0 hd | exact dn hdd rfl | exact dt hdd rfl | (first | lia | omega)))]) x0 x1 x2 x3 x5 x6 (some (.p (.int m))) K (by first | exact dn hd rfl | exact dt hd rfl | exact dc hd rfl | exact dc0 hd rfl | exact dcn hd rfl | exact ds hd rfl | exact ds0 hd | exact dn hdd rfl | exact dt hdd rfl | (first | lia | omega)) (by rw [List.length_append, List.length_singleton]; (first | lia | omega)) (fun y9 => by
      have := hK y9
      have hz : (as.zip bs)[m]? = some (as[m]'(by first | exact dn hd rfl | exact dt hd rfl | exact dc hd rfl | exact dc0 hd rfl | exact dcn hd rfl | exact ds hd rfl | exact ds0 hd | exact dn hdd rfl | exact dt hdd rfl | (first | lia | omega)), bs[m]'(by first | exact dn hd rfl | exact dt hd rfl | exact dc hd rfl | exact dc0 hd rfl | exact dcn hd rfl | exact ds hd rfl | exact ds0 hd | exact dn hdd rfl | exact dt hdd rfl | (first | lia | omega))) := by
        rw [List.getElem?_eq_getElem (by rw [List.length_zip]; (first | lia | omega)), List.getElem_zip]
      rw [List.take_add_one, hz, Option.toList_some, List.reverse_append, List.reverse_singleton, List.map_append, List.map_singleton, ← List.append_assoc] at this
      exact this)
    have e2 : ((List.range m).map fun (j : Nat) => PV.int ((m : Int) - 1 - (j : Int))) = (List.range m).map ((fun (j : Nat) => PV.int (((m + 1 : Nat) : Int) - 1 - (j : Int))) ∘ Nat.succ) := by
      refine List.map_congr_left fun j _ => ?_
      show PV.int _ = PV.int _
      congr 1
      (first | lia | omega)
    rw [e2] at this
    exact this
end
end Mine
end
section
open PySem PySem.W PyProof.Rows Builtin Builtin.ObjectAttr
set_option Elab.async false
set_option maxRecDepth 100000
namespace Mine

section
variable {P : Nat → CP} {σ σ₁ : Sig} {d : Nat} {k : XV → Sig → Prop}

noncomputable def fsz : List (T × T) → Nat
  | [] => 0
  | p :: r => p.1.sz + fsz r
theorem fsz_append : ∀ a b : List (T × T), fsz (a ++ b) = fsz a + fsz b
  | [], _ => by simp [fsz]
  | p :: r, b => by rw [List.cons_append, fsz, fsz, fsz_append r b, Nat.add_assoc]
theorem fsz_zip : ∀ (as bs : List T), as.length = bs.length → fsz (as.zip bs) = szs as
  | [], [], _ => rfl
  | [], _ :: _, h => by simp at h
  | _ :: _, [], h => by simp at h
  | a :: r, b :: q, h => by rw [List.zip_cons_cons, fsz, szs, fsz_zip r q (by simpa using h)]
theorem len_fsz : ∀ rs : List (T × T), rs.length ≤ fsz rs
  | [] => Nat.le_refl _
  | p :: r => by have := len_fsz r; have := p.1.sz_pos; rw [fsz, List.length_cons]; (first | lia | omega)

theorem enc_shape (t : T) : ∃ c fs, enc t = .obj c fs ∧ attrOf c 0 = .const (.int t.hd.kind) ∧ attrOf c 30 = .meth (partsFn t.hd) := by
  obtain ⟨h, ps⟩ := t
  cases h <;> exact ⟨_, _, rfl, rfl, rfl⟩
theorem enc_el (t : T) {G : Prop} (g : ∀ c fs, enc t = .obj c fs → attrOf c 0 = .const (.int t.hd.kind) → attrOf c 30 = .meth (partsFn t.hd) → G) : G := by
  obtain ⟨c, fs, a, b, e⟩ := enc_shape t
  exact g c fs a b e
noncomputable def okP (p : T × T) : Prop := p.1.wf ∧ p.2.wf ∧ p.1.sz ≤ 1000 ∧ p.2.sz ≤ 1000

theorem core_loop (C : Calls P) (hd : 10 ≤ d) {n₀ : Nat} : ∀ (N : Nat) (rs : List (T × T)) (ps qs : List (Int × Int)) (x0 x1 x5 x6 x7 x8 x9 : Option XV) (K : Fl → Locs → Sig → Prop),
    fsz rs ≤ N → N ≤ 5000 → (∀ p ∈ rs, okP p) → Inj ps → Inj qs → ps.length + 9 * fsz rs ≤ 90000 → qs.length + 9 * fsz rs ≤ 90000 →
    (Good rs ps qs → ∀ ps' qs' y5 y6 y7 y8 y9, K .next [x0, x1, some (.c σ.length), some (.c (σ.length + 3)), some (.c (σ.length + 6)), y5, y6, y7, y8, y9] (St σ ps' qs' [])) →
    (¬ Good rs ps qs → ∀ ps' qs' xs L, K (.ret (.p (.bool false))) L (St σ ps' qs' xs)) →
    whileP (fun L σ' k => vcE (P d) (condAt 3 b28) L σ' k) (fun L σ' k => vcSs (P d) n₀ (loopAt 3 b28) L σ' k) (N + 1) [x0, x1, some (.c σ.length), some (.c (σ.length + 3)), some (.c (σ.length + 6)), x5, x6, x7, x8, x9] (St σ ps qs (rs.reverse.map two)) K := by
  have hlim : lim = 1048576 := rfl
  intro N
  induction N with
  | zero =>
    intro rs ps qs x0 x1 x5 x6 x7 x8 x9 K hN _ hw hI hJ hp hq h1 h2
    have : rs = [] := by
      have := len_fsz rs
      exact List.length_eq_zero_iff.mp (by first | exact dn hd rfl | exact dt hd rfl | exact dc hd rfl | exact dc0 hd rfl | exact dcn hd rfl | exact ds hd rfl | exact ds0 hd | exact dn hdd rfl | exact dt hdd rfl | (first | lia | omega))
    subst this
    conv => whnf
    rw [St_get]
    refine And.intro (Nat.zero_le _) ?_
    exact h1 ⟨fun p hp => (List.not_mem_nil hp).elim, hI, hJ⟩ ps qs x5 x6 x7 x8 x9
  | succ N ih =>
    intro rs ps qs x0 x1 x5 x6 x7 x8 x9 K hN hNl hw hI hJ hp hq h1 h2
    have hrl := len_fsz rs
    conv => whnf
    rw [St_get]
    refine And.intro (by rw [List.length_map, List.length_reverse]; (first | lia | omega)) ?_
    cases rs with
    | nil =>
      exact h1 ⟨fun p hp => (List.not_mem_nil hp).elim, hI, hJ⟩ ps qs x5 x6 x7 x8 x9
    | cons p rs =>
      obtain ⟨t, u⟩ := p
      obtain ⟨ht, hu, hzt, hzu⟩ := hw _ (.head _)
      dsimp only at ht hu hzt hzu
      rw [List.length_cons] at hrl
      obtain ⟨h, as⟩ := t
      obtain ⟨g, bs⟩ := u
      refine enc_el (.node h as) fun ct ft et kt pt => ?_
      refine enc_el (.node g bs) fun cu fu eu ku pu => ?_
      refine br_intro (fun q => ?_) (fun q => ?_)
      · conv => whnf
        rw [St_get]
        conv => whnf
        refine ⟨by rw [List.length_map, List.length_reverse, List.length_cons]; (first | lia | omega), rs.reverse.map two, .tup [enc (.node h as), enc (.node g bs)], by rw [List.reverse_cons, List.map_append, List.map_singleton]; rfl, ?_⟩
        rw [St_set]
        have fin : ∀ ps' qs' xs L, ¬ (h.kind = g.kind ∧ as.length = bs.length ∧ h.c3D = g.c3D ∧ h.nums.length = g.nums.length ∧ Inj (h.nums.zip g.nums ++ ps) ∧ Inj (h.lab.zip g.lab ++ qs)) → K (.ret (.p (.bool false))) L (St σ ps' qs' xs) := fun ps' qs' xs L hn =>
          h2 (fun G => by
            obtain ⟨⟨a, b, c, e⟩, f, i⟩ := good_head G
            exact hn ⟨f, i, a, b, c, e⟩) ps' qs' xs L
        conv => whnf
        rw [et]
        conv => whnf
        rw [kt]
        conv => whnf
        rw [eu]
        conv => whnf
        rw [ku]
        refine br_intro (fun q => ?_) (fun q => ?_)
        · conv => whnf
          refine fin _ _ _ _ fun z => ?_
          rw [show (T.node h as).hd.kind = h.kind from rfl, show (T.node g bs).hd.kind = g.kind from rfl, z.1] at q
          simp at q
        · have hk : h.kind = g.kind := by
            have q' : (T.node h as).hd.kind = (T.node g bs).hd.kind := by simpa using q
            exact q'
          conv => whnf
          rw [← et, ← eu]
          refine c_heads C ht hu hk (St_lik _ _ _) hI hJ (by first | exact dn hd rfl | exact dt hd rfl | exact dc hd rfl | exact dc0 hd rfl | exact dcn hd rfl | exact ds hd rfl | exact ds0 hd | exact dn hdd rfl | exact dt hdd rfl | (first | lia | omega)) (by first | exact dn hd rfl | exact dt hd rfl | exact dc hd rfl | exact dc0 hd rfl | exact dcn hd rfl | exact ds hd rfl | exact ds0 hd | exact dn hdd rfl | exact dt hdd rfl | (first | lia | omega)) (by first | exact dn hd rfl | exact dt hd rfl | exact dc hd rfl | exact dc0 hd rfl | exact dcn hd rfl | exact ds hd rfl | exact ds0 hd | exact dn hdd rfl | exact dt hdd rfl | (first | lia | omega)) (fun e1 e2 e3 e4 ps' qs' m1 m2 l1 l2 => ?_) (fun hn ps' qs' => ?_)
          · conv => whnf
            rw [St_lk2]
            rw [et]
            conv => whnf
            rw [pt]
            conv => whnf
            rw [← et]
            refine c_parts C ht hzt (by first | exact dn hd rfl | exact dt hd rfl | exact dc hd rfl | exact dc0 hd rfl | exact dcn hd rfl | exact ds hd rfl | exact ds0 hd | exact dn hdd rfl | exact dt hdd rfl | (first | lia | omega)) ?_
            conv => whnf
            rw [eu]
            conv => whnf
            rw [pu]
            conv => whnf
            rw [← eu]
            refine c_parts C hu hzu (by first | exact dn hd rfl | exact dt hd rfl | exact dc hd rfl | exact dc0 hd rfl | exact dcn hd rfl | exact ds hd rfl | exact ds0 hd | exact dn hdd rfl | exact dt hdd rfl | (first | lia | omega)) ?_
            rw [T.sz] at hzt hzu
            rw [fsz, T.sz] at hN hrl hp hq
            have la := len_szs as
            have lb := len_szs bs
            have ea := encs_len as
            have eb := encs_len bs
            refine And.intro (by show (encs as).length ≤ lim; (first | lia | omega)) ?_
            refine And.intro (by show (encs bs).length ≤ lim; (first | lia | omega)) ?_
            refine br_intro (fun q => ?_) (fun q => ?_)
            · conv => whnf
              refine fin _ _ _ _ fun z => ?_
              have q : (!decide (((encs as).length : Int) = ((encs bs).length : Int))) = true := q
              rw [ea, eb, z.2.1] at q
              simp at q
            · have hab : as.length = bs.length := by
                have q : (!decide (((encs as).length : Int) = ((encs bs).length : Int))) = false := q
                rw [ea, eb] at q
                have q' : (as.length : Int) = bs.length := by simpa using q
                (first | lia | omega)
              refine And.intro (by show (encs as).length ≤ lim; (first | lia | omega)) ?_
              refine And.intro (⟨rfl, rfl, by show (-1 : Int) ≤ ((encs as).length : Int) - 1; (first | lia | omega), by show ((encs as).length : Int) - 1 ≤ (lim : Int); (first | lia | omega)⟩) ?_
              refine And.intro (⟨.inr rfl, by show (((encs as).length : Int) - 1).natAbs ≤ lim; (first | lia | omega), by decide⟩) ?_
              rw [show (T.node h as).ps = as from rfl, ea, rangeL_down]
              refine ⟨by rw [List.length_map, List.length_range]; (first | lia | omega), ?_⟩
              refine push_loop hab (by first | exact dn hd rfl | exact dt hd rfl | exact dc hd rfl | exact dc0 hd rfl | exact dcn hd rfl | exact ds hd rfl | exact ds0 hd | exact dn hdd rfl | exact dt hdd rfl | (first | lia | omega)) as.length _ _ _ _ _ _ _ _ _ (Nat.le_refl _) (by rw [List.length_map, List.length_reverse]; (first | lia | omega)) fun y9 => ?_
              have em : rs.reverse.map two ++ ((as.zip bs).take as.length).reverse.map two = (as.zip bs ++ rs).reverse.map two := by
                rw [List.take_of_length_le (by rw [List.length_zip]; (first | lia | omega)), List.reverse_append, List.map_append]
              rw [em]
              have gs := good_step (rs := rs) hk e1 e2 hab m1 m2
              have ef : fsz (as.zip bs ++ rs) = szs as + fsz rs := by rw [fsz_append, fsz_zip _ _ hab]
              rw [T.wf] at ht hu
              refine ih (as.zip bs ++ rs) ps' qs' x0 x1 _ _ _ _ _ K (by first | exact dn hd rfl | exact dt hd rfl | exact dc hd rfl | exact dc0 hd rfl | exact dcn hd rfl | exact ds hd rfl | exact ds0 hd | exact dn hdd rfl | exact dt hdd rfl | (first | lia | omega)) (by first | exact dn hd rfl | exact dt hd rfl | exact dc hd rfl | exact dc0 hd rfl | exact dcn hd rfl | exact ds hd rfl | exact ds0 hd | exact dn hdd rfl | exact dt hdd rfl | (first | lia | omega)) (fun p hp => ?_) (Inj.congr m1 e3) (Inj.congr m2 e4) (by first | exact dn hd rfl | exact dt hd rfl | exact dc hd rfl | exact dc0 hd rfl | exact dcn hd rfl | exact ds hd rfl | exact ds0 hd | exact dn hdd rfl | exact dt hdd rfl | (first | lia | omega)) (by first | exact dn hd rfl | exact dt hd rfl | exact dc hd rfl | exact dc0 hd rfl | exact dcn hd rfl | exact ds hd rfl | exact ds0 hd | exact dn hdd rfl | exact dt hdd rfl | (first | lia | omega)) (fun G => h1 (gs.mpr G)) (fun G => h2 fun G' => G (gs.mp G'))
              rcases List.mem_append.mp hp with hp | hp
              · have := List.of_mem_zip (show (p.1, p.2) ∈ _ from hp)
                have s1 := mem_szs this.1
                have s2 := mem_szs this.2
                exact ⟨wfs_mem ht.2 _ this.1, wfs_mem hu.2 _ this.2, by (first | lia | omega), by (first | lia | omega)⟩
              · exact hw p (.tail _ hp)
          · conv => whnf
            rw [St_lk2]
            exact fin _ _ _ _ fun z => hn ⟨z.2.2.1, z.2.2.2.1, z.2.2.2.2.1, z.2.2.2.2.2⟩
      · exfalso
        have q : decide ((0 : Int) < ((((T.node h as, T.node g bs) :: rs).reverse.map two).length : Int)) = false := q
        rw [List.length_map, List.length_reverse, List.length_cons] at q
        have := of_decide_eq_false q
        (first | lia | omega)

theorem c_core (C : Calls P) {t u : T} (ht : t.wf) (hu : u.wf) (hzt : t.sz ≤ 1000) (hzu : u.sz ≤ 1000) (hd : 11 ≤ d) (h : ∀ r : Bool, (r = true ↔ Alike t u) → k (.p (.bool r)) σ) : P d 28 [.p (enc t), .p (enc u)] σ k := by
  obtain ⟨d, rfl⟩ : ∃ e, d = e + 1 := ⟨d - 1, by (first | lia | omega)⟩
  have hlim : lim = 1048576 := rfl
  refine C.drop ?_
  have fin : ∀ (r : Bool) ps qs xs, (r = true ↔ Alike t u) → Letgo σ k (.p (.bool r)) (St σ ps qs xs) := fun r ps qs xs hr =>
    ⟨σ, _, rfl, rfl, fun _ _ _ e => .inl e, .inl ⟨trivial, h r hr⟩⟩
  refine C.by' (fi := f28) rfl rfl ?_
  refine c_likeness C rfl (by first | exact dn hd rfl | exact dt hd rfl | exact dc hd rfl | exact dc0 hd rfl | exact dcn hd rfl | exact ds hd rfl | exact ds0 hd | exact dn hdd rfl | exact dt hdd rfl | (first | lia | omega)) ?_
  refine And.intro (rfl) ?_
  refine c_likeness C rfl (by first | exact dn hd rfl | exact dt hd rfl | exact dc hd rfl | exact dc0 hd rfl | exact dcn hd rfl | exact ds hd rfl | exact ds0 hd | exact dn hdd rfl | exact dt hdd rfl | (first | lia | omega)) ?_
  refine And.intro (rfl) ?_
  conv => whnf
  refine ⟨t.sz + 1, ?_⟩
  have e : (σ ++ [Cell.inst 14 [XV.c (List.length σ + 1), XV.c (List.length σ + 2)], Cell.dict (fw []) 0, Cell.dict (bw []) 0]).length = σ.length + 3 := by simp
  rw [e]
  have e2 : ∀ a b : Nat, (σ ++ [Cell.inst 14 [XV.c (List.length σ + 1), XV.c (List.length σ + 2)], Cell.dict (fw []) 0, Cell.dict (bw []) 0] ++ [Cell.inst 14 [XV.c a, XV.c b], Cell.dict (fw []) 0, Cell.dict (bw []) 0]).length = σ.length + 6 := fun a b => by simp
  rw [e2]
  have es : (σ ++ [Cell.inst 14 [XV.c (List.length σ + 1), XV.c (List.length σ + 2)], Cell.dict (fw []) 0, Cell.dict (bw []) 0] ++ [Cell.inst 14 [XV.c (List.length σ + 3 + 1), XV.c (List.length σ + 3 + 2)], Cell.dict (fw []) 0, Cell.dict (bw []) 0] ++ [Cell.list [PV.tup [enc t, enc u]]]) = St σ [] [] ([(t, u)].reverse.map two) := by
    simp [St, two]
  rw [es]
  refine core_loop C (by first | exact dn hd rfl | exact dt hd rfl | exact dc hd rfl | exact dc0 hd rfl | exact dcn hd rfl | exact ds hd rfl | exact ds0 hd | exact dn hdd rfl | exact dt hdd rfl | (first | lia | omega)) t.sz [(t, u)] [] [] _ _ _ _ _ _ _ _ (by simp [fsz]) (by first | exact dn hd rfl | exact dt hd rfl | exact dc hd rfl | exact dc0 hd rfl | exact dcn hd rfl | exact ds hd rfl | exact ds0 hd | exact dn hdd rfl | exact dt hdd rfl | (first | lia | omega)) (fun p hp => ?_) (fun p hp => (List.not_mem_nil hp).elim) (fun p hp => (List.not_mem_nil hp).elim) (by simp [fsz]; (first | lia | omega)) (by simp [fsz]; (first | lia | omega)) (fun G ps' qs' y5 y6 y7 y8 y9 => ?_) (fun G ps' qs' xs L => ?_)
  · rw [List.mem_singleton] at hp
    subst hp
    exact ⟨ht, hu, hzt, hzu⟩
  · exact fin true _ _ _ (by simp [good_alike.mp G])
  · exact fin false _ _ _ (by simp; exact fun h => G (good_alike.mpr h))
end
end Mine
end
section
open PySem PySem.W PyProof.Rows Builtin Builtin.ObjectAttr
set_option Elab.async false
set_option maxRecDepth 100000
namespace Mine

noncomputable def Deck (ds : List Int) : Prop := (∀ x ∈ ds, 0 ≤ x) ∧ ds.length ≤ 100
noncomputable def cl (ds : List Int) : Cell := .list (ds.map .int)

section
variable {P : Nat → CP} {σ R : Sig} {d : Nat} {k : XV → Sig → Prop}

theorem c_draw (C : Calls P) {ds : List Int} {m : Int} (hD : Deck ds) (hm : 0 < m) (hml : m ≤ 100000) (hd : 1 ≤ d) (h : ∀ v ds', 0 ≤ v → v < m → Deck ds' → k (.p (.int v)) (cl ds' :: R)) : P d 0 [.c 0, .p (.int m)] (cl ds :: R) k := by
  obtain ⟨d, rfl⟩ : ∃ e, d = e + 1 := ⟨d - 1, by (first | lia | omega)⟩
  have hlim : lim = 1048576 := rfl
  have loop : ∀ (ds : List Int) (x1 x2 : Option XV) (n₀ : Nat) (K : Fl → Locs → Sig → Prop), Deck ds → (∀ ds', Deck ds' → K .next [some (.c 0), x1, x2] (cl ds' :: R)) →
      whileP (fun L σ' k => vcE (P d) (condAt 0 b0) L σ' k) (fun L σ' k => vcSs (P d) n₀ (loopAt 0 b0) L σ' k) (ds.length + 1) [some (.c 0), x1, x2] (cl ds :: R) K := by
    intro ds
    induction ds with
    | nil =>
      intro x1 x2 n₀ K hD hK
      exact hK [] hD
    | cons a r ih =>
      intro x1 x2 n₀ K hD hK
      have hr : Deck r := ⟨fun x hx => hD.1 x (.tail _ hx), by have := hD.2; rw [List.length_cons] at this; (first | lia | omega)⟩
      refine And.intro (by decide) ?_
      refine br_intro (fun q => ?_) (fun q => ?_)
      · refine And.intro (by show (List.map PV.int (a :: r)).length ≤ lim; have := hD.2; rw [List.length_map]; (first | lia | omega)) ?_
        refine And.intro (trivial) ?_
        exact ih x1 x2 n₀ K hr hK
      · exact hK (a :: r) hD
  refine C.by' (fi := f0) rfl rfl ?_
  conv => whnf
  refine ⟨ds.length + 1, ?_⟩
  refine loop ds _ _ _ _ hD fun ds hD => ?_
  cases ds with
  | nil =>
    exact h 0 [] (by first | exact dn hd rfl | exact dt hd rfl | exact dc hd rfl | exact dc0 hd rfl | exact dcn hd rfl | exact ds hd rfl | exact ds0 hd | exact dn hdd rfl | exact dt hdd rfl | (first | lia | omega)) hm hD
  | cons a r =>
    refine And.intro (by decide) ?_
    refine And.intro (by (first | lia | omega)) ?_
    refine And.intro (by decide) ?_
    refine And.intro (⟨hm, by rw [hlim]; (first | lia | omega)⟩) ?_
    refine And.intro (⟨Nat.zero_lt_succ _, by decide⟩) ?_
    have ha := hD.1 a (.head _)
    have e1 : a.fdiv m = a / m := Int.fdiv_eq_ediv_of_nonneg _ (by first | exact dn hd rfl | exact dt hd rfl | exact dc hd rfl | exact dc0 hd rfl | exact dcn hd rfl | exact ds hd rfl | exact ds0 hd | exact dn hdd rfl | exact dt hdd rfl | (first | lia | omega))
    have e2 : a.fmod m = a % m := Int.fmod_eq_emod_of_nonneg _ (by first | exact dn hd rfl | exact dt hd rfl | exact dc hd rfl | exact dc0 hd rfl | exact dcn hd rfl | exact ds hd rfl | exact ds0 hd | exact dn hdd rfl | exact dt hdd rfl | (first | lia | omega))
    have := h (a.fmod m) (a.fdiv m :: r) (by rw [e2]; exact Int.emod_nonneg _ (by first | exact dn hd rfl | exact dt hd rfl | exact dc hd rfl | exact dc0 hd rfl | exact dcn hd rfl | exact ds hd rfl | exact ds0 hd | exact dn hdd rfl | exact dt hdd rfl | (first | lia | omega))) (by rw [e2]; exact Int.emod_lt_of_pos _ hm)
      ⟨fun x hx => by
        rcases List.mem_cons.mp hx with rfl | hx
        · rw [e1]; exact Int.ediv_nonneg ha (by first | exact dn hd rfl | exact dt hd rfl | exact dc hd rfl | exact dc0 hd rfl | exact dcn hd rfl | exact ds hd rfl | exact ds0 hd | exact dn hdd rfl | exact dt hdd rfl | (first | lia | omega))
        · exact hD.1 x (.tail _ hx), hD.2⟩
    exact this

theorem c_one (C : Calls P) {ds : List Int} {xs : List PV} (hD : Deck ds) (hx : xs ≠ []) (hl : xs.length ≤ 10000) (hd : 2 ≤ d) (h : ∀ x ds', x ∈ xs → Deck ds' → k (.p x) (cl ds' :: R)) : P d 2 [.c 0, .p (.lst xs)] (cl ds :: R) k := by
  obtain ⟨d, rfl⟩ : ∃ e, d = e + 1 := ⟨d - 1, by (first | lia | omega)⟩
  have hlim : lim = 1048576 := rfl
  refine C.by' (fi := f2) rfl rfl ?_
  refine And.intro (by (first | lia | omega)) ?_
  have hp : 0 < xs.length := List.length_pos_iff.mpr hx
  refine c_draw C hD (m := (xs.length : Int)) (by first | exact dn hd rfl | exact dt hd rfl | exact dc hd rfl | exact dc0 hd rfl | exact dcn hd rfl | exact ds hd rfl | exact ds0 hd | exact dn hdd rfl | exact dt hdd rfl | (first | lia | omega)) (by first | exact dn hd rfl | exact dt hd rfl | exact dc hd rfl | exact dc0 hd rfl | exact dcn hd rfl | exact ds hd rfl | exact ds0 hd | exact dn hdd rfl | exact dt hdd rfl | (first | lia | omega)) (by first | exact dn hd rfl | exact dt hd rfl | exact dc hd rfl | exact dc0 hd rfl | exact dcn hd rfl | exact ds hd rfl | exact ds0 hd | exact dn hdd rfl | exact dt hdd rfl | (first | lia | omega)) fun v ds' v0 v1 hD' => ?_
  obtain ⟨n, rfl⟩ := Int.eq_ofNat_of_zero_le v0
  have hn : n < xs.length := by (first | lia | omega)
  conv => whnf
  refine ⟨by show n ≤ lim; (first | lia | omega), someP_i (a := xs[n]) (by rw [idx_n]; exact List.getElem?_eq_getElem hn) ?_⟩
  exact h _ ds' (List.getElem_mem _) hD'

theorem c_new0 (C : Calls P) {c : Cell} {a b : Int} (hd : 1 ≤ d) (h : k (.p (.int (a + 1))) (c :: cl [a + 1, b] :: R)) : P d 3 [.c 1, .p (.int 0)] (c :: cl [a, b] :: R) k := by
  obtain ⟨d, rfl⟩ : ∃ e, d = e + 1 := ⟨d - 1, by (first | lia | omega)⟩
  refine C.by' (fi := f3) rfl rfl ?_
  refine And.intro (by decide) ?_
  refine And.intro (⟨Nat.zero_lt_succ _, by decide⟩) ?_
  refine And.intro (by decide) ?_
  exact h
theorem c_new1 (C : Calls P) {c : Cell} {a b : Int} (hd : 1 ≤ d) (h : k (.p (.int (b + 1))) (c :: cl [a, b + 1] :: R)) : P d 3 [.c 1, .p (.int 1)] (c :: cl [a, b] :: R) k := by
  obtain ⟨d, rfl⟩ : ∃ e, d = e + 1 := ⟨d - 1, by (first | lia | omega)⟩
  refine C.by' (fi := f3) rfl rfl ?_
  refine And.intro (by decide) ?_
  refine And.intro (⟨Nat.succ_lt_succ (Nat.zero_lt_succ _), by decide⟩) ?_
  refine And.intro (by decide) ?_
  exact h

theorem c_deck (C : Calls P) {l : List Int} (hl : l.length ≤ 100000) (hd : 1 ≤ d) (h : ∀ ds, Deck ds → k (.c σ.length) (σ ++ [cl ds])) : P d 1 [.p (iv l)] σ k := by
  obtain ⟨d, rfl⟩ : ∃ e, d = e + 1 := ⟨d - 1, by (first | lia | omega)⟩
  have hlim : lim = 1048576 := rfl
  refine C.by' (fi := f1) rfl rfl ?_
  have e1 : (l.map PV.int).length = l.length := List.length_map _
  refine And.intro (by rw [e1]; (first | lia | omega)) ?_
  conv => whnf
  have e2 : slTo (l.map PV.int) 24 = (l.take 24).map PV.int := (List.map_take ..).symm
  have hz : (10 : Int) ^ 60 ≠ 0 := by decide
  rw [e2]
  refine ⟨by rw [List.length_map, List.length_take]; (first | lia | omega), ?_⟩
  refine compP_map (α := Int) PV.int (fun v => PV.int ((v.natAbs : Int).fmod (10 ^ 60))) _ (fun v hv k hk => ?_) ?_
  · refine And.intro (⟨rfl, rfl⟩) ?_
    refine And.intro (hz) ?_
    exact hk
  · have hk : (l.take 24).length ≤ 24 := by rw [List.length_take]; (first | lia | omega)
    refine ⟨Nat.le_trans (Nat.add_le_add_right (by rw [List.length_map]; exact hk) 1) (by decide), ?_⟩
    have dk : Deck ((l.take 24).map (fun v => (v.natAbs : Int).fmod (10 ^ 60)) ++ [1234567890123456789012345]) := by
      refine ⟨fun x hx => ?_, ?_⟩
      · rcases List.mem_append.mp hx with hx | hx
        · obtain ⟨v, _, rfl⟩ := List.mem_map.mp hx
          exact Int.fmod_nonneg_of_pos _ (by decide)
        · rw [List.mem_singleton.mp hx]; decide
      · rw [List.length_append, List.length_map, List.length_take, List.length_singleton]; (first | lia | omega)
    have := h _ dk
    rw [cl, List.map_append, List.map_map] at this
    exact this
end
end Mine
end
section
open PySem PySem.W PyProof.Rows Builtin Builtin.ObjectAttr
set_option Elab.async false
set_option maxRecDepth 100000
namespace Mine

/-- numbers and labels between naught and 200 -/
noncomputable def In200 (l : List Int) : Prop := ∀ n ∈ l, 0 ≤ n ∧ n ≤ 200
noncomputable def TB (t : T) : Prop := In200 (nums t) ∧ In200 (labs t)
theorem In200.nil : In200 [] := fun _ h => (List.not_mem_nil h).elim
theorem In200.app {a b : List Int} (h : In200 a) (g : In200 b) : In200 (a ++ b) := fun n hn => by
  rcases List.mem_append.mp hn with hn | hn
  · exact h n hn
  · exact g n hn
theorem In200.one {a : Int} (h : 0 ≤ a) (g : a ≤ 200) : In200 [a] := fun n hn => by
  rw [List.mem_singleton.mp hn]; exact ⟨h, g⟩
theorem numss_in : ∀ {ps : List T}, (∀ t ∈ ps, TB t) → In200 (numss ps)
  | [], _ => .nil
  | t :: r, h => by rw [numss]; exact (h t (.head _)).1.app (numss_in fun x hx => h x (.tail _ hx))
theorem labss_in : ∀ {ps : List T}, (∀ t ∈ ps, TB t) → In200 (labss ps)
  | [], _ => .nil
  | t :: r, h => by rw [labss]; exact (h t (.head _)).2.app (labss_in fun x hx => h x (.tail _ hx))
theorem szs_le {z : Nat} : ∀ {ps : List T}, (∀ t ∈ ps, t.sz ≤ z) → szs ps ≤ ps.length * z
  | [], _ => Nat.zero_le _
  | t :: r, h => by
    have := h t (.head _)
    have := szs_le fun x hx => h x (.tail _ hx)
    rw [szs, List.length_cons, Nat.succ_mul]; (first | lia | omega)
noncomputable def TOk (z : Nat) (t : T) : Prop := t.wf ∧ t.sz ≤ z ∧ TB t
theorem TOk.mono {z y : Nat} {t : T} (h : TOk z t) (l : z ≤ y) : TOk y t := ⟨h.1, Nat.le_trans h.2.1 l, h.2.2⟩
theorem TOk.node {z y n : Nat} {h : Hd} {ps : List T} (hp : ∀ t ∈ ps, TOk z t) (ok : h.ok ps.length) (hn : In200 h.nums) (hl : In200 h.lab) (le : ps.length ≤ n) (hz : 1 + n * z ≤ y) : TOk y (.node h ps) := by
  refine ⟨by rw [T.wf]; exact ⟨ok, wfs_of fun t ht => (hp t ht).1⟩, ?_, ?_⟩
  · have := szs_le fun t ht => (hp t ht).2.1
    have := Nat.mul_le_mul_right z le
    rw [T.sz]; (first | lia | omega)
  · exact ⟨by rw [nums]; exact hn.app (numss_in fun t ht => (hp t ht).2.2), by rw [labs]; exact hl.app (labss_in fun t ht => (hp t ht).2.2)⟩

/-- the state while nodes are built -/
noncomputable def GS (R : Sig) (M : Int) (σ : Sig) : Prop := ∃ ds a b, σ = cl ds :: cl [a, b] :: R ∧ Deck ds ∧ 0 ≤ a ∧ a ≤ M ∧ 0 ≤ b ∧ b ≤ M
theorem GS.mono {R : Sig} {M N : Int} {σ : Sig} (h : GS R M σ) (l : M ≤ N) : GS R N σ := by
  obtain ⟨ds, a, b, e, hD, h1, h2, h3, h4⟩ := h
  exact ⟨ds, a, b, e, hD, h1, by (first | lia | omega), h3, by (first | lia | omega)⟩

section
variable {P : Nat → CP} {σ R : Sig} {d : Nat} {M : Int} {k : XV → Sig → Prop}

theorem g_draw (C : Calls P) {m : Int} (G : GS R M σ) (hm : 0 < m) (hml : m ≤ 100000) (hd : 1 ≤ d) (h : ∀ v σ', 0 ≤ v → v < m → GS R M σ' → k (.p (.int v)) σ') : P d 0 [.c 0, .p (.int m)] σ k := by
  obtain ⟨ds, a, b, rfl, hD, h1, h2, h3, h4⟩ := G
  exact c_draw C hD hm hml hd fun v ds' v0 v1 hD' => h v _ v0 v1 ⟨ds', a, b, rfl, hD', h1, h2, h3, h4⟩
theorem g_one (C : Calls P) {xs : List Int} (G : GS R M σ) (hx : xs ≠ []) (hl : xs.length ≤ 10000) (hd : 2 ≤ d) (h : ∀ v σ', v ∈ xs → GS R M σ' → k (.p (.int v)) σ') : P d 2 [.c 0, .p (iv xs)] σ k := by
  obtain ⟨ds, a, b, rfl, hD, h1, h2, h3, h4⟩ := G
  refine c_one C hD (by simpa using hx) (by rw [List.length_map]; exact hl) hd fun x ds' hx hD' => ?_
  obtain ⟨v, hv, rfl⟩ := List.mem_map.mp hx
  exact h v _ hv ⟨ds', a, b, rfl, hD', h1, h2, h3, h4⟩
theorem g_new0 (C : Calls P) (G : GS R M σ) (hd : 1 ≤ d) (h : ∀ v σ', 0 ≤ v → v ≤ M + 1 → GS R (M + 1) σ' → k (.p (.int v)) σ') : P d 3 [.c 1, .p (.int 0)] σ k := by
  obtain ⟨ds, a, b, rfl, hD, h1, h2, h3, h4⟩ := G
  exact c_new0 C hd (h _ _ (by first | exact dn hd rfl | exact dt hd rfl | exact dc hd rfl | exact dc0 hd rfl | exact dcn hd rfl | exact ds hd rfl | exact ds0 hd | exact dn hdd rfl | exact dt hdd rfl | (first | lia | omega)) (by first | exact dn hd rfl | exact dt hd rfl | exact dc hd rfl | exact dc0 hd rfl | exact dcn hd rfl | exact ds hd rfl | exact ds0 hd | exact dn hdd rfl | exact dt hdd rfl | (first | lia | omega)) ⟨ds, a + 1, b, rfl, hD, by (first | lia | omega), by (first | lia | omega), by (first | lia | omega), by (first | lia | omega)⟩)
theorem g_new1 (C : Calls P) (G : GS R M σ) (hd : 1 ≤ d) (h : ∀ v σ', 0 ≤ v → v ≤ M + 1 → GS R (M + 1) σ' → k (.p (.int v)) σ') : P d 3 [.c 1, .p (.int 1)] σ k := by
  obtain ⟨ds, a, b, rfl, hD, h1, h2, h3, h4⟩ := G
  exact c_new1 C hd (h _ _ (by first | exact dn hd rfl | exact dt hd rfl | exact dc hd rfl | exact dc0 hd rfl | exact dcn hd rfl | exact ds hd rfl | exact ds0 hd | exact dn hdd rfl | exact dt hdd rfl | (first | lia | omega)) (by first | exact dn hd rfl | exact dt hd rfl | exact dc hd rfl | exact dc0 hd rfl | exact dcn hd rfl | exact ds hd rfl | exact ds0 hd | exact dn hdd rfl | exact dt hdd rfl | (first | lia | omega)) ⟨ds, a, b + 1, rfl, hD, by (first | lia | omega), by (first | lia | omega), by (first | lia | omega), by (first | lia | omega)⟩)

/-- a comprehension whose items change the state -/
theorem compP_st {α : Type} {body : PV → Sig → (PV → Sig → Prop) → Prop} (e : α → PV) (I : Nat → Sig → Prop) (Q : α → Prop) : ∀ (l : List PV) (i : Nat) {σ : Sig} {k : List PV → Sig → Prop}, I i σ →
    (∀ (j : Nat) (x : PV) (σ : Sig) {k : PV → Sig → Prop}, x ∈ l → i ≤ j → j < i + l.length → I j σ → (∀ a σ', Q a → I (j + 1) σ' → k (e a) σ') → body x σ k) →
    (∀ (as : List α) σ', as.length = l.length → (∀ a ∈ as, Q a) → I (i + l.length) σ' → k (as.map e) σ') → compP body l σ k
  | [], i, _, _, hi, _, h => h [] _ rfl (fun _ h => (List.not_mem_nil h).elim) hi
  | x :: r, i, _, _, hi, hb, h => hb i x _ (.head _) (Nat.le_refl _) (by rw [List.length_cons]; (first | lia | omega)) hi fun a σ' ha hi' =>
      compP_st e I Q r (i + 1) hi' (fun j y σ k hy h1 h2 => hb j y σ (.tail _ hy) (by first | exact dn hd rfl | exact dt hd rfl | exact dc hd rfl | exact dc0 hd rfl | exact dcn hd rfl | exact ds hd rfl | exact ds0 hd | exact dn hdd rfl | exact dt hdd rfl | (first | lia | omega)) (by rw [List.length_cons]; (first | lia | omega))) fun as σ'' hl hq hI =>
        h (a :: as) σ'' (by rw [List.length_cons, List.length_cons, hl]) (fun z hz => by
          rcases List.mem_cons.mp hz with rfl | hz
          · exact ha
          · exact hq z hz) (by rw [List.length_cons, show i + (r.length + 1) = i + 1 + r.length by (first | lia | omega)]; exact hI)

noncomputable def NodeOf (P : Nat → CP) (c z : Nat) (D : Int) : Prop := ∀ (d : Nat) (M : Int) (S : List Int) (R σ : Sig) (k : XV → Sig → Prop), c ≤ d → GS R M σ → M + 4 * (z : Int) ≤ 200 → In200 S → S.length + 10 * z ≤ 1000 →
  (∀ t σ', TOk z t → GS R (M + 4 * (z : Int)) σ' → k (.p (enc t)) σ') → P d 5 [.c 0, .c 1, .p (iv S), .p (.int D)] σ k
theorem NodeOf.mono {c z c' z' : Nat} {D : Int} (h : NodeOf P c z D) (hc : c ≤ c') (hz : z ≤ z') : NodeOf P c' z' D := fun d M S R σ k h1 h2 h3 h4 h5 h6 =>
  h d M S R σ k (by first | exact dn hd rfl | exact dt hd rfl | exact dc hd rfl | exact dc0 hd rfl | exact dcn hd rfl | exact ds hd rfl | exact ds0 hd | exact dn hdd rfl | exact dt hdd rfl | (first | lia | omega)) h2 (by first | exact dn hd rfl | exact dt hd rfl | exact dc hd rfl | exact dc0 hd rfl | exact dcn hd rfl | exact ds hd rfl | exact ds0 hd | exact dn hdd rfl | exact dt hdd rfl | (first | lia | omega)) h4 (by first | exact dn hd rfl | exact dt hd rfl | exact dc hd rfl | exact dc0 hd rfl | exact dcn hd rfl | exact ds hd rfl | exact ds0 hd | exact dn hdd rfl | exact dt hdd rfl | (first | lia | omega)) fun t σ' ht hs => h6 t σ' (ht.mono hz) (hs.mono (by first | exact dn hd rfl | exact dt hd rfl | exact dc hd rfl | exact dc0 hd rfl | exact dcn hd rfl | exact ds hd rfl | exact ds0 hd | exact dn hdd rfl | exact dt hdd rfl | (first | lia | omega)))

/-- n new numbers -/
theorem news (C : Calls P) {l : List PV} (G : GS R M σ) (hM : 0 ≤ M) (hd : 1 ≤ d) {k : List PV → Sig → Prop} (h : ∀ (ns : List Int) σ', ns.length = l.length → (∀ n ∈ ns, 0 ≤ n ∧ n ≤ M + (l.length : Int)) → GS R (M + (l.length : Int)) σ' → k (ns.map .int) σ') :
    compP (fun _ σ k => P d 3 [.c 1, .p (.int 0)] σ fun y σ' => asP y fun w => k w σ') l σ k := by
  refine compP_st PV.int (fun i σ => GS R (M + (i : Int)) σ) (fun n => 0 ≤ n ∧ n ≤ M + (l.length : Int)) l 0 (by simpa using G) (fun j x σ k hx h1 h2 hi hk => ?_) fun as σ' hl hq hI => h as σ' hl hq (by simpa using hI)
  refine g_new0 C hi hd fun v σ' v0 v1 hs => ?_
  exact hk v σ' ⟨v0, by (first | lia | omega)⟩ (by rw [show M + ((j + 1 : Nat) : Int) = M + (j : Int) + 1 by (first | lia | omega)]; exact hs)

theorem c_lam (C : Calls P) {c z : Nat} {D : Int} (N : NodeOf P c z (D - 1)) {S : List Int} (hd : c + 5 ≤ d) (G : GS R M σ) (hM : 0 ≤ M) (hMz : M + 4 * ((z + 1 : Nat) : Int) ≤ 200) (hS : In200 S) (hl : S.length + 10 * (z + 1) ≤ 1000)
    (h : ∀ l xs r t σ', xs.length ≤ 2 → TOk (z + 1) (.node (.lam l xs r) [t]) → GS R (M + 4 * ((z + 1 : Nat) : Int)) σ' → k (.p (enc (.node (.lam l xs r) [t]))) σ') :
    P d 4 [.c 0, .c 1, .p (iv S), .p (.int D)] σ k := by
  obtain ⟨d, rfl⟩ : ∃ e, d = e + 1 := ⟨d - 1, by (first | lia | omega)⟩
  have hlim : lim = 1048576 := rfl
  refine C.by' (fi := f4) rfl rfl ?_
  refine g_draw C G (by decide) (by decide) (by first | exact dn hd rfl | exact dt hd rfl | exact dc hd rfl | exact dc0 hd rfl | exact dcn hd rfl | exact ds hd rfl | exact ds0 hd | exact dn hdd rfl | exact dt hdd rfl | (first | lia | omega)) fun v σ v0 v1 G => ?_
  obtain ⟨m, rfl⟩ := Int.eq_ofNat_of_zero_le v0
  refine And.intro (by rw [hlim]; show (m : Int) ≤ 1048576; (first | lia | omega)) ?_
  refine And.intro (⟨.inl rfl, by decide, by show m ≤ lim; (first | lia | omega)⟩) ?_
  rw [rangeL_up]
  have em : ((List.range' 0 m).map fun (j : Nat) => PV.int (j : Int)).length = m := by rw [List.length_map, List.length_range']
  refine ⟨by rw [em]; (first | lia | omega), ?_⟩
  refine news C G hM (by first | exact dn hd rfl | exact dt hd rfl | exact dc hd rfl | exact dc0 hd rfl | exact dcn hd rfl | exact ds hd rfl | exact ds0 hd | exact dn hdd rfl | exact dt hdd rfl | (first | lia | omega)) fun xs σ hx hxs G => ?_
  rw [em] at hx hxs G
  refine g_draw C G (by decide) (by decide) (by first | exact dn hd rfl | exact dt hd rfl | exact dc hd rfl | exact dc0 hd rfl | exact dcn hd rfl | exact ds hd rfl | exact ds0 hd | exact dn hdd rfl | exact dt hdd rfl | (first | lia | omega)) fun v σ u0 u1 G => ?_
  have hX : In200 xs := fun x hx => by have := hxs x hx; (first | lia | omega)
  have e1 : (S.map PV.int).length = S.length := List.length_map _
  have e2 : (xs.map PV.int).length = xs.length := List.length_map _
  have fin : ∀ (r : Int) (ys : List Int) (σ : Sig) , ys = (if 0 ≤ r then [r] else []) → In200 ys → GS R (M + 3) σ → ∀ (k' : XV → Sig → Prop), (∀ l t σ', TOk (z + 1) (.node (.lam l xs r) [t]) → GS R (M + 4 * ((z + 1 : Nat) : Int)) σ' → k' (.p (enc (.node (.lam l xs r) [t]))) σ') →
      P d 3 [.c 1, .p (.int 1)] σ fun v σ' => asP v fun w => P d 5 [.c 0, .c 1, .p (iv (S ++ xs ++ ys)), .p (.int (D - 1))] σ' fun u σ'' => asP u fun y => k' (.p (.obj 6 [w, iv xs, .int r, y])) σ'' := by
    intro r ys σ hy hY G k' hk
    have hyl : ys.length ≤ 1 := by rw [hy]; split <;> simp
    refine g_new1 C G (by first | exact dn hd rfl | exact dt hd rfl | exact dc hd rfl | exact dc0 hd rfl | exact dcn hd rfl | exact ds hd rfl | exact ds0 hd | exact dn hdd rfl | exact dt hdd rfl | (first | lia | omega)) fun l σ l0 l1 G => ?_
    refine N d (M + 4) (S ++ xs ++ ys) R σ _ (by first | exact dn hd rfl | exact dt hd rfl | exact dc hd rfl | exact dc0 hd rfl | exact dcn hd rfl | exact ds hd rfl | exact ds0 hd | exact dn hdd rfl | exact dt hdd rfl | (first | lia | omega)) (G.mono (by first | exact dn hd rfl | exact dt hd rfl | exact dc hd rfl | exact dc0 hd rfl | exact dcn hd rfl | exact ds hd rfl | exact ds0 hd | exact dn hdd rfl | exact dt hdd rfl | (first | lia | omega))) (by first | exact dn hd rfl | exact dt hd rfl | exact dc hd rfl | exact dc0 hd rfl | exact dcn hd rfl | exact ds hd rfl | exact ds0 hd | exact dn hdd rfl | exact dt hdd rfl | (first | lia | omega)) ((hS.app hX).app hY) (by rw [List.length_append, List.length_append]; (first | lia | omega)) fun t σ' ht G => ?_
    refine hk l t σ' ?_ (G.mono (by first | exact dn hd rfl | exact dt hd rfl | exact dc hd rfl | exact dc0 hd rfl | exact dcn hd rfl | exact ds hd rfl | exact ds0 hd | exact dn hdd rfl | exact dt hdd rfl | (first | lia | omega)))
    refine TOk.node (z := z) (n := 1) (fun q hq => by rw [List.mem_singleton.mp hq]; exact ht) ⟨rfl, l0, by (first | lia | omega), fun x hx => (hX x hx).1⟩ ?_ (In200.one l0 (by first | exact dn hd rfl | exact dt hd rfl | exact dc hd rfl | exact dc0 hd rfl | exact dcn hd rfl | exact ds hd rfl | exact ds0 hd | exact dn hdd rfl | exact dt hdd rfl | (first | lia | omega))) (Nat.le_refl _) (by first | exact dn hd rfl | exact dt hd rfl | exact dc hd rfl | exact dc0 hd rfl | exact dcn hd rfl | exact ds hd rfl | exact ds0 hd | exact dn hdd rfl | exact dt hdd rfl | (first | lia | omega))
    rw [Hd.nums, ← hy]
    exact hX.app hY
  refine br_intro (fun q => ?_) (fun q => ?_)
  · refine g_new0 C G (by first | exact dn hd rfl | exact dt hd rfl | exact dc hd rfl | exact dc0 hd rfl | exact dcn hd rfl | exact ds hd rfl | exact ds0 hd | exact dn hdd rfl | exact dt hdd rfl | (first | lia | omega)) fun r σ r0 r1 G => ?_
    refine And.intro (by rw [e1, e2]; (first | lia | omega)) ?_
    conv => whnf
    have hr : decide (0 ≤ r) = true := decide_eq_true r0
    rw [hr]
    refine And.intro (by rw [List.length_append, e1, e2]; show _ + 1 ≤ _; (first | lia | omega)) ?_
    have e3 : S.map PV.int ++ xs.map PV.int ++ [PV.int r] = (S ++ xs ++ [r]).map PV.int := by rw [List.map_append, List.map_append]; rfl
    rw [e3]
    refine C.mono (fin r [r] σ (by rw [if_pos r0]) (In200.one r0 (by first | exact dn hd rfl | exact dt hd rfl | exact dc hd rfl | exact dc0 hd rfl | exact dcn hd rfl | exact ds hd rfl | exact ds0 hd | exact dn hdd rfl | exact dt hdd rfl | (first | lia | omega))) (G.mono (by first | exact dn hd rfl | exact dt hd rfl | exact dc hd rfl | exact dc0 hd rfl | exact dcn hd rfl | exact ds hd rfl | exact ds0 hd | exact dn hdd rfl | exact dt hdd rfl | (first | lia | omega))) k fun l t σ' => h l xs r t σ' (by first | exact dn hd rfl | exact dt hd rfl | exact dc hd rfl | exact dc0 hd rfl | exact dcn hd rfl | exact ds hd rfl | exact ds0 hd | exact dn hdd rfl | exact dt hdd rfl | (first | lia | omega))) fun v σ' hv => ?_
    cases v with
    | p w =>
      refine C.mono hv fun u σ'' hu => ?_
      cases u with
      | p y => exact ⟨⟨by decide, rfl⟩, hu⟩
      | _ => exact hu
    | _ => exact hv.elim
  · refine And.intro (by rw [e1, e2]; (first | lia | omega)) ?_
    refine And.intro (by rw [List.length_append, e1, e2]; show _ + 0 ≤ _; (first | lia | omega)) ?_
    have e3 : S.map PV.int ++ xs.map PV.int ++ [] = (S ++ xs ++ []).map PV.int := by rw [List.map_append, List.map_append]; rfl
    rw [e3]
    refine C.mono (fin (-1) [] σ (by decide) In200.nil (G.mono (by first | exact dn hd rfl | exact dt hd rfl | exact dc hd rfl | exact dc0 hd rfl | exact dcn hd rfl | exact ds hd rfl | exact ds0 hd | exact dn hdd rfl | exact dt hdd rfl | (first | lia | omega))) k fun l t σ' => h l xs (-1) t σ' (by first | exact dn hd rfl | exact dt hd rfl | exact dc hd rfl | exact dc0 hd rfl | exact dcn hd rfl | exact ds hd rfl | exact ds0 hd | exact dn hdd rfl | exact dt hdd rfl | (first | lia | omega))) fun v σ' hv => ?_
    cases v with
    | p w =>
      refine C.mono hv fun u σ'' hu => ?_
      cases u with
      | p y => exact ⟨⟨by decide, rfl⟩, hu⟩
      | _ => exact hu
    | _ => exact hv.elim
end
end Mine
end
section
open PySem PySem.W PyProof.Rows Builtin Builtin.ObjectAttr
set_option Elab.async false
set_option maxRecDepth 100000
namespace Mine

theorem szs_append : ∀ a b : List T, szs (a ++ b) = szs a + szs b
  | [], _ => by simp [szs]
  | p :: r, b => by rw [List.cons_append, szs, szs, szs_append r b, Nat.add_assoc]
theorem TOk.node' {y : Nat} {h : Hd} {ps : List T} (hp : ∀ t ∈ ps, t.wf ∧ TB t) (ok : h.ok ps.length) (hn : In200 h.nums) (hl : In200 h.lab) (hz : 1 + szs ps ≤ y) : TOk y (.node h ps) := by
  refine ⟨by rw [T.wf]; exact ⟨ok, wfs_of fun t ht => (hp t ht).1⟩, by rw [T.sz]; (first | lia | omega), ?_⟩
  exact ⟨by rw [nums]; exact hn.app (numss_in fun t ht => (hp t ht).2), by rw [labs]; exact hl.app (labss_in fun t ht => (hp t ht).2)⟩
theorem TOk.wt {z : Nat} {t : T} (h : TOk z t) : t.wf ∧ TB t := ⟨h.1, h.2.2⟩
section
variable {P : Nat → CP} {σ R : Sig} {d : Nat} {M : Int} {k : XV → Sig → Prop}

theorem some_nodes (C : Calls P) {c z : Nat} {D : Int} (N : NodeOf P c z D) {S : List Int} {l : List PV} (hd : c ≤ d) (G : GS R M σ) (hM : M + (l.length : Int) * (4 * (z : Int)) ≤ 200) (hS : In200 S) (hl : S.length + 10 * z ≤ 1000)
    {k : List PV → Sig → Prop} (h : ∀ (ts : List T) σ', ts.length = l.length → (∀ t ∈ ts, TOk z t) → GS R (M + (l.length : Int) * (4 * (z : Int))) σ' → k (ts.map enc) σ') :
    compP (fun _ σ k => P d 5 [.c 0, .c 1, .p (iv S), .p (.int D)] σ fun y σ' => asP y fun w => k w σ') l σ k := by
  refine compP_st enc (fun i σ => GS R (M + (i : Int) * (4 * (z : Int))) σ) (TOk z) l 0 (by simpa using G) (fun j x σ k hx h1 h2 hi hk => ?_) fun as σ' hl hq hI => h as σ' hl hq (by simpa using hI)
  have hj : ((j : Int) + 1) * (4 * (z : Int)) ≤ (l.length : Int) * (4 * (z : Int)) := Int.mul_le_mul_of_nonneg_right (by first | exact dn hd rfl | exact dt hd rfl | exact dc hd rfl | exact dc0 hd rfl | exact dcn hd rfl | exact ds hd rfl | exact ds0 hd | exact dn hdd rfl | exact dt hdd rfl | (first | lia | omega)) (by first | exact dn hd rfl | exact dt hd rfl | exact dc hd rfl | exact dc0 hd rfl | exact dcn hd rfl | exact ds hd rfl | exact ds0 hd | exact dn hdd rfl | exact dt hdd rfl | (first | lia | omega))
  rw [Int.add_mul, Int.one_mul] at hj
  refine N d _ S R σ _ hd hi (by first | exact dn hd rfl | exact dt hd rfl | exact dc hd rfl | exact dc0 hd rfl | exact dcn hd rfl | exact ds hd rfl | exact ds0 hd | exact dn hdd rfl | exact dt hdd rfl | (first | lia | omega)) hS hl fun t σ' ht hs => ?_
  refine hk t σ' ht ?_
  rw [show ((j + 1 : Nat) : Int) = (j : Int) + 1 by (first | lia | omega), Int.add_mul, Int.one_mul, ← Int.add_assoc]
  exact hs

theorem some_lams (C : Calls P) {c z : Nat} {D : Int} (N : NodeOf P c z (D - 1)) {S : List Int} {l : List PV} (hd : c + 5 ≤ d) (G : GS R M σ) (hM0 : 0 ≤ M) (hll : l.length ≤ 2) (hM : M + 8 * ((z + 1 : Nat) : Int) ≤ 200) (hS : In200 S) (hl : S.length + 10 * (z + 1) ≤ 1000)
    {body : PV → Sig → (PV → Sig → Prop) → Prop} (hb : ∀ x σ (k : PV → Sig → Prop), P d 4 [.c 0, .c 1, .p (iv S), .p (.int D)] σ (fun y σ' => asP y fun w => k w σ') → body x σ k)
    {k : List PV → Sig → Prop} (h : ∀ (ts : List T) σ', ts.length = l.length → (∀ t ∈ ts, TOk (z + 1) t) → GS R (M + 8 * ((z + 1 : Nat) : Int)) σ' → k (ts.map enc) σ') :
    compP body l σ k := by
  have hl2 : (l.length : Int) * (4 * ((z + 1 : Nat) : Int)) ≤ 2 * (4 * ((z + 1 : Nat) : Int)) := Int.mul_le_mul_of_nonneg_right (by first | exact dn hd rfl | exact dt hd rfl | exact dc hd rfl | exact dc0 hd rfl | exact dcn hd rfl | exact ds hd rfl | exact ds0 hd | exact dn hdd rfl | exact dt hdd rfl | (first | lia | omega)) (by first | exact dn hd rfl | exact dt hd rfl | exact dc hd rfl | exact dc0 hd rfl | exact dcn hd rfl | exact ds hd rfl | exact ds0 hd | exact dn hdd rfl | exact dt hdd rfl | (first | lia | omega))
  refine compP_st enc (fun i σ => GS R (M + (i : Int) * (4 * ((z + 1 : Nat) : Int))) σ) (TOk (z + 1)) l 0 (by simpa using G) (fun j x σ k hx h1 h2 hi hk => hb x σ k ?_) fun as σ' hl hq hI => h as σ' hl hq (by
    rw [Nat.zero_add] at hI
    exact hI.mono (by first | exact dn hd rfl | exact dt hd rfl | exact dc hd rfl | exact dc0 hd rfl | exact dcn hd rfl | exact ds hd rfl | exact ds0 hd | exact dn hdd rfl | exact dt hdd rfl | (first | lia | omega)))
  have hj : (j : Int) * (4 * ((z + 1 : Nat) : Int)) ≤ 1 * (4 * ((z + 1 : Nat) : Int)) := Int.mul_le_mul_of_nonneg_right (by first | exact dn hd rfl | exact dt hd rfl | exact dc hd rfl | exact dc0 hd rfl | exact dcn hd rfl | exact ds hd rfl | exact ds0 hd | exact dn hdd rfl | exact dt hdd rfl | (first | lia | omega)) (by first | exact dn hd rfl | exact dt hd rfl | exact dc hd rfl | exact dc0 hd rfl | exact dcn hd rfl | exact ds hd rfl | exact ds0 hd | exact dn hdd rfl | exact dt hdd rfl | (first | lia | omega))
  have hj0 : 0 ≤ (j : Int) * (4 * ((z + 1 : Nat) : Int)) := Int.mul_nonneg (by first | exact dn hd rfl | exact dt hd rfl | exact dc hd rfl | exact dc0 hd rfl | exact dcn hd rfl | exact ds hd rfl | exact ds0 hd | exact dn hdd rfl | exact dt hdd rfl | (first | lia | omega)) (by first | exact dn hd rfl | exact dt hd rfl | exact dc hd rfl | exact dc0 hd rfl | exact dcn hd rfl | exact ds hd rfl | exact ds0 hd | exact dn hdd rfl | exact dt hdd rfl | (first | lia | omega))
  refine c_lam C N hd hi (by first | exact dn hd rfl | exact dt hd rfl | exact dc hd rfl | exact dc0 hd rfl | exact dcn hd rfl | exact ds hd rfl | exact ds0 hd | exact dn hdd rfl | exact dt hdd rfl | (first | lia | omega)) (by first | exact dn hd rfl | exact dt hd rfl | exact dc hd rfl | exact dc0 hd rfl | exact dcn hd rfl | exact ds hd rfl | exact ds0 hd | exact dn hdd rfl | exact dt hdd rfl | (first | lia | omega)) hS hl fun _ _ _ t σ' _ ht hs => ?_
  refine hk _ σ' ht ?_
  rw [show ((j + 1 : Nat) : Int) = (j : Int) + 1 by (first | lia | omega), Int.add_mul, Int.one_mul, ← Int.add_assoc]
  exact hs

theorem node_leaf (C : Calls P) {D : Int} (hD : D ≤ 0) : NodeOf P 5 1 D := by
  intro d M S R σ k hd G hM hS hl h
  obtain ⟨d, rfl⟩ : ∃ e, d = e + 1 := ⟨d - 1, by (first | lia | omega)⟩
  have hlim : lim = 1048576 := rfl
  have fin : ∀ (t : T) σ', TOk 1 t → GS R M σ' → k (.p (enc t)) σ' := fun t σ' ht hs => h t σ' ht (hs.mono (by first | exact dn hd rfl | exact dt hd rfl | exact dc hd rfl | exact dc0 hd rfl | exact dcn hd rfl | exact ds hd rfl | exact ds0 hd | exact dn hdd rfl | exact dt hdd rfl | (first | lia | omega)))
  have const : ∀ σ, GS R M σ → P d 0 [.c 0, .p (.int 9)] σ fun v σ₁ => asP v fun x => k (.p (.obj 0 [x])) σ₁ := fun σ G =>
    g_draw C G (by decide) (by decide) (by first | exact dn hd rfl | exact dt hd rfl | exact dc hd rfl | exact dc0 hd rfl | exact dcn hd rfl | exact ds hd rfl | exact ds0 hd | exact dn hdd rfl | exact dt hdd rfl | (first | lia | omega)) fun v σ v0 v1 G => fin (.node (.const v) []) σ (.node' (by simp) rfl .nil .nil (by decide)) G
  refine C.by' (fi := f5) rfl rfl ?_
  have q : decide (0 < D) = false := decide_eq_false (by first | exact dn hd rfl | exact dt hd rfl | exact dc hd rfl | exact dc0 hd rfl | exact dcn hd rfl | exact ds hd rfl | exact ds0 hd | exact dn hdd rfl | exact dt hdd rfl | (first | lia | omega))
  conv => whnf
  rw [q]
  refine g_draw C G (by decide) (by decide) (by first | exact dn hd rfl | exact dt hd rfl | exact dc hd rfl | exact dc0 hd rfl | exact dcn hd rfl | exact ds hd rfl | exact ds0 hd | exact dn hdd rfl | exact dt hdd rfl | (first | lia | omega)) fun v σ v0 v1 G => ?_
  rcases (by (first | lia | omega) : v = 0 ∨ v = 1 ∨ v = 2) with rfl | rfl | rfl
  · conv => whnf
    refine C.mono (const _ G) fun v σ' hv => ?_
    cases v with
    | p w => exact ⟨⟨by decide, rfl⟩, hv⟩
    | _ => exact hv.elim
  · refine br_intro (fun e => ?_) (fun e => ?_)
    · conv => whnf
      refine C.mono (const _ G) fun v σ' hv => ?_
      cases v with
      | p w => exact ⟨⟨by decide, rfl⟩, hv⟩
      | _ => exact hv.elim
    · refine g_one C G (by rintro rfl; simp at e) (by first | exact dn hd rfl | exact dt hd rfl | exact dc hd rfl | exact dc0 hd rfl | exact dcn hd rfl | exact ds hd rfl | exact ds0 hd | exact dn hdd rfl | exact dt hdd rfl | (first | lia | omega)) (by first | exact dn hd rfl | exact dt hd rfl | exact dc hd rfl | exact dc0 hd rfl | exact dcn hd rfl | exact ds hd rfl | exact ds0 hd | exact dn hdd rfl | exact dt hdd rfl | (first | lia | omega)) fun v σ hv G => ?_
      refine And.intro (⟨by decide, rfl⟩) ?_
      exact fin (.node (.loc v) []) σ (.node' (by simp) ⟨rfl, (hS v hv).1⟩ (In200.one (hS v hv).1 (hS v hv).2) .nil (by decide)) G
  · refine g_draw C G (by decide) (by decide) (by first | exact dn hd rfl | exact dt hd rfl | exact dc hd rfl | exact dc0 hd rfl | exact dcn hd rfl | exact ds hd rfl | exact ds0 hd | exact dn hdd rfl | exact dt hdd rfl | (first | lia | omega)) fun v σ v0 v1 G => ?_
    refine And.intro (⟨by decide, rfl⟩) ?_
    exact fin (.node (.glob v) []) σ (.node' (by simp) rfl .nil .nil (by decide)) G

theorem exists_cons {α : Type} {l : List α} {n : Nat} (h : l.length = n) (hn : 1 ≤ n) : ∃ a r, l = a :: r := by
  cases l with
  | nil => simp at h; (first | lia | omega)
  | cons a r => exact ⟨a, r, rfl⟩

theorem node_step (C : Calls P) {c z : Nat} {D : Int} (hD : 0 < D) (hz : 1 ≤ z) (hc : 5 ≤ c) (N1 : NodeOf P c z (D - 1)) (N2 : NodeOf P c z (D - 1 - 1)) : NodeOf P (c + 10) (3 * z + 3) D := by
  intro d M S R σ k hd G hM hS hl h
  obtain ⟨d, rfl⟩ : ∃ e, d = e + 1 := ⟨d - 1, by (first | lia | omega)⟩
  have hlim : lim = 1048576 := rfl
  have hM0 : 0 ≤ M := by obtain ⟨_, _, _, _, _, a, b, _, _⟩ := G; (first | lia | omega)
  have fin : ∀ (t : T) (M' : Int) σ', M' ≤ M + 4 * ((3 * z + 3 : Nat) : Int) → TOk (3 * z + 3) t → GS R M' σ' → k (.p (enc t)) σ' := fun t M' σ' hm ht hs => h t σ' ht (hs.mono hm)
  have const : ∀ σ, GS R M σ → P d 0 [.c 0, .p (.int 9)] σ fun v σ₁ => asP v fun x => k (.p (.obj 0 [x])) σ₁ := fun σ G =>
    g_draw C G (by decide) (by decide) (by first | exact dn hd rfl | exact dt hd rfl | exact dc hd rfl | exact dc0 hd rfl | exact dcn hd rfl | exact ds hd rfl | exact ds0 hd | exact dn hdd rfl | exact dt hdd rfl | (first | lia | omega)) fun v σ v0 v1 G => fin (.node (.const v) []) M σ (by first | exact dn hd rfl | exact dt hd rfl | exact dc hd rfl | exact dc0 hd rfl | exact dcn hd rfl | exact ds hd rfl | exact ds0 hd | exact dn hdd rfl | exact dt hdd rfl | (first | lia | omega)) (.node' (by simp) rfl .nil .nil (by rw [szs]; (first | lia | omega))) G
  have setg : ∀ σ, GS R M σ → P d 0 [.c 0, .p (.int 4)] σ fun v σ₁ => P d 5 [.c 0, .c 1, .p (iv S), .p (.int (D - 1))] σ₁ fun u σ₂ => asP v fun x => asP u fun y => k (.p (.obj 4 [x, y])) σ₂ := fun σ G =>
    g_draw C G (by decide) (by decide) (by first | exact dn hd rfl | exact dt hd rfl | exact dc hd rfl | exact dc0 hd rfl | exact dcn hd rfl | exact ds hd rfl | exact ds0 hd | exact dn hdd rfl | exact dt hdd rfl | (first | lia | omega)) fun v σ v0 v1 G => N1 d M S R σ _ (by first | exact dn hd rfl | exact dt hd rfl | exact dc hd rfl | exact dc0 hd rfl | exact dcn hd rfl | exact ds hd rfl | exact ds0 hd | exact dn hdd rfl | exact dt hdd rfl | (first | lia | omega)) G (by first | exact dn hd rfl | exact dt hd rfl | exact dc hd rfl | exact dc0 hd rfl | exact dcn hd rfl | exact ds hd rfl | exact ds0 hd | exact dn hdd rfl | exact dt hdd rfl | (first | lia | omega)) hS (by first | exact dn hd rfl | exact dt hd rfl | exact dc hd rfl | exact dc0 hd rfl | exact dcn hd rfl | exact ds hd rfl | exact ds0 hd | exact dn hdd rfl | exact dt hdd rfl | (first | lia | omega)) fun t σ ht G =>
      fin (.node (.setg v) [t]) _ σ (by first | exact dn hd rfl | exact dt hd rfl | exact dc hd rfl | exact dc0 hd rfl | exact dcn hd rfl | exact ds hd rfl | exact ds0 hd | exact dn hdd rfl | exact dt hdd rfl | (first | lia | omega)) (.node' (fun x hx => by rw [List.mem_singleton.mp hx]; exact ht.wt) rfl .nil .nil (by have := ht.2.1; rw [szs, szs]; (first | lia | omega))) G
  refine C.by' (fi := f5) rfl rfl ?_
  have q : decide (0 < D) = true := decide_eq_true hD
  conv => whnf
  rw [q]
  refine g_draw C G (by decide) (by decide) (by first | exact dn hd rfl | exact dt hd rfl | exact dc hd rfl | exact dc0 hd rfl | exact dcn hd rfl | exact ds hd rfl | exact ds0 hd | exact dn hdd rfl | exact dt hdd rfl | (first | lia | omega)) fun v σ v0 v1 G => ?_
  have e1 : (S.map PV.int).length = S.length := List.length_map _
  have parts : ∀ (k : List PV → Sig → Prop), (∀ (t : T) (ts : List T) σ', ts.length ≤ 2 → TOk z t → (∀ u ∈ ts, TOk z u) → GS R (M + 12 * (z : Int)) σ' → k (enc t :: ts.map enc) σ') →
      P d 0 [.c 0, .p (.int 3)] σ fun v σ₁ => asP v fun x => binP .add (.int 1) x fun v => asI v fun n => n ≤ lim ∧ items (.p (.rng 0 n 1)) fun xs => xs.length ≤ lim ∧ compP (fun _ σ k => P d 5 [.c 0, .c 1, .p (iv S), .p (.int (D - 1))] σ fun y σ' => asP y fun w => k w σ') xs σ₁ k := by
    intro k hk
    refine g_draw C G (by decide) (by decide) (by first | exact dn hd rfl | exact dt hd rfl | exact dc hd rfl | exact dc0 hd rfl | exact dcn hd rfl | exact ds hd rfl | exact ds0 hd | exact dn hdd rfl | exact dt hdd rfl | (first | lia | omega)) fun v σ v0 v1 G => ?_
    obtain ⟨m, hm⟩ : ∃ m : Nat, 1 + v = m := ⟨(1 + v).toNat, by (first | lia | omega)⟩
    conv => whnf
    rw [hm]
    refine ⟨by rw [hlim]; show (m : Int) ≤ 1048576; (first | lia | omega), ?_⟩
    refine And.intro (⟨.inl rfl, by decide, by show m ≤ lim; (first | lia | omega)⟩) ?_
    rw [rangeL_up]
    have em : ((List.range' 0 m).map fun (j : Nat) => PV.int (j : Int)).length = m := by rw [List.length_map, List.length_range']
    refine ⟨by rw [em]; (first | lia | omega), ?_⟩
    have hj : (m : Int) * (4 * (z : Int)) ≤ 3 * (4 * (z : Int)) := Int.mul_le_mul_of_nonneg_right (by first | exact dn hd rfl | exact dt hd rfl | exact dc hd rfl | exact dc0 hd rfl | exact dcn hd rfl | exact ds hd rfl | exact ds0 hd | exact dn hdd rfl | exact dt hdd rfl | (first | lia | omega)) (by first | exact dn hd rfl | exact dt hd rfl | exact dc hd rfl | exact dc0 hd rfl | exact dcn hd rfl | exact ds hd rfl | exact ds0 hd | exact dn hdd rfl | exact dt hdd rfl | (first | lia | omega))
    refine some_nodes C N1 (by first | exact dn hd rfl | exact dt hd rfl | exact dc hd rfl | exact dc0 hd rfl | exact dcn hd rfl | exact ds hd rfl | exact ds0 hd | exact dn hdd rfl | exact dt hdd rfl | (first | lia | omega)) G (by rw [em]; (first | lia | omega)) hS (by first | exact dn hd rfl | exact dt hd rfl | exact dc hd rfl | exact dc0 hd rfl | exact dcn hd rfl | exact ds hd rfl | exact ds0 hd | exact dn hdd rfl | exact dt hdd rfl | (first | lia | omega)) fun ts σ ht hts G => ?_
    rw [em] at ht G
    obtain ⟨t, r, rfl⟩ := exists_cons ht (by first | exact dn hd rfl | exact dt hd rfl | exact dc hd rfl | exact dc0 hd rfl | exact dcn hd rfl | exact ds hd rfl | exact ds0 hd | exact dn hdd rfl | exact dt hdd rfl | (first | lia | omega))
    rw [List.length_cons] at ht
    exact hk t r σ (by first | exact dn hd rfl | exact dt hd rfl | exact dc hd rfl | exact dc0 hd rfl | exact dcn hd rfl | exact ds hd rfl | exact ds0 hd | exact dn hdd rfl | exact dt hdd rfl | (first | lia | omega)) (hts t (.head _)) (fun u hu => hts u (.tail _ hu)) (G.mono (by first | exact dn hd rfl | exact dt hd rfl | exact dc hd rfl | exact dc0 hd rfl | exact dcn hd rfl | exact ds hd rfl | exact ds0 hd | exact dn hdd rfl | exact dt hdd rfl | (first | lia | omega)))
  have sz3 : ∀ (t : T) (ts : List T), ts.length ≤ 2 → TOk z t → (∀ u ∈ ts, TOk z u) → szs (t :: ts) ≤ 3 * z := fun t ts hl ht hts => by
    have := szs_le fun u hu => (hts u hu).2.1
    have := Nat.mul_le_mul_right z hl
    have := ht.2.1
    rw [szs]; (first | lia | omega)
  have wt3 : ∀ (t : T) (ts : List T), TOk z t → (∀ u ∈ ts, TOk z u) → ∀ u ∈ t :: ts, u.wf ∧ TB u := fun t ts ht hts u hu => by
    rcases List.mem_cons.mp hu with rfl | hu
    · exact ht.wt
    · exact (hts u hu).wt
  rcases (by (first | lia | omega) : v = 0 ∨ v = 1 ∨ v = 2 ∨ v = 3 ∨ v = 4 ∨ v = 5 ∨ v = 6 ∨ v = 7 ∨ v = 8 ∨ v = 9 ∨ v = 10 ∨ v = 11) with rfl | rfl | rfl | rfl | rfl | rfl | rfl | rfl | rfl | rfl | rfl | rfl
  · conv => whnf
    refine C.mono (const _ G) fun v σ' hv => ?_
    cases v with
    | p w => exact ⟨⟨by decide, rfl⟩, hv⟩
    | _ => exact hv.elim
  · refine br_intro (fun e => ?_) (fun e => ?_)
    · conv => whnf
      refine C.mono (const _ G) fun v σ' hv => ?_
      cases v with
      | p w => exact ⟨⟨by decide, rfl⟩, hv⟩
      | _ => exact hv.elim
    · refine g_one C G (by rintro rfl; simp at e) (by first | exact dn hd rfl | exact dt hd rfl | exact dc hd rfl | exact dc0 hd rfl | exact dcn hd rfl | exact ds hd rfl | exact ds0 hd | exact dn hdd rfl | exact dt hdd rfl | (first | lia | omega)) (by first | exact dn hd rfl | exact dt hd rfl | exact dc hd rfl | exact dc0 hd rfl | exact dcn hd rfl | exact ds hd rfl | exact ds0 hd | exact dn hdd rfl | exact dt hdd rfl | (first | lia | omega)) fun v σ hv G => ?_
      refine And.intro (⟨by decide, rfl⟩) ?_
      exact fin (.node (.loc v) []) M σ (by first | exact dn hd rfl | exact dt hd rfl | exact dc hd rfl | exact dc0 hd rfl | exact dcn hd rfl | exact ds hd rfl | exact ds0 hd | exact dn hdd rfl | exact dt hdd rfl | (first | lia | omega)) (.node' (by simp) ⟨rfl, (hS v hv).1⟩ (In200.one (hS v hv).1 (hS v hv).2) .nil (by rw [szs]; (first | lia | omega))) G
  · refine g_draw C G (by decide) (by decide) (by first | exact dn hd rfl | exact dt hd rfl | exact dc hd rfl | exact dc0 hd rfl | exact dcn hd rfl | exact ds hd rfl | exact ds0 hd | exact dn hdd rfl | exact dt hdd rfl | (first | lia | omega)) fun v σ v0 v1 G => ?_
    refine And.intro (⟨by decide, rfl⟩) ?_
    exact fin (.node (.glob v) []) M σ (by first | exact dn hd rfl | exact dt hd rfl | exact dc hd rfl | exact dc0 hd rfl | exact dcn hd rfl | exact ds hd rfl | exact ds0 hd | exact dn hdd rfl | exact dt hdd rfl | (first | lia | omega)) (.node' (by simp) rfl .nil .nil (by rw [szs]; (first | lia | omega))) G
  · refine c_lam C N1 (by first | exact dn hd rfl | exact dt hd rfl | exact dc hd rfl | exact dc0 hd rfl | exact dcn hd rfl | exact ds hd rfl | exact ds0 hd | exact dn hdd rfl | exact dt hdd rfl | (first | lia | omega)) G hM0 (by first | exact dn hd rfl | exact dt hd rfl | exact dc hd rfl | exact dc0 hd rfl | exact dcn hd rfl | exact ds hd rfl | exact ds0 hd | exact dn hdd rfl | exact dt hdd rfl | (first | lia | omega)) hS (by first | exact dn hd rfl | exact dt hd rfl | exact dc hd rfl | exact dc0 hd rfl | exact dcn hd rfl | exact ds hd rfl | exact ds0 hd | exact dn hdd rfl | exact dt hdd rfl | (first | lia | omega)) fun l xs r t σ hx ht G => ?_
    exact fin _ _ σ (by first | exact dn hd rfl | exact dt hd rfl | exact dc hd rfl | exact dc0 hd rfl | exact dcn hd rfl | exact ds hd rfl | exact ds0 hd | exact dn hdd rfl | exact dt hdd rfl | (first | lia | omega)) (ht.mono (by first | exact dn hd rfl | exact dt hd rfl | exact dc hd rfl | exact dc0 hd rfl | exact dcn hd rfl | exact ds hd rfl | exact ds0 hd | exact dn hdd rfl | exact dt hdd rfl | (first | lia | omega))) G
  · refine g_draw C G (by decide) (by decide) (by first | exact dn hd rfl | exact dt hd rfl | exact dc hd rfl | exact dc0 hd rfl | exact dcn hd rfl | exact ds hd rfl | exact ds0 hd | exact dn hdd rfl | exact dt hdd rfl | (first | lia | omega)) fun v σ v0 v1 G => ?_
    obtain ⟨m, hm⟩ : ∃ m : Nat, 1 + v = m := ⟨(1 + v).toNat, by (first | lia | omega)⟩
    conv => whnf
    rw [hm]
    refine ⟨by rw [hlim]; show (m : Int) ≤ 1048576; (first | lia | omega), ?_⟩
    refine And.intro (⟨.inl rfl, by decide, by show m ≤ lim; (first | lia | omega)⟩) ?_
    rw [rangeL_up]
    have em : ((List.range' 0 m).map fun (j : Nat) => PV.int (j : Int)).length = m := by rw [List.length_map, List.length_range']
    refine ⟨by rw [em]; (first | lia | omega), ?_⟩
    refine news C G hM0 (by first | exact dn hd rfl | exact dt hd rfl | exact dc hd rfl | exact dc0 hd rfl | exact dcn hd rfl | exact ds hd rfl | exact ds0 hd | exact dn hdd rfl | exact dt hdd rfl | (first | lia | omega)) fun xs σ hx hxs G => ?_
    rw [em] at hx hxs G
    have hX : In200 xs := fun x hx => by have := hxs x hx; (first | lia | omega)
    have e2 : (xs.map PV.int).length = xs.length := List.length_map _
    have e3 : S.map PV.int ++ xs.map PV.int = (S ++ xs).map PV.int := (List.map_append).symm
    refine And.intro (by rw [e2]; (first | lia | omega)) ?_
    have hle : (S.map PV.int).length + (xs.map PV.int).length ≤ lim := by rw [e1, e2]; (first | lia | omega)
    refine some_lams (d := d) C N2 (by first | exact dn hd rfl | exact dt hd rfl | exact dc hd rfl | exact dc0 hd rfl | exact dcn hd rfl | exact ds hd rfl | exact ds0 hd | exact dn hdd rfl | exact dt hdd rfl | (first | lia | omega)) (G.mono (N := M + 2) (by first | exact dn hd rfl | exact dt hd rfl | exact dc hd rfl | exact dc0 hd rfl | exact dcn hd rfl | exact ds hd rfl | exact ds0 hd | exact dn hdd rfl | exact dt hdd rfl | (first | lia | omega))) (by first | exact dn hd rfl | exact dt hd rfl | exact dc hd rfl | exact dc0 hd rfl | exact dcn hd rfl | exact ds hd rfl | exact ds0 hd | exact dn hdd rfl | exact dt hdd rfl | (first | lia | omega)) (by rw [e2]; (first | lia | omega)) (by first | exact dn hd rfl | exact dt hd rfl | exact dc hd rfl | exact dc0 hd rfl | exact dcn hd rfl | exact ds hd rfl | exact ds0 hd | exact dn hdd rfl | exact dt hdd rfl | (first | lia | omega)) (hS.app hX) (by rw [List.length_append]; (first | lia | omega)) (fun x σ k hk => by
      refine And.intro (hle) ?_
      rw [e3]
      exact hk) fun ls σ hls hlt G => ?_
    refine And.intro (hle) ?_
    rw [e3]
    refine N1 d _ (S ++ xs) R σ _ (by first | exact dn hd rfl | exact dt hd rfl | exact dc hd rfl | exact dc0 hd rfl | exact dcn hd rfl | exact ds hd rfl | exact ds0 hd | exact dn hdd rfl | exact dt hdd rfl | (first | lia | omega)) G (by first | exact dn hd rfl | exact dt hd rfl | exact dc hd rfl | exact dc0 hd rfl | exact dcn hd rfl | exact ds hd rfl | exact ds0 hd | exact dn hdd rfl | exact dt hdd rfl | (first | lia | omega)) (hS.app hX) (by rw [List.length_append]; (first | lia | omega)) fun b σ hb G => ?_
    refine And.intro (⟨by decide, rfl⟩) ?_
    rw [e2] at hls
    have := fin (.node (.fix xs) (ls ++ [b])) _ σ (by first | exact dn hd rfl | exact dt hd rfl | exact dc hd rfl | exact dc0 hd rfl | exact dcn hd rfl | exact ds hd rfl | exact ds0 hd | exact dn hdd rfl | exact dt hdd rfl | (first | lia | omega)) (.node' (fun t ht => by
      rcases List.mem_append.mp ht with ht | ht
      · exact (hlt t ht).wt
      · rw [List.mem_singleton.mp ht]; exact hb.wt) ⟨by rw [List.length_append, List.length_singleton]; (first | lia | omega), by (first | lia | omega), fun x hx => (hX x hx).1⟩ hX .nil (by
        have a1 := szs_le fun t ht => (hlt t ht).2.1
        have a2 : ls.length * (z + 1) ≤ 2 * (z + 1) := Nat.mul_le_mul_right _ (by first | exact dn hd rfl | exact dt hd rfl | exact dc hd rfl | exact dc0 hd rfl | exact dcn hd rfl | exact ds hd rfl | exact ds0 hd | exact dn hdd rfl | exact dt hdd rfl | (first | lia | omega))
        have a3 := hb.2.1
        rw [szs_append, szs, szs]; (first | lia | omega))) G
    rw [enc_fix, encs_map] at this
    exact this
  · refine br_intro (fun e => ?_) (fun e => ?_)
    · refine g_one C G (by rintro rfl; simp at e) (by first | exact dn hd rfl | exact dt hd rfl | exact dc hd rfl | exact dc0 hd rfl | exact dcn hd rfl | exact ds hd rfl | exact ds0 hd | exact dn hdd rfl | exact dt hdd rfl | (first | lia | omega)) (by first | exact dn hd rfl | exact dt hd rfl | exact dc hd rfl | exact dc0 hd rfl | exact dcn hd rfl | exact ds hd rfl | exact ds0 hd | exact dn hdd rfl | exact dt hdd rfl | (first | lia | omega)) fun v σ hv G => ?_
      conv => whnf
      refine N1 d _ S R σ _ (by first | exact dn hd rfl | exact dt hd rfl | exact dc hd rfl | exact dc0 hd rfl | exact dcn hd rfl | exact ds hd rfl | exact ds0 hd | exact dn hdd rfl | exact dt hdd rfl | (first | lia | omega)) G (by first | exact dn hd rfl | exact dt hd rfl | exact dc hd rfl | exact dc0 hd rfl | exact dcn hd rfl | exact ds hd rfl | exact ds0 hd | exact dn hdd rfl | exact dt hdd rfl | (first | lia | omega)) hS (by first | exact dn hd rfl | exact dt hd rfl | exact dc hd rfl | exact dc0 hd rfl | exact dcn hd rfl | exact ds hd rfl | exact ds0 hd | exact dn hdd rfl | exact dt hdd rfl | (first | lia | omega)) fun t σ ht G => ?_
      refine And.intro (⟨by decide, rfl⟩) ?_
      exact fin (.node (.setl v) [t]) _ σ (by first | exact dn hd rfl | exact dt hd rfl | exact dc hd rfl | exact dc0 hd rfl | exact dcn hd rfl | exact ds hd rfl | exact ds0 hd | exact dn hdd rfl | exact dt hdd rfl | (first | lia | omega)) (.node' (fun x hx => by rw [List.mem_singleton.mp hx]; exact ht.wt) ⟨rfl, (hS v hv).1⟩ (In200.one (hS v hv).1 (hS v hv).2) .nil (by have := ht.2.1; rw [szs, szs]; (first | lia | omega))) G
    · conv => whnf
      refine C.mono (setg _ G) fun v σ' hv => C.mono hv fun u σ'' hu => ?_
      cases v with
      | p x =>
        cases u with
        | p y => exact ⟨⟨by decide, rfl⟩, hu⟩
        | _ => exact hu
      | _ => exact hu
  · conv => whnf
    refine C.mono (setg _ G) fun v σ' hv => C.mono hv fun u σ'' hu => ?_
    cases v with
    | p x =>
      cases u with
      | p y => exact ⟨⟨by decide, rfl⟩, hu⟩
      | _ => exact hu
    | _ => exact hu
  · refine c_lam C N1 (by first | exact dn hd rfl | exact dt hd rfl | exact dc hd rfl | exact dc0 hd rfl | exact dcn hd rfl | exact ds hd rfl | exact ds0 hd | exact dn hdd rfl | exact dt hdd rfl | (first | lia | omega)) G hM0 (by first | exact dn hd rfl | exact dt hd rfl | exact dc hd rfl | exact dc0 hd rfl | exact dcn hd rfl | exact ds hd rfl | exact ds0 hd | exact dn hdd rfl | exact dt hdd rfl | (first | lia | omega)) hS (by first | exact dn hd rfl | exact dt hd rfl | exact dc hd rfl | exact dc0 hd rfl | exact dcn hd rfl | exact ds hd rfl | exact ds0 hd | exact dn hdd rfl | exact dt hdd rfl | (first | lia | omega)) fun l xs r t σ hx ht G => ?_
    have e2 : (xs.map PV.int).length = xs.length := List.length_map _
    refine And.intro (by rw [e2]; (first | lia | omega)) ?_
    have hj : (xs.length : Int) * (4 * (z : Int)) ≤ 2 * (4 * (z : Int)) := Int.mul_le_mul_of_nonneg_right (by first | exact dn hd rfl | exact dt hd rfl | exact dc hd rfl | exact dc0 hd rfl | exact dcn hd rfl | exact ds hd rfl | exact ds0 hd | exact dn hdd rfl | exact dt hdd rfl | (first | lia | omega)) (by first | exact dn hd rfl | exact dt hd rfl | exact dc hd rfl | exact dc0 hd rfl | exact dcn hd rfl | exact ds hd rfl | exact ds0 hd | exact dn hdd rfl | exact dt hdd rfl | (first | lia | omega))
    refine some_nodes C N1 (by first | exact dn hd rfl | exact dt hd rfl | exact dc hd rfl | exact dc0 hd rfl | exact dcn hd rfl | exact ds hd rfl | exact ds0 hd | exact dn hdd rfl | exact dt hdd rfl | (first | lia | omega)) G (by rw [e2]; (first | lia | omega)) hS (by first | exact dn hd rfl | exact dt hd rfl | exact dc hd rfl | exact dc0 hd rfl | exact dcn hd rfl | exact ds hd rfl | exact ds0 hd | exact dn hdd rfl | exact dt hdd rfl | (first | lia | omega)) fun ts σ hts htt G => ?_
    rw [e2] at hts G
    refine And.intro (⟨by decide, rfl⟩) ?_
    have := fin (.node .call (.node (.lam l xs r) [t] :: ts)) _ σ (by first | exact dn hd rfl | exact dt hd rfl | exact dc hd rfl | exact dc0 hd rfl | exact dcn hd rfl | exact ds hd rfl | exact ds0 hd | exact dn hdd rfl | exact dt hdd rfl | (first | lia | omega)) (.node' (fun u hu => by
      rcases List.mem_cons.mp hu with rfl | hu
      · exact ht.wt
      · exact (htt u hu).wt) (by rw [List.length_cons]; exact Nat.le_add_left _ _) .nil .nil (by
        have a1 := szs_le fun u hu => (htt u hu).2.1
        have a2 : ts.length * z ≤ 2 * z := Nat.mul_le_mul_right _ (by first | exact dn hd rfl | exact dt hd rfl | exact dc hd rfl | exact dc0 hd rfl | exact dcn hd rfl | exact ds hd rfl | exact ds0 hd | exact dn hdd rfl | exact dt hdd rfl | (first | lia | omega))
        have a3 := ht.2.1
        rw [szs]; (first | lia | omega))) G
    rw [← encs_map]
    exact this
  · conv => whnf
    refine parts _ fun t ts σ hts ht htt G => ?_
    refine And.intro (by decide) ?_
    conv => whnf
    refine ⟨by decide, someP_i (idx_m1 _ (by simp)) ?_⟩
    conv => whnf
    refine ⟨⟨by decide, rfl⟩, ⟨by decide, rfl⟩, ?_⟩
    obtain ⟨u, hu, eu⟩ : ∃ u ∈ t :: ts, (enc t :: ts.map enc).getLastD .none = enc u := ⟨(t :: ts).getLast (by simp), List.getLast_mem _, by
      rw [List.getLastD_eq_getLast?, ← List.map_cons, List.getLast?_map, List.getLast?_eq_some_getLast (by simp)]; rfl⟩
    rw [eu]
    have hu2 : TOk z u := by
      rcases List.mem_cons.mp hu with rfl | hu
      · exact ht
      · exact htt u hu
    have hc : TOk 1 (.node (.const 0) []) := .node' (by simp) rfl .nil .nil (by decide)
    refine fin (.node .ite [t, u, .node (.const 0) []]) _ σ (by first | exact dn hd rfl | exact dt hd rfl | exact dc hd rfl | exact dc0 hd rfl | exact dcn hd rfl | exact ds hd rfl | exact ds0 hd | exact dn hdd rfl | exact dt hdd rfl | (first | lia | omega)) (.node' (fun x hx => by
      simp only [List.mem_cons, List.not_mem_nil, or_false] at hx
      rcases hx with rfl | rfl | rfl
      · exact ht.wt
      · exact hu2.wt
      · exact hc.wt) rfl .nil .nil ?_) G
    have a1 := ht.2.1
    have a2 := hu2.2.1
    have a3 := hc.2.1
    rw [szs, szs, szs, szs]; (first | lia | omega)
  · conv => whnf
    refine parts _ fun t ts σ hts ht htt G => ?_
    refine And.intro (⟨by decide, rfl⟩) ?_
    have := fin (.node .seq (t :: ts)) _ σ (by first | exact dn hd rfl | exact dt hd rfl | exact dc hd rfl | exact dc0 hd rfl | exact dcn hd rfl | exact ds hd rfl | exact ds0 hd | exact dn hdd rfl | exact dt hdd rfl | (first | lia | omega)) (.node' (wt3 t ts ht htt) trivial .nil .nil (by have := sz3 t ts hts ht htt; (first | lia | omega))) G
    rw [← encs_map]
    exact this
  · conv => whnf
    refine parts _ fun t ts σ hts ht htt G => ?_
    refine And.intro (by decide) ?_
    refine And.intro (by show (ts.map enc).length + 1 ≤ lim; rw [List.length_map]; (first | lia | omega)) ?_
    refine And.intro (⟨by decide, rfl⟩) ?_
    have := fin (.node .call (t :: ts)) _ σ (by first | exact dn hd rfl | exact dt hd rfl | exact dc hd rfl | exact dc0 hd rfl | exact dcn hd rfl | exact ds hd rfl | exact ds0 hd | exact dn hdd rfl | exact dt hdd rfl | (first | lia | omega)) (.node' (wt3 t ts ht htt) (by rw [List.length_cons]; exact Nat.le_add_left _ _) .nil .nil (by have := sz3 t ts hts ht htt; (first | lia | omega))) G
    rw [← encs_map]
    exact this
  · conv => whnf
    refine parts _ fun t ts σ hts ht htt G => ?_
    refine And.intro (⟨by decide, rfl⟩) ?_
    have := fin (.node (.prim 46) (t :: ts)) _ σ (by first | exact dn hd rfl | exact dt hd rfl | exact dc hd rfl | exact dc0 hd rfl | exact dcn hd rfl | exact ds hd rfl | exact ds0 hd | exact dn hdd rfl | exact dt hdd rfl | (first | lia | omega)) (.node' (wt3 t ts ht htt) trivial .nil .nil (by have := sz3 t ts hts ht htt; (first | lia | omega))) G
    rw [← encs_map]
    exact this

theorem node_of2 (C : Calls P) : NodeOf P 25 21 2 := by
  have n0 : NodeOf P 15 1 0 := (node_leaf C (by decide)).mono (by decide) (by decide)
  have n1 : NodeOf P 15 6 1 := node_step (c := 5) (z := 1) C (by decide) (by decide) (by decide) (node_leaf C (by decide)) (node_leaf C (by decide))
  exact node_step (c := 15) (z := 6) C (by decide) (by decide) (by decide) n1 (n0.mono (by decide) (by decide))
end
end Mine
end
section
open PySem PySem.W PyProof.Rows Builtin Builtin.ObjectAttr
set_option Elab.async false
set_option maxRecDepth 100000
namespace Mine

noncomputable def thenAt : Nat → Sms → Sms
  | 0, .cons (.ifs _ a _) _ => a
  | n + 1, .cons _ r => thenAt n r
  | _, _ => .nil
noncomputable def dropS : Nat → Sms → Sms
  | 0, s => s
  | n + 1, .cons _ r => dropS n r
  | _, _ => .nil
theorem enc_with {t : T} (ht : t.wf) (hn : t.ps ≠ []) {c : Nat} {fs : List PV} (e : enc t = .obj c fs) : attrOf c 31 = .meth (withFn t.hd) := by
  obtain ⟨h, ps⟩ := t
  rw [T.wf] at ht
  cases h <;> first | exact absurd (nil_T ht.1) hn | exact absurd (nil_T ht.1.1) hn | (cases e; rfl)
theorem replace_eq {ps : List T} {n : Nat} (hn : n < ps.length) : ps = ps.take n ++ [ps[n]] ++ ps.drop (n + 1) := by
  rw [List.append_assoc, List.singleton_append, List.getElem_cons_drop, List.take_append_drop]

section
variable {P : Nat → CP} {σ R : Sig} {d : Nat} {k : XV → Sig → Prop}

theorem c_otherwise (C : Calls P) {n l : Int} (hn0 : 0 ≤ n) (hl0 : 0 ≤ l) : ∀ (N : Nat) {t : T} {d : Nat} {ds0 : List Int} {k : XV → Sig → Prop}, t.sz ≤ N → t.wf → t.sz ≤ 1000 → t.sz + 4 ≤ d → Deck ds0 →
    (∀ u ds, u.wf → u.sz ≤ t.sz → Deck ds → k (.p (enc u)) (cl ds :: R)) → P d 12 [.c 0, .p (enc t), .p (.int n), .p (.int l)] (cl ds0 :: R) k
  | 0, t, _, _, _, hN, _, _, _, _, _ => absurd hN (by have := t.sz_pos; (first | lia | omega))
  | N + 1, .node h ps, d, ds0, k, hN, ht, hz, hdd, hD, hk => by
    obtain ⟨d, rfl⟩ : ∃ e, d = e + 1 := ⟨d - 1, by (first | lia | omega)⟩
    have hlim : lim = 1048576 := rfl
    have ht0 := ht
    have hz0 := hz
    rw [T.wf] at ht
    rw [T.sz] at hN hz hdd hk
    have hl := len_szs ps
    have he := encs_len ps
    refine enc_el (.node h ps) fun ct ft et kt pt => ?_
    -- a part replaced
    have tail : ∀ (m : Nat), m < ps.length → ∀ (ds : List Int) (n₀ : Nat) (K : Fl → Locs → Sig → Prop), Deck ds → (∀ L u ds, u.wf → u.sz ≤ 1 + szs ps → Deck ds → K (.ret (.p (enc u))) L (cl ds :: R)) →
        vcSs (P d) n₀ (dropS 2 (thenAt 1 b12)) [some (.c 0), some (.p (enc (.node h ps))), some (.p (.int n)), some (.p (.int l)), some (.p (.lst (encs ps))), some (.p (.int m))] (cl ds :: R) K := by
      intro m hm ds n₀ K hD hK
      have hne : ps ≠ [] := by rintro rfl; simp at hm
      have wt := enc_with ht0 hne et
      have gm : idx (encs ps) (m : Int) = some (enc ps[m]) := by
        rw [idx_n, encs_map, List.getElem?_map, List.getElem?_eq_getElem hm]; rfl
      conv => whnf
      rw [et]
      conv => whnf
      rw [wt]
      refine And.intro (by rw [he]; (first | lia | omega)) ?_
      conv => whnf
      refine ⟨by show m ≤ lim; (first | lia | omega), someP_i gm ?_⟩
      conv => whnf
      have hs := mem_szs (List.getElem_mem hm)
      refine c_otherwise C hn0 hl0 N (by first | exact dn hd rfl | exact dt hd rfl | exact dc hd rfl | exact dc0 hd rfl | exact dcn hd rfl | exact ds hd rfl | exact ds0 hd | exact dn hdd rfl | exact dt hdd rfl | (first | lia | omega)) (wfs_mem ht.2 _ (List.getElem_mem hm)) (by first | exact dn hd rfl | exact dt hd rfl | exact dc hd rfl | exact dc0 hd rfl | exact dcn hd rfl | exact ds hd rfl | exact ds0 hd | exact dn hdd rfl | exact dt hdd rfl | (first | lia | omega)) (by first | exact dn hd rfl | exact dt hd rfl | exact dc hd rfl | exact dc0 hd rfl | exact dcn hd rfl | exact ds hd rfl | exact ds0 hd | exact dn hdd rfl | exact dt hdd rfl | (first | lia | omega)) hD fun u ds hu hus hD => ?_
      refine And.intro (by rw [show slTo (encs ps) (m : Int) = (encs ps).take m from rfl, List.length_take]; show _ + 1 ≤ lim; (first | lia | omega)) ?_
      refine And.intro (by rw [he]; (first | lia | omega)) ?_
      have e1 : slTo (encs ps) (m : Int) ++ [enc u] ++ (encs ps).drop (m + 1) = encs (ps.take m ++ [u] ++ ps.drop (m + 1)) := by
        rw [show slTo (encs ps) (m : Int) = (encs ps).take m from rfl]
        simp only [encs_map, List.map_append, List.map_take, List.map_drop, List.map_cons, List.map_nil]
      have e2 : (ps.take m ++ [u] ++ ps.drop (m + 1)).length = ps.length := by
        simp only [List.length_append, List.length_take, List.length_drop, List.length_singleton]; (first | lia | omega)
      refine And.intro (?_) ?_
      · show (slTo (encs ps) (m : Int) ++ [enc u]).length + ((encs ps).drop (m + 1)).length ≤ lim
        rw [← List.length_append, e1, encs_len, e2]; (first | lia | omega)
      conv => whnf
      rw [← et]
      show P d _ [.p (enc (.node h ps)), .p (.lst (slTo (encs ps) (m : Int) ++ [enc u] ++ (encs ps).drop (m + 1)))] _ _
      rw [e1]
      refine c_with C ht0 hne (by rw [encs_len, e2]; rfl) (by rw [encs_len, e2]; (first | lia | omega)) (by first | exact dn hd rfl | exact dt hd rfl | exact dc hd rfl | exact dc0 hd rfl | exact dcn hd rfl | exact ds hd rfl | exact ds0 hd | exact dn hdd rfl | exact dt hdd rfl | (first | lia | omega)) ?_
      refine hK _ (.node h (ps.take m ++ [u] ++ ps.drop (m + 1))) ds ?_ ?_ hD
      · rw [T.wf, e2]
        refine ⟨ht.1, wfs_of fun x hx => ?_⟩
        rcases List.mem_append.mp hx with hx | hx
        · rcases List.mem_append.mp hx with hx | hx
          · exact wfs_mem ht.2 x (List.mem_of_mem_take hx)
          · rw [List.mem_singleton.mp hx]; exact hu
        · exact wfs_mem ht.2 x (List.mem_of_mem_drop hx)
      · have e3 := congrArg szs (replace_eq hm)
        rw [szs_append, szs_append, szs, szs] at e3
        rw [T.sz, szs_append, szs_append, szs, szs]
        (first | lia | omega)
    -- the head changed
    have rest : ∀ (ds : List Int) (x5 : Option XV) (n₀ : Nat), Deck ds →
        vcSs (P d) n₀ (dropS 2 b12) [some (.c 0), some (.p (enc (.node h ps))), some (.p (.int n)), some (.p (.int l)), some (.p (.lst (encs ps))), x5] (cl ds :: R) (retK k) := by
      intro ds x5 n₀ hD
      have fin : ∀ (g : Hd) (qs : List T) (ds : List Int), qs = ps → (g.ok ps.length) → Deck ds → k (.p (enc (.node g qs))) (cl ds :: R) := by
        rintro g qs ds rfl ok hD
        exact hk _ ds (by rw [T.wf]; exact ⟨ok, ht.2⟩) (by rw [T.sz]; (first | lia | omega)) hD
      cases h with
      | const v =>
        refine c_draw C hD (by decide) (by decide) (by first | exact dn hd rfl | exact dt hd rfl | exact dc hd rfl | exact dc0 hd rfl | exact dcn hd rfl | exact ds hd rfl | exact ds0 hd | exact dn hdd rfl | exact dt hdd rfl | (first | lia | omega)) fun v ds _ _ hD => ?_
        refine And.intro (⟨by decide, rfl⟩) ?_
        exact fin (.const _) ps ds rfl ht.1 hD
      | loc v =>
        refine And.intro (⟨by decide, rfl⟩) ?_
        exact fin (.loc _) ps ds rfl ⟨ht.1.1, hn0⟩ hD
      | glob v =>
        refine c_draw C hD (by decide) (by decide) (by first | exact dn hd rfl | exact dt hd rfl | exact dc hd rfl | exact dc0 hd rfl | exact dcn hd rfl | exact ds hd rfl | exact ds0 hd | exact dn hdd rfl | exact dt hdd rfl | (first | lia | omega)) fun v ds _ _ hD => ?_
        refine And.intro (⟨by decide, rfl⟩) ?_
        exact fin (.glob _) ps ds rfl ht.1 hD
      | setl v =>
        obtain ⟨p, hp⟩ := one_T ht.1.1
        subst hp
        refine And.intro (⟨by decide, rfl⟩) ?_
        exact fin (.setl _) [p] ds rfl ⟨rfl, hn0⟩ hD
      | setg v =>
        obtain ⟨p, hp⟩ := one_T ht.1
        subst hp
        refine c_draw C hD (by decide) (by decide) (by first | exact dn hd rfl | exact dt hd rfl | exact dc hd rfl | exact dc0 hd rfl | exact dcn hd rfl | exact ds hd rfl | exact ds0 hd | exact dn hdd rfl | exact dt hdd rfl | (first | lia | omega)) fun v ds _ _ hD => ?_
        refine And.intro (⟨by decide, rfl⟩) ?_
        exact fin (.setg _) [p] ds rfl rfl hD
      | lam l' xs r =>
        obtain ⟨p, hp⟩ := one_T ht.1.1
        subst hp
        refine br_intro (fun e => ?_) (fun e => ?_)
        · refine c_draw C hD (by decide) (by decide) (by first | exact dn hd rfl | exact dt hd rfl | exact dc hd rfl | exact dc0 hd rfl | exact dcn hd rfl | exact ds hd rfl | exact ds0 hd | exact dn hdd rfl | exact dt hdd rfl | (first | lia | omega)) fun v ds _ _ hD => ?_
          refine br_intro (fun e => ?_) (fun e => ?_)
          · refine And.intro (⟨by decide, rfl⟩) ?_
            exact fin (.lam _ _ _) [p] ds rfl ht.1 hD
          · refine And.intro (⟨by decide, rfl⟩) ?_
            exact fin (.lam _ _ _) [p] ds rfl ⟨rfl, hl0, ht.1.2.2⟩ hD
        · refine And.intro (⟨by decide, rfl⟩) ?_
          exact fin (.lam _ _ _) [p] ds rfl ⟨rfl, hl0, ht.1.2.2⟩ hD
      | prim o =>
        refine c_draw C hD (by decide) (by decide) (by first | exact dn hd rfl | exact dt hd rfl | exact dc hd rfl | exact dc0 hd rfl | exact dcn hd rfl | exact ds hd rfl | exact ds0 hd | exact dn hdd rfl | exact dt hdd rfl | (first | lia | omega)) fun v ds _ _ hD => ?_
        refine And.intro (⟨by decide, rfl⟩) ?_
        exact fin (.prim _) ps ds rfl trivial hD
      | _ =>
        exact fin _ ps ds rfl ht.1 hD
    refine C.by' (fi := f12) rfl rfl ?_
    conv => whnf
    rw [et]
    conv => whnf
    rw [pt]
    conv => whnf
    rw [← et]
    refine c_parts C ht0 hz0 (by first | exact dn hd rfl | exact dt hd rfl | exact dc hd rfl | exact dc0 hd rfl | exact dcn hd rfl | exact ds hd rfl | exact ds0 hd | exact dn hdd rfl | exact dt hdd rfl | (first | lia | omega)) ?_
    refine br_intro (fun q => ?_) (fun q => ?_)
    · have hp : 0 < ps.length := by
        rw [← he]
        refine List.length_pos_iff.mpr fun e => ?_
        have q : (!(encs ps).isEmpty) = true := q
        rw [e] at q; cases q
      refine c_draw C hD (by decide) (by decide) (by first | exact dn hd rfl | exact dt hd rfl | exact dc hd rfl | exact dc0 hd rfl | exact dcn hd rfl | exact ds hd rfl | exact ds0 hd | exact dn hdd rfl | exact dt hdd rfl | (first | lia | omega)) fun v ds _ _ hD => ?_
      refine br_intro (fun q => ?_) (fun q => ?_)
      · refine And.intro (by show (encs ps).length ≤ lim; (first | lia | omega)) ?_
        refine c_draw C hD (m := ((encs ps).length : Int)) (by first | exact dn hd rfl | exact dt hd rfl | exact dc hd rfl | exact dc0 hd rfl | exact dcn hd rfl | exact ds hd rfl | exact ds0 hd | exact dn hdd rfl | exact dt hdd rfl | (first | lia | omega)) (by first | exact dn hd rfl | exact dt hd rfl | exact dc hd rfl | exact dc0 hd rfl | exact dcn hd rfl | exact ds hd rfl | exact ds0 hd | exact dn hdd rfl | exact dt hdd rfl | (first | lia | omega)) (by first | exact dn hd rfl | exact dt hd rfl | exact dc hd rfl | exact dc0 hd rfl | exact dcn hd rfl | exact ds hd rfl | exact ds0 hd | exact dn hdd rfl | exact dt hdd rfl | (first | lia | omega)) fun v ds v0 v1 hD => ?_
        obtain ⟨m, rfl⟩ := Int.eq_ofNat_of_zero_le v0
        conv => whnf
        rw [et]
        conv => whnf
        rw [kt]
        refine br_intro (fun q => ?_) (fun q => ?_)
        · refine And.intro (by show (encs ps).length ≤ lim; (first | lia | omega)) ?_
          have em : ((encs ps).length : Int) - 1 = ((ps.length - 1 : Nat) : Int) := by (first | lia | omega)
          rw [← et]
          have := tail (ps.length - 1) (by first | exact dn hd rfl | exact dt hd rfl | exact dc hd rfl | exact dc0 hd rfl | exact dcn hd rfl | exact ds hd rfl | exact ds0 hd | exact dn hdd rfl | exact dt hdd rfl | (first | lia | omega)) ds (cl ds0 :: R).length
          rw [← em] at this
          refine this _ hD fun L u ds hu hus hD => hk u ds hu hus hD
        · rw [← et]
          exact tail m (by first | exact dn hd rfl | exact dt hd rfl | exact dc hd rfl | exact dc0 hd rfl | exact dcn hd rfl | exact ds hd rfl | exact ds0 hd | exact dn hdd rfl | exact dt hdd rfl | (first | lia | omega)) ds _ _ hD fun L u ds hu hus hD => hk u ds hu hus hD
      · exact rest ds _ _ hD
    · exact rest ds0 _ _ hD
end
end Mine
end
section
open PySem PySem.W PyProof.Rows Builtin Builtin.ObjectAttr
set_option Elab.async false
set_option maxRecDepth 100000
namespace Mine

mutual
noncomputable def pre : T → List T
  | .node h ps => .node h ps :: pres ps
noncomputable def pres : List T → List T
  | [] => []
  | t :: r => pre t ++ pres r
end
theorem pres_append : ∀ a b : List T, pres (a ++ b) = pres a ++ pres b
  | [], _ => rfl
  | t :: r, b => by rw [List.cons_append, pres, pres, pres_append r b, List.append_assoc]
mutual
theorem pre_len : ∀ t : T, (pre t).length = t.sz
  | .node h ps => by rw [pre, T.sz, List.length_cons, pres_len ps, Nat.add_comm]
theorem pres_len : ∀ ps : List T, (pres ps).length = szs ps
  | [] => rfl
  | t :: r => by rw [pres, szs, List.length_append, pre_len t, pres_len r]
end

noncomputable def S2 (σ : Sig) (a b : List PV) : Sig := σ ++ [.list a, .list b]
section
variable {P : Nat → CP} {σ R : Sig} {d : Nat} {k : XV → Sig → Prop} {a b : List PV}
theorem S2_get0 : (S2 σ a b)[σ.length]? = some (.list a) := app_get σ _ 0
theorem S2_get1 : (S2 σ a b)[σ.length + 1]? = some (.list b) := app_get σ _ 1
theorem S2_set0 (c : List PV) : (S2 σ a b).set σ.length (.list c) = S2 σ c b := app_set σ _ 0 _
theorem S2_set1 (c : List PV) : (S2 σ a b).set (σ.length + 1) (.list c) = S2 σ a c := app_set σ _ 1 _
theorem S2_old {j : Nat} (h : j < σ.length) : (S2 σ a b)[j]? = σ[j]? := List.getElem?_append_left h

theorem all_push {n₀ : Nat} : ∀ (xs : List PV) (b : List PV) (x0 x3 x4 : Option XV) (K : Fl → Locs → Sig → Prop), b.length + xs.length ≤ 100000 →
    (∀ y4, K .next [x0, some (.c σ.length), some (.c (σ.length + 1)), x3, y4] (S2 σ a (b ++ xs))) →
    forP 4 (fun L σ' k => vcSs (P d) n₀ (loopAt 2 (loopAt 2 b17)) L σ' k) xs [x0, some (.c σ.length), some (.c (σ.length + 1)), x3, x4] (S2 σ a b) K := by
  have hlim : lim = 1048576 := rfl
  intro xs
  induction xs with
  | nil =>
    intro b x0 x3 x4 K _ hK
    have := hK x4
    rw [List.append_nil] at this
    exact this
  | cons x r ih =>
    intro b x0 x3 x4 K hl hK
    rw [List.length_cons] at hl
    conv => whnf
    rw [S2_get1]
    conv => whnf
    rw [S2_get1]
    refine And.intro (by (first | lia | omega)) ?_
    refine And.intro (trivial) ?_
    rw [S2_set1]
    refine ih (b ++ [x]) _ _ _ K (by rw [List.length_append, List.length_singleton]; (first | lia | omega)) fun y4 => ?_
    have := hK y4
    rw [show b ++ x :: r = b ++ [x] ++ r by simp] at this
    exact this

theorem all_loop (C : Calls P) (hd : 1 ≤ d) {n₀ : Nat} : ∀ (N : Nat) (rs fs : List T) (x0 x3 x4 : Option XV) (K : Fl → Locs → Sig → Prop), szs rs ≤ N → fs.length + N ≤ 50000 → (∀ t ∈ rs, t.wf ∧ t.sz ≤ 1000) →
    (∀ y3 y4, K .next [x0, some (.c σ.length), some (.c (σ.length + 1)), y3, y4] (S2 σ ((fs ++ pres rs).map enc) [])) →
    whileP (fun L σ' k => vcE (P d) (condAt 2 b17) L σ' k) (fun L σ' k => vcSs (P d) n₀ (loopAt 2 b17) L σ' k) (N + 1) [x0, some (.c σ.length), some (.c (σ.length + 1)), x3, x4] (S2 σ (fs.map enc) (rs.reverse.map enc)) K := by
  have hlim : lim = 1048576 := rfl
  have done : ∀ (N : Nat) (fs : List T) (x0 x3 x4 : Option XV) (K : Fl → Locs → Sig → Prop), (∀ y3 y4, K .next [x0, some (.c σ.length), some (.c (σ.length + 1)), y3, y4] (S2 σ ((fs ++ pres []).map enc) [])) →
      whileP (fun L σ' k => vcE (P d) (condAt 2 b17) L σ' k) (fun L σ' k => vcSs (P d) n₀ (loopAt 2 b17) L σ' k) (N + 1) [x0, some (.c σ.length), some (.c (σ.length + 1)), x3, x4] (S2 σ (fs.map enc) (([] : List T).reverse.map enc)) K := by
    intro N fs x0 x3 x4 K hK
    conv => whnf
    rw [S2_get1]
    refine And.intro (Nat.zero_le _) ?_
    have := hK x3 x4
    rw [pres, List.append_nil] at this
    exact this
  intro N
  induction N with
  | zero =>
    intro rs fs x0 x3 x4 K hN hl hw hK
    have : rs = [] := by
      have := len_szs rs
      exact List.length_eq_zero_iff.mp (by first | exact dn hd rfl | exact dt hd rfl | exact dc hd rfl | exact dc0 hd rfl | exact dcn hd rfl | exact ds hd rfl | exact ds0 hd | exact dn hdd rfl | exact dt hdd rfl | (first | lia | omega))
    subst this
    exact done 0 fs x0 x3 x4 K hK
  | succ N ih =>
    intro rs fs x0 x3 x4 K hN hl hw hK
    cases rs with
    | nil => exact done (N + 1) fs x0 x3 x4 K hK
    | cons t rs =>
      obtain ⟨ht, hzt⟩ := hw _ (.head _)
      have hrl := len_szs (t :: rs)
      rw [List.length_cons] at hrl
      obtain ⟨h, as⟩ := t
      refine enc_el (.node h as) fun ct ft et kt pt => ?_
      have ha := len_szs as
      rw [szs, T.sz] at hN hrl
      have elen : ((T.node h as :: rs).reverse.map enc).length = rs.length + 1 := by rw [List.length_map, List.length_reverse, List.length_cons]
      have eapp : (T.node h as :: rs).reverse.map enc = rs.reverse.map enc ++ [enc (.node h as)] := by rw [List.reverse_cons, List.map_append]; rfl
      conv => whnf
      rw [S2_get1]
      refine And.intro (by rw [elen]; (first | lia | omega)) ?_
      refine br_intro (fun q => ?_) (fun q => ?_)
      · conv => whnf
        rw [S2_get1]
        conv => whnf
        refine ⟨by rw [elen]; (first | lia | omega), rs.reverse.map enc, enc (.node h as), eapp, ?_⟩
        rw [S2_set1]
        conv => whnf
        rw [S2_get0]
        conv => whnf
        rw [S2_get0]
        refine And.intro (by rw [List.length_map]; (first | lia | omega)) ?_
        rw [S2_set0]
        refine And.intro (trivial) ?_
        conv => whnf
        rw [et]
        conv => whnf
        rw [pt]
        conv => whnf
        rw [← et]
        refine c_parts C ht hzt hd ?_
        have ea := encs_len as
        refine And.intro (by show (encs as).length ≤ lim; (first | lia | omega)) ?_
        refine And.intro (by show (encs as).reverse.length ≤ lim; rw [List.length_reverse]; (first | lia | omega)) ?_
        refine all_push (encs as).reverse _ _ _ _ _ (by rw [List.length_map, List.length_reverse, List.length_reverse]; (first | lia | omega)) fun y4 => ?_
        have e1 : rs.reverse.map enc ++ (encs as).reverse = (as ++ rs).reverse.map enc := by
          rw [List.reverse_append, List.map_append, encs_map, List.map_reverse (l := as)]
        have e2 : fs.map enc ++ [enc (.node h as)] = (fs ++ [T.node h as]).map enc := by rw [List.map_append]; rfl
        rw [e1, e2]
        refine ih (as ++ rs) (fs ++ [.node h as]) x0 _ _ K (by rw [szs_append]; (first | lia | omega)) (by rw [List.length_append, List.length_singleton]; (first | lia | omega)) (fun t hm => ?_) fun y3 y4 => ?_
        · rcases List.mem_append.mp hm with hm | hm
          · rw [T.wf] at ht
            rw [T.sz] at hzt
            have := mem_szs hm
            exact ⟨wfs_mem ht.2 t hm, by (first | lia | omega)⟩
          · exact hw t (.tail _ hm)
        · have := hK y3 y4
          rw [pres, pre] at this
          rw [pres_append, List.append_assoc]
          exact this
      · exfalso
        have q : decide ((0 : Int) < ((((T.node h as) :: rs).reverse.map enc).length : Int)) = false := q
        rw [elen] at q
        have := of_decide_eq_false q
        (first | lia | omega)

theorem c_all (C : Calls P) {t : T} (ht : t.wf) (hz : t.sz ≤ 1000) (hd : 2 ≤ d) (h : k (.p (.lst ((pre t).map enc))) σ) : P d 17 [.p (enc t)] σ k := by
  obtain ⟨d, rfl⟩ : ∃ e, d = e + 1 := ⟨d - 1, by (first | lia | omega)⟩
  refine C.drop ?_
  refine C.by' (fi := f17) rfl rfl ?_
  conv => whnf
  refine ⟨t.sz + 1, ?_⟩
  have e2 : (σ ++ [Cell.list []]).length = σ.length + 1 := by simp
  have e3 : σ ++ [Cell.list []] ++ [Cell.list [enc t]] = S2 σ (([] : List T).map enc) ([t].reverse.map enc) := by simp [S2]
  rw [e2, e3]
  refine all_loop C (by first | exact dn hd rfl | exact dt hd rfl | exact dc hd rfl | exact dc0 hd rfl | exact dcn hd rfl | exact ds hd rfl | exact ds0 hd | exact dn hdd rfl | exact dt hdd rfl | (first | lia | omega)) t.sz [t] [] _ _ _ _ (by simp [szs]) (by simp; (first | lia | omega)) (fun u hu => by rw [List.mem_singleton.mp hu]; exact ⟨ht, hz⟩) fun y3 y4 => ?_
  have e4 : [] ++ pres [t] = pre t := by rw [pres, pres, List.append_nil, List.nil_append]
  rw [e4]
  exact ⟨σ, [.list _, .list []], rfl, rfl, fun _ _ _ e => .inl e, .inr ⟨_, _, rfl, Nat.le_refl _, S2_get0, h⟩⟩
end
end Mine
end
section
open PySem PySem.W PyProof.Rows Builtin Builtin.ObjectAttr
set_option Elab.async false
set_option maxRecDepth 100000
namespace Mine

mutual
noncomputable def ren (F : Hd → Hd) : T → T
  | .node h ps => .node (F h) (rens F ps)
noncomputable def rens (F : Hd → Hd) : List T → List T
  | [] => []
  | t :: r => ren F t :: rens F r
end
theorem rens_map (F : Hd → Hd) : ∀ ps, rens F ps = ps.map (ren F)
  | [] => rfl
  | t :: r => by rw [rens, rens_map F r]; rfl

/-- what the stack does to the list of the done -/
noncomputable def run (F : Hd → Hd) : List (T × Bool) → List T → List T
  | [], D => D
  | (t, false) :: rs, D => run F rs (D ++ [ren F t])
  | (t, true) :: rs, D => run F rs (D.take (D.length - t.ps.length) ++ [.node (F t.hd) (D.drop (D.length - t.ps.length))])
noncomputable def okS : List (T × Bool) → Nat → Prop
  | [], _ => True
  | (t, false) :: rs, n => okS rs (n + 1)
  | (t, true) :: rs, n => t.ps.length ≤ n ∧ okS rs (n - t.ps.length + 1)
noncomputable def wtS : List (T × Bool) → Nat
  | [] => 0
  | (t, false) :: rs => 2 * t.sz + wtS rs
  | (t, true) :: rs => 1 + wtS rs
theorem run_todo (F : Hd → Hd) : ∀ (as : List T) (rs : List (T × Bool)) (D : List T), run F (as.map (·, false) ++ rs) D = run F rs (D ++ rens F as)
  | [], rs, D => by simp [rens]
  | a :: r, rs, D => by rw [List.map_cons, List.cons_append, run, run_todo F r, rens, List.append_assoc]; rfl
theorem okS_todo : ∀ (as : List T) (rs : List (T × Bool)) (n : Nat), okS (as.map (·, false) ++ rs) n ↔ okS rs (n + as.length)
  | [], rs, n => Iff.rfl
  | a :: r, rs, n => by rw [List.map_cons, List.cons_append, okS, okS_todo r, List.length_cons, show n + 1 + r.length = n + (r.length + 1) by (first | lia | omega)]
theorem wtS_todo : ∀ (as : List T) (rs : List (T × Bool)), wtS (as.map (·, false) ++ rs) = 2 * szs as + wtS rs
  | [], rs => by simp [szs]
  | a :: r, rs => by rw [List.map_cons, List.cons_append, wtS, wtS_todo r, szs]; (first | lia | omega)
theorem len_wtS : ∀ rs : List (T × Bool), rs.length ≤ wtS rs
  | [] => Nat.le_refl _
  | (t, false) :: rs => by have := len_wtS rs; have := t.sz_pos; rw [wtS, List.length_cons]; (first | lia | omega)
  | (t, true) :: rs => by have := len_wtS rs; rw [wtS, List.length_cons]; (first | lia | omega)
noncomputable def ent (p : T × Bool) : PV := .tup [enc p.1, .bool p.2]
theorem enc_congr {h : Hd} {ps qs : List T} (e : encs ps = encs qs) : enc (.node h ps) = enc (.node h qs) := by
  show encH h (encs ps) = encH h (encs qs)
  rw [e]

section
variable {P : Nat → CP} {σ R : Sig} {d : Nat} {k : XV → Sig → Prop} {a b : List PV}

noncomputable def apart (c : Nat) (σ : Sig) : Bool := σ.all fun x => match x with
    | .inst _ fs => fs.all fun y => (match y with
      | .c j => j != c
      | .bm _ j => j != c
      | _ => true)
    | _ => true

theorem rb_push {i : Nat} {n₀ : Nat} : ∀ (xs : List PV) (b : List PV) (x0 x4 x5 x6 x8 x9 : Option XV) (x7 : Option PV) (K : Fl → Locs → Sig → Prop), b.length + xs.length ≤ 100000 →
    (∀ y7 : Option PV, K .next [x0, some (.bm 51 i), some (.c σ.length), some (.c (σ.length + 1)), x4, x5, x6, y7.map .p, x8, x9] (S2 σ a (b ++ xs.map fun v => .tup [v, .bool false]))) →
    forP 7 (fun L σ' k => vcSs (P d) n₀ (loopAt 1 (thenAt 2 (loopAt 2 b16))) L σ' k) xs [x0, some (.bm 51 i), some (.c σ.length), some (.c (σ.length + 1)), x4, x5, x6, x7.map .p, x8, x9] (S2 σ a b) K := by
  have hlim : lim = 1048576 := rfl
  intro xs
  induction xs with
  | nil =>
    intro b x0 x4 x5 x6 x8 x9 x7 K _ hK
    have := hK x7
    rw [List.map_nil, List.append_nil] at this
    exact this
  | cons x r ih =>
    intro b x0 x4 x5 x6 x8 x9 x7 K hl hK
    rw [List.length_cons] at hl
    conv => whnf
    rw [S2_get1]
    conv => whnf
    rw [S2_get1]
    refine And.intro (by (first | lia | omega)) ?_
    refine And.intro (trivial) ?_
    rw [S2_set1]
    refine ih (b ++ [.tup [x, .bool false]]) _ _ _ _ _ _ (some x) K (by rw [List.length_append, List.length_singleton]; (first | lia | omega)) fun y7 => ?_
    have := hK y7
    rw [List.map_cons, show ∀ u (l : List PV), b ++ u :: l = b ++ [u] ++ l by simp] at this
    exact this

theorem rb_uniq {i : Nat} (hi : i < σ.length) (hap : apart σ.length σ = true) {v0 v4 v5 v6 v8 v9 : PV} {y7 : Option PV} : uniq 2 σ.length [some (.p v0), some (.bm 51 i), some (.c σ.length), some (.c (σ.length + 1)), some (.p v4), some (.p v5), some (.p v6), y7.map .p, some (.p v8), some (.p v9)] (S2 σ a b) = true := by
  have h2 : apart σ.length (S2 σ a b) = true := by
    unfold apart S2
    rw [List.all_append]
    have := hap
    unfold apart at this
    rw [this]; rfl
  have : i ≠ σ.length := by (first | lia | omega)
  refine (Bool.and_eq_true _ _).mpr ⟨?_, h2⟩
  cases y7 <;> simp [List.zipIdx, this]

theorem rb_loop (C : Calls P) {F : Hd → Hd} {i : Nat} {dt : Nat} (hi : i < σ.length) (hap : apart σ.length σ = true) (hF : ∀ h n, Hd.ok h n → Hd.ok (F h) n)
    (turn : ∀ {t : T} {σ' : Sig} {d : Nat} {k : XV → Sig → Prop}, dt ≤ d → t.wf → (∀ j, j < σ.length → σ'[j]? = σ[j]?) → k (.p (enc (.node (F t.hd) t.ps))) σ' → P d 51 [.c i, .p (enc t)] σ' k) (hd : dt ≤ d) (hd2 : 1 ≤ d) :
    ∀ (N : Nat) (rs : List (T × Bool)) (D : List T) (v0 : PV) (x4 x5 x6 x8 x9 : Option XV) (x7 : Option PV) (K : Fl → Locs → Sig → Prop), wtS rs ≤ N → D.length + N ≤ 5000 → (∀ p ∈ rs, p.1.wf ∧ p.1.sz ≤ 1000) → (∀ t ∈ D, t.wf) → okS rs D.length →
    (∀ y4 y5 y6 y7 y8 y9, K .next [some (.p v0), some (.bm 51 i), some (.c σ.length), some (.c (σ.length + 1)), y4, y5, y6, y7, y8, y9] (S2 σ ((run F rs D).map enc) [])) →
    whileP (fun L σ' k => vcE (P d) (condAt 2 b16) L σ' k) (fun L σ' k => vcSs (P d) σ.length (loopAt 2 b16) L σ' k) (N + 1) [some (.p v0), some (.bm 51 i), some (.c σ.length), some (.c (σ.length + 1)), x4, x5, x6, x7.map .p, x8, x9] (S2 σ (D.map enc) (rs.reverse.map ent)) K := by
  have hlim : lim = 1048576 := rfl
  have done : ∀ (N : Nat) (D : List T) (v0 : PV) (x4 x5 x6 x8 x9 : Option XV) (x7 : Option PV) (K : Fl → Locs → Sig → Prop), (∀ y4 y5 y6 y7 y8 y9, K .next [some (.p v0), some (.bm 51 i), some (.c σ.length), some (.c (σ.length + 1)), y4, y5, y6, y7, y8, y9] (S2 σ ((run F [] D).map enc) [])) →
      whileP (fun L σ' k => vcE (P d) (condAt 2 b16) L σ' k) (fun L σ' k => vcSs (P d) σ.length (loopAt 2 b16) L σ' k) (N + 1) [some (.p v0), some (.bm 51 i), some (.c σ.length), some (.c (σ.length + 1)), x4, x5, x6, x7.map .p, x8, x9] (S2 σ (D.map enc) (([] : List (T × Bool)).reverse.map ent)) K := by
    intro N D v0 x4 x5 x6 x8 x9 x7 K hK
    conv => whnf
    rw [S2_get1]
    refine And.intro (Nat.zero_le _) ?_
    exact hK x4 x5 x6 _ x8 x9
  intro N
  induction N with
  | zero =>
    intro rs D v0 x4 x5 x6 x8 x9 x7 K hN hl hw hD ho hK
    have : rs = [] := by
      have := len_wtS rs
      exact List.length_eq_zero_iff.mp (by first | exact dn hd rfl | exact dt hd rfl | exact dc hd rfl | exact dc0 hd rfl | exact dcn hd rfl | exact ds hd rfl | exact ds0 hd | exact dn hdd rfl | exact dt hdd rfl | (first | lia | omega))
    subst this
    exact done 0 D v0 x4 x5 x6 x8 x9 x7 K hK
  | succ N ih =>
    intro rs D v0 x4 x5 x6 x8 x9 x7 K hN hl hw hD ho hK
    cases rs with
    | nil => exact done (N + 1) D v0 x4 x5 x6 x8 x9 x7 K hK
    | cons p rs =>
      obtain ⟨t, fl⟩ := p
      obtain ⟨ht, hzt⟩ := hw _ (.head _)
      dsimp only at ht hzt
      have hrl := len_wtS ((t, fl) :: rs)
      rw [List.length_cons] at hrl
      obtain ⟨h, as⟩ := t
      refine enc_el (.node h as) fun ct ft et kt pt => ?_
      have ha := len_szs as
      have ea := encs_len as
      have elen : (((T.node h as, fl) :: rs).reverse.map ent).length = rs.length + 1 := by rw [List.length_map, List.length_reverse, List.length_cons]
      have eapp : ((T.node h as, fl) :: rs).reverse.map ent = rs.reverse.map ent ++ [.tup [enc (.node h as), .bool fl]] := by rw [List.reverse_cons, List.map_append]; rfl
      have hzt0 := hzt
      rw [T.sz] at hzt
      have ht0 := ht
      rw [T.wf] at ht
      have dl : (D.map enc).length = D.length := List.length_map _
      -- the children are done
      have close : ∀ (y7 : Option PV) (n₀ : Nat), n₀ = σ.length → as.length ≤ D.length → okS rs (D.length - as.length + 1) → wtS rs ≤ N → (∀ y4 y5 y6 y7 y8 y9, K .next [some (.p v0), some (.bm 51 i), some (.c σ.length), some (.c (σ.length + 1)), y4, y5, y6, y7, y8, y9]
            (S2 σ ((run F rs (D.take (D.length - as.length) ++ [.node (F h) (D.drop (D.length - as.length))])).map enc) [])) → 
          vcSs (P d) n₀ (match dropS 2 (loopAt 2 b16) with | .cons (.ifs _ _ b) _ => b | _ => .nil) [some (.p v0), some (.bm 51 i), some (.c σ.length), some (.c (σ.length + 1)), some (.p (enc (.node h as))), some (.p (.bool fl)), some (.p (.lst (encs as))), y7.map .p, x8, x9] (S2 σ (D.map enc) (rs.reverse.map ent))
            (fun f L₁ σ₂ => match f with
              | .next => whileP (fun L σ' k => vcE (P d) (condAt 2 b16) L σ' k) (fun L σ' k => vcSs (P d) σ.length (loopAt 2 b16) L σ' k) (N + 1) L₁ σ₂ K
              | .ret x => K (.ret x) L₁ σ₂) := by
        rintro y7 n₀ rfl hal ho hwt hK
        obtain ⟨m, hm⟩ : ∃ m, m = D.length - as.length := ⟨_, rfl⟩
        rw [← hm] at hK ho
        conv => whnf
        rw [S2_get0]
        refine And.intro (by (first | lia | omega)) ?_
        refine And.intro (by (first | lia | omega)) ?_
        conv => whnf
        rw [S2_get0]
        have em : ((D.map enc).length : Int) - ((encs as).length : Int) = (m : Int) := by (first | lia | omega)
        rw [em]
        refine And.intro (by (first | lia | omega)) ?_
        refine ⟨⟨Nat.le_refl _, rb_uniq hi hap⟩, ?_⟩
        conv => whnf
        rw [S2_get0]
        refine And.intro (by (first | lia | omega)) ?_
        rw [S2_set0]
        have e1 : (D.map enc).drop m = encs (D.drop m) := by rw [encs_map, List.map_drop]
        have e2 : slTo (D.map enc) (m : Int) = (D.take m).map enc := by rw [slTo_n, List.map_take]
        have e3 : as.length = (D.drop m).length := by rw [List.length_drop]; (first | lia | omega)
        have e4 : (D.take m).length = m := by rw [List.length_take]; (first | lia | omega)
        have hw2 : (T.node h (D.drop m)).wf := by
          rw [T.wf, ← e3]
          exact ⟨ht.1, wfs_of fun t hm => hD t (List.mem_of_mem_drop hm)⟩
        rw [e2]
        conv => whnf
        rw [e1]
        have turned : ∀ (w : T), w = .node h (D.drop m) → ∀ x9, vcSs (P d) σ.length (dropS 4 (match dropS 2 (loopAt 2 b16) with | .cons (.ifs _ _ b) _ => b | _ => .nil)) [some (.p v0), some (.bm 51 i), some (.c σ.length), some (.c (σ.length + 1)), some (.p (enc w)), some (.p (.bool fl)), some (.p (.lst (encs as))), y7.map .p, some (.p (.int m)), x9] (S2 σ ((D.take m).map enc) (rs.reverse.map ent))
            (fun f L₁ σ₂ => match f with
              | .next => whileP (fun L σ' k => vcE (P d) (condAt 2 b16) L σ' k) (fun L σ' k => vcSs (P d) σ.length (loopAt 2 b16) L σ' k) (N + 1) L₁ σ₂ K
              | .ret x => K (.ret x) L₁ σ₂) := by
          rintro w rfl x9
          conv => whnf
          rw [S2_get0]
          refine And.intro (by decide) ?_
          refine turn hd hw2 (fun j hj => S2_old hj) ?_
          conv => whnf
          rw [S2_get0]
          refine And.intro (by rw [List.length_map]; (first | lia | omega)) ?_
          rw [S2_set0]
          refine And.intro (trivial) ?_
          have e5 : (D.take m).map enc ++ [enc (.node (F (T.node h (D.drop m)).hd) (T.node h (D.drop m)).ps)] = (D.take m ++ [T.node (F h) (D.drop m)]).map enc := by rw [List.map_append]; rfl
          have hl5 : (D.take m ++ [T.node (F h) (D.drop m)]).length = m + 1 := by rw [List.length_append, e4]; rfl
          rw [e5]
          refine ih rs _ v0 _ _ _ _ _ y7 K hwt (by rw [hl5]; (first | lia | omega)) (fun p hp => hw p (.tail _ hp)) (fun t hm => ?_) (by rw [hl5]; exact ho) hK
          rcases List.mem_append.mp hm with hm | hm
          · exact hD t (List.mem_of_mem_take hm)
          · rw [List.mem_singleton.mp hm, T.wf, ← e3]
            exact ⟨hF _ _ ht.1, wfs_of fun t hm => hD t (List.mem_of_mem_drop hm)⟩
        refine c_samelist C e3 (by first | exact dn hd rfl | exact dt hd rfl | exact dc hd rfl | exact dc0 hd rfl | exact dcn hd rfl | exact ds hd rfl | exact ds0 hd | exact dn hdd rfl | exact dt hdd rfl | (first | lia | omega)) hd2 fun r hr1 hr2 => ?_
        refine br_intro (fun q => ?_) (fun q => ?_)
        · have hne : as ≠ [] := by
            rintro rfl
            rw [hr2 rfl] at q; cases q
          have wt := enc_with ht0 hne et
          conv => whnf
          rw [et]
          conv => whnf
          rw [wt]
          conv => whnf
          rw [← et]
          refine c_with C ht0 hne (by rw [encs_len, ← e3]; rfl) (by rw [encs_len, ← e3]; (first | lia | omega)) hd2 ?_
          exact turned _ rfl _
        · have e6 : encs as = encs (D.drop m) := hr1 (by simpa using q)
          have := turned _ rfl (some (.p (.lst (encs (D.drop m)))))
          rw [enc_congr (h := h) e6.symm] at this
          exact this
      have popped : ∀ (z : Nat), vcSs (P d) σ.length (dropS 2 (loopAt 2 b16)) [some (.p v0), some (.bm 51 i), some (.c σ.length), some (.c (σ.length + 1)), some (.p (enc (.node h as))), some (.p (.bool fl)), some (.p (.lst (encs as))), x7.map .p, x8, x9] (S2 σ (D.map enc) (rs.reverse.map ent))
            (fun f L₁ σ₂ => match f with
              | .next => whileP (fun L σ' k => vcE (P d) (condAt 2 b16) L σ' k) (fun L σ' k => vcSs (P d) σ.length (loopAt 2 b16) L σ' k) (N + 1) L₁ σ₂ K
              | .ret x => K (.ret x) L₁ σ₂) := by
        intro _
        cases fl with
        | true =>
          rw [okS] at ho
          rw [wtS] at hN hrl
          rw [run] at hK
          exact close x7 σ.length rfl ho.1 ho.2 (by first | exact dn hd rfl | exact dt hd rfl | exact dc hd rfl | exact dc0 hd rfl | exact dcn hd rfl | exact ds hd rfl | exact ds0 hd | exact dn hdd rfl | exact dt hdd rfl | (first | lia | omega)) hK
        | false =>
          rw [okS] at ho
          rw [wtS, T.sz] at hN hrl
          rw [run, ren] at hK
          refine And.intro (by (first | lia | omega)) ?_
          refine br_intro (fun q => ?_) (fun q => ?_)
          · have e1 : rs.reverse.map ent ++ [.tup [enc (.node h as), .bool true]] ++ (encs as).reverse.map (fun v => PV.tup [v, .bool false]) = (as.map (·, false) ++ (T.node h as, true) :: rs).reverse.map ent := by
              rw [encs_map, List.reverse_append, List.reverse_cons, List.map_append, List.map_append, ← List.map_reverse, ← List.map_reverse, List.map_map, List.map_map]; rfl
            conv => whnf
            rw [S2_get1]
            conv => whnf
            rw [S2_get1]
            refine And.intro (by rw [List.length_map, List.length_reverse]; (first | lia | omega)) ?_
            rw [S2_set1]
            refine And.intro (trivial) ?_
            refine And.intro (by (first | lia | omega)) ?_
            refine And.intro (by rw [List.length_reverse]; (first | lia | omega)) ?_
            refine rb_push (encs as).reverse _ _ _ _ _ _ _ x7 _ (by rw [List.length_append, List.length_map, List.length_reverse, List.length_reverse, List.length_singleton]; (first | lia | omega)) fun y7 => ?_
            rw [e1]
            refine ih _ D v0 _ _ _ _ _ y7 K ?_ (by first | exact dn hd rfl | exact dt hd rfl | exact dc hd rfl | exact dc0 hd rfl | exact dcn hd rfl | exact ds hd rfl | exact ds0 hd | exact dn hdd rfl | exact dt hdd rfl | (first | lia | omega)) (fun p hp => ?_) hD ?_ ?_
            · rw [wtS_todo, wtS]; (first | lia | omega)
            · rcases List.mem_append.mp hp with hp | hp
              · obtain ⟨u, hu, rfl⟩ := List.mem_map.mp hp
                have := mem_szs hu
                exact ⟨wfs_mem ht.2 u hu, by dsimp only; (first | lia | omega)⟩
              · rcases List.mem_cons.mp hp with rfl | hp
                · exact ⟨ht0, hzt0⟩
                · exact hw p (.tail _ hp)
            · rw [okS_todo, okS, show (T.node h as).ps = as from rfl, Nat.add_sub_cancel]
              exact ⟨Nat.le_add_left _ _, ho⟩
            · rw [run_todo, run, show (T.node h as).ps = as from rfl, show (T.node h as).hd = h from rfl, List.length_append, show (rens F as).length = as.length by rw [rens_map, List.length_map], Nat.add_sub_cancel, List.take_left, List.drop_left]
              exact hK
          · have hnil : as = [] := by
              have q : decide ((0 : Int) < ((encs as).length : Int)) = false := q
              rw [ea] at q
              have := of_decide_eq_false q
              exact List.length_eq_zero_iff.mp (by first | exact dn hd rfl | exact dt hd rfl | exact dc hd rfl | exact dc0 hd rfl | exact dcn hd rfl | exact ds hd rfl | exact ds0 hd | exact dn hdd rfl | exact dt hdd rfl | (first | lia | omega))
            have hlen : D.length - as.length = D.length := by rw [hnil]; rfl
            refine close x7 σ.length rfl (by rw [hnil]; exact Nat.zero_le _) (by rw [hlen]; exact ho) (by first | exact dn hd rfl | exact dt hd rfl | exact dc hd rfl | exact dc0 hd rfl | exact dcn hd rfl | exact ds hd rfl | exact ds0 hd | exact dn hdd rfl | exact dt hdd rfl | (first | lia | omega)) ?_
            rw [hlen, List.take_length, List.drop_length]
            rw [hnil, rens] at hK
            exact hK
      conv => whnf
      rw [S2_get1]
      refine And.intro (by (first | lia | omega)) ?_
      refine br_intro (fun q => ?_) (fun q => ?_)
      · conv => whnf
        rw [S2_get1]
        conv => whnf
        refine ⟨by (first | lia | omega), rs.reverse.map ent, _, eapp, ?_⟩
        rw [S2_set1]
        conv => whnf
        rw [et]
        conv => whnf
        rw [pt]
        conv => whnf
        rw [← et]
        refine c_parts C ht0 hzt0 hd2 ?_
        exact popped 0
      · exfalso
        have q : decide ((0 : Int) < ((((T.node h as, fl) :: rs).reverse.map ent).length : Int)) = false := q
        rw [elen] at q
        have := of_decide_eq_false q
        (first | lia | omega)

theorem c_rebuilt (C : Calls P) {F : Hd → Hd} {i : Nat} {dt : Nat} {t : T} (hi : i < σ.length) (hap : apart σ.length σ = true) (hF : ∀ h n, Hd.ok h n → Hd.ok (F h) n)
    (turn : ∀ {t : T} {σ' : Sig} {d : Nat} {k : XV → Sig → Prop}, dt ≤ d → t.wf → (∀ j, j < σ.length → σ'[j]? = σ[j]?) → k (.p (enc (.node (F t.hd) t.ps))) σ' → P d 51 [.c i, .p (enc t)] σ' k)
    (ht : t.wf) (hz : t.sz ≤ 1000) (hd : dt + 1 ≤ d) (hd2 : 2 ≤ d) (h : k (.p (enc (ren F t))) σ) : P d 16 [.p (enc t), .bm 51 i] σ k := by
  obtain ⟨d, rfl⟩ : ∃ e, d = e + 1 := ⟨d - 1, by (first | lia | omega)⟩
  refine C.drop ?_
  refine C.by' (fi := f16) rfl rfl ?_
  conv => whnf
  refine ⟨2 * t.sz + 1, ?_⟩
  have e2 : (σ ++ [Cell.list []]).length = σ.length + 1 := by simp
  have e3 : σ ++ [Cell.list []] ++ [Cell.list [.tup [enc t, .bool false]]] = S2 σ (([] : List T).map enc) ([(t, false)].reverse.map ent) := by simp [S2, ent]
  rw [e2, e3]
  refine rb_loop C hi hap hF turn (by first | exact dn hd rfl | exact dt hd rfl | exact dc hd rfl | exact dc0 hd rfl | exact dcn hd rfl | exact ds hd rfl | exact ds0 hd | exact dn hdd rfl | exact dt hdd rfl | (first | lia | omega)) (by first | exact dn hd rfl | exact dt hd rfl | exact dc hd rfl | exact dc0 hd rfl | exact dcn hd rfl | exact ds hd rfl | exact ds0 hd | exact dn hdd rfl | exact dt hdd rfl | (first | lia | omega)) (2 * t.sz) [(t, false)] [] _ _ _ _ _ _ none _ (by simp [wtS]) (by simp; (first | lia | omega)) (fun u hu => by rw [List.mem_singleton.mp hu]; exact ⟨ht, hz⟩) (fun _ h => (List.not_mem_nil h).elim) trivial fun y4 y5 y6 y7 y8 y9 => ?_
  rw [run, run, List.nil_append]
  conv => whnf
  rw [S2_get0]
  refine And.intro (by decide) ?_
  exact ⟨σ, [.list _, .list []], rfl, rfl, fun _ _ _ e => .inl e, .inl ⟨trivial, h⟩⟩
end
end Mine
end
section
open PySem PySem.W PyProof.Rows Builtin Builtin.ObjectAttr
set_option Elab.async false
set_option maxRecDepth 100000
namespace Mine

noncomputable abbrev DF := Int → Option PV
noncomputable def lk (L : DF) (n : Int) : Int := match L n with | some (.int v) => v | _ => n
noncomputable def putD (L : DF) (n : Int) (x : PV) : DF := fun z => if z = n then some x else L z
/-- old numbers to new ones: above 200, up to u, unlike for unlike, and just for these -/
structure RMap (L : DF) (u : Int) (bs : List Int) : Prop where
  val : ∀ z p, L z = some p → ∃ v, p = .int v ∧ 200 < v ∧ v ≤ u
  inj : ∀ z y v, L z = some (.int v) → L y = some (.int v) → z = y
  dom : ∀ z, (L z).isSome = true ↔ z ∈ bs
theorem RMap.mono {L : DF} {u u' : Int} {bs : List Int} (h : RMap L u bs) (l : u ≤ u') : RMap L u' bs :=
  ⟨fun z p e => by obtain ⟨v, a, b, c⟩ := h.val z p e; exact ⟨v, a, b, by (first | lia | omega)⟩, h.inj, h.dom⟩
theorem RMap.put {L : DF} {u n : Int} {bs : List Int} (h : RMap L u bs) (hu : 200 ≤ u) : RMap (putD L n (.int (u + 1))) (u + 1) (bs ++ [n]) := by
  refine ⟨fun z p e => ?_, fun z y v e f => ?_, fun z => ?_⟩
  · unfold putD at e
    split at e
    · cases e; exact ⟨u + 1, rfl, by (first | lia | omega), Int.le_refl _⟩
    · obtain ⟨v, a, b, c⟩ := h.val z p e; exact ⟨v, a, b, by (first | lia | omega)⟩
  · unfold putD at e f
    by_cases q1 : z = n
    · by_cases q2 : y = n
      · rw [q1, q2]
      · rw [if_pos q1] at e
        rw [if_neg q2] at f
        obtain ⟨w, a, b, c⟩ := h.val _ _ f
        cases a; cases e
        (first | lia | omega)
    · by_cases q2 : y = n
      · rw [if_pos q2] at f
        rw [if_neg q1] at e
        obtain ⟨w, a, b, c⟩ := h.val _ _ e
        cases a; cases f
        (first | lia | omega)
      · rw [if_neg q1] at e
        rw [if_neg q2] at f
        exact h.inj z y v e f
  · unfold putD
    by_cases q : z = n
    · rw [if_pos q, q]; simp
    · rw [if_neg q, h.dom]; simp [q]
theorem RMap.nil (u : Int) : RMap (fun _ => none) u [] := ⟨fun _ _ e => (by cases e), fun _ _ _ e => (by cases e), fun _ => (by simp)⟩
theorem RMap.getD {L : DF} {u : Int} {bs : List Int} (h : RMap L u bs) (n : Int) : (L n).getD (.int n) = .int (lk L n) := by
  unfold lk
  cases e : L n with
  | none => rfl
  | some p =>
    obtain ⟨v, rfl, _, _⟩ := h.val n p e
    rfl
/-- the titles -/
structure Ttl (t t0 g : DF) (u : Int) : Prop where
  old : ∀ z, z ≤ 200 → t z = t0 z
  far : ∀ z, u < z → t z = none
  new : ∀ l v, g l = some (.int v) → t v = t0 l
theorem Ttl.mono {t t0 g : DF} {u u' : Int} (h : Ttl t t0 g u) (l : u ≤ u') : Ttl t t0 g u' := ⟨h.old, fun z hz => h.far z (by first | exact dn hd rfl | exact dt hd rfl | exact dc hd rfl | exact dc0 hd rfl | exact dcn hd rfl | exact ds hd rfl | exact ds0 hd | exact dn hdd rfl | exact dt hdd rfl | (first | lia | omega)), h.new⟩
theorem Ttl.some' {t t0 g : DF} {u l : Int} {bs : List Int} {x : PV} (h : Ttl t t0 g u) (hu : 200 ≤ u) (hl : l ≤ 200) (G : RMap g u bs) (e : t l = some x) : Ttl (putD t (u + 1) x) t0 (putD g l (.int (u + 1))) (u + 1) := by
  refine ⟨fun z hz => ?_, fun z hz => ?_, fun y v hv => ?_⟩
  · unfold putD; rw [if_neg (by first | exact dn hd rfl | exact dt hd rfl | exact dc hd rfl | exact dc0 hd rfl | exact dcn hd rfl | exact ds hd rfl | exact ds0 hd | exact dn hdd rfl | exact dt hdd rfl | (first | lia | omega))]; exact h.old z hz
  · unfold putD; rw [if_neg (by first | exact dn hd rfl | exact dt hd rfl | exact dc hd rfl | exact dc0 hd rfl | exact dcn hd rfl | exact ds hd rfl | exact ds0 hd | exact dn hdd rfl | exact dt hdd rfl | (first | lia | omega))]; exact h.far z (by first | exact dn hd rfl | exact dt hd rfl | exact dc hd rfl | exact dc0 hd rfl | exact dcn hd rfl | exact ds hd rfl | exact ds0 hd | exact dn hdd rfl | exact dt hdd rfl | (first | lia | omega))
  · unfold putD at hv ⊢
    by_cases q : y = l
    · rw [if_pos q] at hv
      cases hv
      rw [if_pos rfl, q, ← e, h.old l hl]
    · rw [if_neg q] at hv
      obtain ⟨w, a, b, c⟩ := G.val _ _ hv
      cases a
      rw [if_neg (by first | exact dn hd rfl | exact dt hd rfl | exact dc hd rfl | exact dc0 hd rfl | exact dcn hd rfl | exact ds hd rfl | exact ds0 hd | exact dn hdd rfl | exact dt hdd rfl | (first | lia | omega))]
      exact h.new y v hv
theorem Ttl.none' {t t0 g : DF} {u l : Int} {bs : List Int} (h : Ttl t t0 g u) (hu : 200 ≤ u) (hl : l ≤ 200) (G : RMap g u bs) (e : t l = none) : Ttl t t0 (putD g l (.int (u + 1))) (u + 1) := by
  refine ⟨h.old, fun z hz => h.far z (by first | exact dn hd rfl | exact dt hd rfl | exact dc hd rfl | exact dc0 hd rfl | exact dcn hd rfl | exact ds hd rfl | exact ds0 hd | exact dn hdd rfl | exact dt hdd rfl | (first | lia | omega)), fun y v hv => ?_⟩
  unfold putD at hv
  by_cases q : y = l
  · rw [if_pos q] at hv
    cases hv
    rw [h.far (u + 1) (by first | exact dn hd rfl | exact dt hd rfl | exact dc hd rfl | exact dc0 hd rfl | exact dcn hd rfl | exact ds hd rfl | exact ds0 hd | exact dn hdd rfl | exact dt hdd rfl | (first | lia | omega)), q, ← h.old l hl, e]
  · rw [if_neg q] at hv
    exact h.new y v hv

/-- a head renamed -/
noncomputable def turnH (L g : DF) : Hd → Hd
  | .loc n => .loc (lk L n)
  | .setl n => .setl (lk L n)
  | .lam l xs r => .lam (lk g l) (xs.map (lk L)) (if 0 ≤ r then lk L r else -1)
  | .fix ns => .fix (ns.map (lk L))
  | h => h
theorem RMap.lk_nonneg {L : DF} {u : Int} {bs : List Int} (h : RMap L u bs) {n : Int} (hn : 0 ≤ n) : 0 ≤ lk L n := by
  unfold lk
  cases e : L n with
  | none => exact hn
  | some p =>
    obtain ⟨v, rfl, _, _⟩ := h.val n p e
    dsimp only; (first | lia | omega)
theorem turnH_ok {L g : DF} {u : Int} {bs cs : List Int} (hL : RMap L u bs) (hg : RMap g u cs) : ∀ h n, Hd.ok h n → Hd.ok (turnH L g h) n := by
  intro h n ok
  cases h with
  | loc x => exact ⟨ok.1, hL.lk_nonneg ok.2⟩
  | setl x => exact ⟨ok.1, hL.lk_nonneg ok.2⟩
  | lam l xs r =>
    refine ⟨ok.1, hg.lk_nonneg ok.2.1, by rw [List.length_map]; exact ok.2.2.1, fun x hx => ?_⟩
    obtain ⟨y, hy, rfl⟩ := List.mem_map.mp hx
    exact hL.lk_nonneg (ok.2.2.2 y hy)
  | fix ns =>
    refine ⟨ok.1, by rw [List.length_map]; exact ok.2.1, fun x hx => ?_⟩
    obtain ⟨y, hy, rfl⟩ := List.mem_map.mp hx
    exact hL.lk_nonneg (ok.2.2 y hy)
  | _ => exact ok

section
variable {P : Nat → CP} {σ R : Sig} {d : Nat} {k : XV → Sig → Prop}

theorem c_local (C : Calls P) {i f g : Nat} {L G : DF} {nl ng : Nat} {u n : Int} {bs : List Int} (h1 : σ[i]? = some (.inst 11 [.c f, .c g])) (h2 : σ[f]? = some (.dict L nl)) (hL : RMap L u bs) (hd : 1 ≤ d) (h : k (.p (.int (lk L n))) σ) : P d 49 [.c i, .p (.int n)] σ k := by
  obtain ⟨d, rfl⟩ : ∃ e, d = e + 1 := ⟨d - 1, by (first | lia | omega)⟩
  rw [← hL.getD] at h
  refine C.by' (fi := f49) rfl rfl ?_
  conv => whnf
  repeat ((first | rw [h1] | rw [h2]); conv => whnf)
  exact h
theorem c_label (C : Calls P) {i f g : Nat} {G : DF} {nl ng : Nat} {u n : Int} {bs : List Int} (h1 : σ[i]? = some (.inst 11 [.c f, .c g])) (h2 : σ[g]? = some (.dict G ng)) (hG : RMap G u bs) (hd : 1 ≤ d) (h : k (.p (.int (lk G n))) σ) : P d 50 [.c i, .p (.int n)] σ k := by
  obtain ⟨d, rfl⟩ : ∃ e, d = e + 1 := ⟨d - 1, by (first | lia | omega)⟩
  rw [← hG.getD] at h
  refine C.by' (fi := f50) rfl rfl ?_
  conv => whnf
  repeat ((first | rw [h1] | rw [h2]); conv => whnf)
  exact h

theorem c_turned (C : Calls P) {i f g : Nat} {L G : DF} {nl ng : Nat} {u : Int} {bs cs : List Int} {t : T} (h1 : σ[i]? = some (.inst 11 [.c f, .c g])) (h2 : σ[f]? = some (.dict L nl)) (h3 : σ[g]? = some (.dict G ng)) (hL : RMap L u bs) (hG : RMap G u cs) (ht : t.wf) (hd : 2 ≤ d)
    (h : k (.p (enc (.node (turnH L G t.hd) t.ps))) σ) : P d 51 [.c i, .p (enc t)] σ k := by
  obtain ⟨d, rfl⟩ : ∃ e, d = e + 1 := ⟨d - 1, by (first | lia | omega)⟩
  have hlim : lim = 1048576 := rfl
  obtain ⟨hh, ps⟩ := t
  rw [T.wf] at ht
  have loc : ∀ {n : Int} {k : XV → Sig → Prop}, k (.p (.int (lk L n))) σ → P d 49 [.c i, .p (.int n)] σ k := fun {n k} h => c_local (G := G) (ng := ng) C h1 h2 hL (by first | exact dn hd rfl | exact dt hd rfl | exact dc hd rfl | exact dc0 hd rfl | exact dcn hd rfl | exact ds hd rfl | exact ds0 hd | exact dn hdd rfl | exact dt hdd rfl | (first | lia | omega)) h
  refine C.by' (fi := f51) rfl rfl ?_
  cases hh with
  | loc n =>
    conv => whnf
    rw [h1]; conv => whnf
    rw [h2]; conv => whnf
    refine br_intro (fun q => ?_) (fun q => ?_)
    · conv => whnf
      rw [h1]; conv => whnf
      refine loc ?_
      exact ⟨⟨by decide, rfl⟩, h⟩
    · have e : lk L n = n := by
        unfold lk
        cases e : L n with
        | none => rfl
        | some _ => rw [e] at q; cases q
      simp only [T.hd, T.ps, turnH, e] at h
      exact h
  | setl n =>
    obtain ⟨p, hp⟩ := one_T ht.1.1
    subst hp
    conv => whnf
    rw [h1]; conv => whnf
    refine loc ?_
    exact ⟨⟨by decide, rfl⟩, h⟩
  | lam l xs r =>
    obtain ⟨p, hp⟩ := one_T ht.1.1
    subst hp
    have hx := ht.1.2.2.1
    have e1 : (xs.map PV.int).length = xs.length := List.length_map _
    refine And.intro (by (first | lia | omega)) ?_
    refine compP_map PV.int (fun n => PV.int (lk L n)) xs (fun n hn k hk => ?_) ?_
    · conv => whnf
      rw [h1]; conv => whnf
      exact loc hk
    have e2 : xs.map (fun n => PV.int (lk L n)) = (xs.map (lk L)).map PV.int := by rw [List.map_map]; rfl
    rw [e2]
    refine br_intro (fun q => ?_) (fun q => ?_)
    · conv => whnf
      rw [h1]; conv => whnf
      refine loc ?_
      conv => whnf
      rw [h1]; conv => whnf
      refine c_label (nl := nl) C h1 h3 hG (by first | exact dn hd rfl | exact dt hd rfl | exact dc hd rfl | exact dc0 hd rfl | exact dcn hd rfl | exact ds hd rfl | exact ds0 hd | exact dn hdd rfl | exact dt hdd rfl | (first | lia | omega)) ?_
      refine And.intro (⟨by decide, rfl⟩) ?_
      simp only [T.hd, T.ps, turnH, if_pos (of_decide_eq_true q)] at h
      exact h
    · conv => whnf
      rw [h1]; conv => whnf
      refine c_label (nl := nl) C h1 h3 hG (by first | exact dn hd rfl | exact dt hd rfl | exact dc hd rfl | exact dc0 hd rfl | exact dcn hd rfl | exact ds hd rfl | exact ds0 hd | exact dn hdd rfl | exact dt hdd rfl | (first | lia | omega)) ?_
      refine And.intro (⟨by decide, rfl⟩) ?_
      simp only [T.hd, T.ps, turnH, if_neg (of_decide_eq_false q)] at h
      exact h
  | fix ns =>
    have hx := ht.1.2.1
    have e1 : (ns.map PV.int).length = ns.length := List.length_map _
    refine And.intro (by (first | lia | omega)) ?_
    refine compP_map PV.int (fun n => PV.int (lk L n)) ns (fun n hn k hk => ?_) ?_
    · conv => whnf
      rw [h1]; conv => whnf
      exact loc hk
    have e2 : ns.map (fun n => PV.int (lk L n)) = (ns.map (lk L)).map PV.int := by rw [List.map_map]; rfl
    rw [e2]
    exact ⟨⟨by decide, rfl⟩, h⟩
  | _ =>
    exact h
end
end Mine
end
section
open PySem PySem.W PyProof.Rows Builtin Builtin.ObjectAttr
set_option Elab.async false
set_option maxRecDepth 100000
namespace Mine

noncomputable def WS (ds : List Int) (a b u : Int) (t : DF) (nt : Nat) : Sig :=
  [cl ds, cl [a, b], .inst 12 [.c 3, .p (.int u), .c 5, .c 6, .p .none], .inst 13 [.p (.lst []), .c 4], .dict (fun _ => none) 0, .dict t nt, .dict (fun _ => none) 0]
noncomputable def RS (ds : List Int) (a b u : Int) (t : DF) (nt : Nat) (L : DF) (nl : Nat) (G : DF) (ng : Nat) : Sig :=
  [cl ds, cl [a, b], .inst 12 [.c 3, .p (.int u), .c 5, .c 6, .p .none], .inst 13 [.p (.lst []), .c 4], .dict (fun _ => none) 0, .dict t nt, .dict (fun _ => none) 0, .inst 11 [.c 8, .c 9], .dict L nl, .dict G ng]

mutual
theorem pre_bs : ∀ t : T, (pre t).flatMap (·.hd.bs) = bnds t
  | .node h ps => by rw [pre, List.flatMap_cons, pres_bs ps, bnds]; rfl
theorem pres_bs : ∀ ps : List T, (pres ps).flatMap (·.hd.bs) = bndss ps
  | [] => rfl
  | t :: r => by rw [pres, List.flatMap_append, pre_bs t, pres_bs r, bndss]
end
mutual
theorem pre_lab : ∀ t : T, (pre t).flatMap (·.hd.lab) = labs t
  | .node h ps => by rw [pre, List.flatMap_cons, pres_lab ps, labs]; rfl
theorem pres_lab : ∀ ps : List T, (pres ps).flatMap (·.hd.lab) = labss ps
  | [] => rfl
  | t :: r => by rw [pres, List.flatMap_append, pre_lab t, pres_lab r, labss]
end
mutual
theorem pre_wf : ∀ t : T, t.wf → ∀ u ∈ pre t, u.wf
  | .node h ps, ht, u, hu => by
    rw [pre] at hu
    rcases List.mem_cons.mp hu with rfl | hu
    · exact ht
    · rw [T.wf] at ht
      exact pres_wf ps ht.2 u hu
theorem pres_wf : ∀ ps : List T, wfs ps → ∀ u ∈ pres ps, u.wf
  | t :: r, ht, u, hu => by
    rw [pres] at hu
    rw [wfs] at ht
    rcases List.mem_append.mp hu with hu | hu
    · exact pre_wf t ht.1 u hu
    · exact pres_wf r ht.2 u hu
end

section
variable {P : Nat → CP} {σ R : Sig} {d : Nat} {k : XV → Sig → Prop}

theorem c_fresh (C : Calls P) {c0 c1 : Cell} {x0 x2 x3 x4 : XV} {u : Int} (hd : 1 ≤ d) (h : k (.p (.int (u + 1))) (c0 :: c1 :: .inst 12 [x0, .p (.int (u + 1)), x2, x3, x4] :: R)) : P d 57 [.c 2] (c0 :: c1 :: .inst 12 [x0, .p (.int u), x2, x3, x4] :: R) k := by
  obtain ⟨d, rfl⟩ : ∃ e, d = e + 1 := ⟨d - 1, by (first | lia | omega)⟩
  refine C.by' (fi := f57) rfl rfl ?_
  refine And.intro (Nat.le_of_ble_eq_true rfl) ?_
  exact h

theorem bn_loop (C : Calls P) (hd : 1 ≤ d) {ds : List Int} {a b : Int} {G t : DF} {ng nt : Nat} {n₀ : Nat} : ∀ (ns : List Int) (u : Int) (L : DF) (nl : Nat) (bs : List Int) (x0 x3 x4 x5 : Option XV) (K : Fl → Locs → Sig → Prop), 200 ≤ u → RMap L u bs → nl + ns.length ≤ 200000 →
    (∀ u' L' nl' y5, u ≤ u' → nl' ≤ nl + ns.length → RMap L' u' (bs ++ ns) → K .next [x0, some (.c 2), some (.c 7), x3, x4, y5] (RS ds a b u' t nt L' nl' G ng)) →
    forP 5 (fun L σ' k => vcSs (P d) n₀ (loopAt 1 (loopAt 1 b18)) L σ' k) (ns.map .int) [x0, some (.c 2), some (.c 7), x3, x4, x5] (RS ds a b u t nt L nl G ng) K := by
  have hlim : lim = 1048576 := rfl
  intro ns
  induction ns with
  | nil =>
    intro u L nl bs x0 x3 x4 x5 K hu hL hl hK
    exact hK u L nl x5 (Int.le_refl _) (Nat.le_refl _) (by rw [List.append_nil]; exact hL)
  | cons n r ih =>
    intro u L nl bs x0 x3 x4 x5 K hu hL hl hK
    rw [List.length_cons] at hl hK
    refine c_fresh C hd ?_
    refine And.intro (by (first | lia | omega)) ?_
    refine ih (u + 1) (putD L n (.int (u + 1))) (nl + 1) (bs ++ [n]) _ _ _ _ K (by first | exact dn hd rfl | exact dt hd rfl | exact dc hd rfl | exact dc0 hd rfl | exact dcn hd rfl | exact ds hd rfl | exact ds0 hd | exact dn hdd rfl | exact dt hdd rfl | (first | lia | omega)) (hL.put hu) (by first | exact dn hd rfl | exact dt hd rfl | exact dc hd rfl | exact dc0 hd rfl | exact dcn hd rfl | exact ds hd rfl | exact ds0 hd | exact dn hdd rfl | exact dt hdd rfl | (first | lia | omega)) fun u' L' nl' y5 h1 h2 h3 => ?_
    rw [List.append_assoc] at h3
    exact hK u' L' nl' y5 (by first | exact dn hd rfl | exact dt hd rfl | exact dc hd rfl | exact dc0 hd rfl | exact dcn hd rfl | exact ds hd rfl | exact ds0 hd | exact dn hdd rfl | exact dt hdd rfl | (first | lia | omega)) (by first | exact dn hd rfl | exact dt hd rfl | exact dc hd rfl | exact dc0 hd rfl | exact dcn hd rfl | exact ds hd rfl | exact ds0 hd | exact dn hdd rfl | exact dt hdd rfl | (first | lia | omega)) h3

theorem rn_loop (C : Calls P) (hd : 2 ≤ d) {ds : List Int} {a b : Int} {t0 : DF} {n₀ : Nat} : ∀ (qs : List T) (u : Int) (L G t : DF) (nl ng nt : Nat) (bs cs : List Int) (x0 x3 x4 x5 : Option XV) (K : Fl → Locs → Sig → Prop),
    (∀ w ∈ qs, w.wf ∧ In200 w.hd.lab) → 200 ≤ u → RMap L u bs → RMap G u cs → Ttl t t0 G u → nl + 9 * qs.length ≤ 100000 → ng + qs.length ≤ 100000 → nt + qs.length ≤ 100000 →
    (∀ u' L' G' t' nl' ng' nt' y3 y4 y5, nt' ≤ nt + qs.length → 200 ≤ u' → RMap L' u' (bs ++ qs.flatMap (·.hd.bs)) → RMap G' u' (cs ++ qs.flatMap (·.hd.lab)) → Ttl t' t0 G' u' → K .next [x0, some (.c 2), some (.c 7), y3, y4, y5] (RS ds a b u' t' nt' L' nl' G' ng')) →
    forP 3 (fun L σ' k => vcSs (P d) n₀ (loopAt 1 b18) L σ' k) (qs.map enc) [x0, some (.c 2), some (.c 7), x3, x4, x5] (RS ds a b u t nt L nl G ng) K := by
  have hlim : lim = 1048576 := rfl
  intro qs
  induction qs with
  | nil =>
    intro u L G t nl ng nt bs cs x0 x3 x4 x5 K hw hu hL hG hT h1 h2 h3 hK
    exact hK u L G t nl ng nt x3 x4 x5 (Nat.le_refl _) hu (by rw [List.flatMap_nil, List.append_nil]; exact hL) (by rw [List.flatMap_nil, List.append_nil]; exact hG) hT
  | cons w r ih =>
    intro u L G t nl ng nt bs cs x0 x3 x4 x5 K hw hu hL hG hT h1 h2 h3 hK
    rw [List.length_cons] at h1 h2 h3 hK
    obtain ⟨hwf, hlab⟩ := hw w (.head _)
    obtain ⟨h, ps⟩ := w
    have hb := Hd.bs_len (T.wf.eq_1 h ps ▸ hwf).1
    have e1 : (h.bs.map PV.int).length = h.bs.length := List.length_map _
    have tail : ∀ (u : Int) (G t : DF) (ng' nt' : Nat) (x4 : Option XV), 200 ≤ u → RMap L u bs → RMap G u (cs ++ h.lab) → Ttl t t0 G u → ng' ≤ ng + 1 → nt' ≤ nt + 1 →
        vcSs (P d) n₀ (dropS 1 (loopAt 1 b18)) [x0, some (.c 2), some (.c 7), some (.p (enc (.node h ps))), x4, x5] (RS ds a b u t nt' L nl G ng')
          (fun f L₁ σ₁ => match f with
            | .next => forP 3 (fun L σ' k => vcSs (P d) n₀ (loopAt 1 b18) L σ' k) (r.map enc) L₁ σ₁ K
            | .ret v => K (.ret v) L₁ σ₁) := by
      intro u G t ng' nt' x4 hu hL hG hT q1 q2
      refine c_binders_of C hwf (by first | exact dn hd rfl | exact dt hd rfl | exact dc hd rfl | exact dc0 hd rfl | exact dcn hd rfl | exact ds hd rfl | exact ds0 hd | exact dn hdd rfl | exact dt hdd rfl | (first | lia | omega)) ?_
      refine And.intro (by show (h.bs.map PV.int).length ≤ lim; (first | lia | omega)) ?_
      refine bn_loop C (by first | exact dn hd rfl | exact dt hd rfl | exact dc hd rfl | exact dc0 hd rfl | exact dcn hd rfl | exact ds hd rfl | exact ds0 hd | exact dn hdd rfl | exact dt hdd rfl | (first | lia | omega)) h.bs u L nl bs _ _ _ _ _ hu hL (by first | exact dn hd rfl | exact dt hd rfl | exact dc hd rfl | exact dc0 hd rfl | exact dcn hd rfl | exact ds hd rfl | exact ds0 hd | exact dn hdd rfl | exact dt hdd rfl | (first | lia | omega)) fun u' L' nl' y5 a1 a2 a3 => ?_
      refine ih u' L' G t nl' ng' nt' (bs ++ h.bs) (cs ++ h.lab) _ _ _ _ K (fun x hx => hw x (.tail _ hx)) (by first | exact dn hd rfl | exact dt hd rfl | exact dc hd rfl | exact dc0 hd rfl | exact dcn hd rfl | exact ds hd rfl | exact ds0 hd | exact dn hdd rfl | exact dt hdd rfl | (first | lia | omega)) a3 (hG.mono a1) (hT.mono a1) (by first | exact dn hd rfl | exact dt hd rfl | exact dc hd rfl | exact dc0 hd rfl | exact dcn hd rfl | exact ds hd rfl | exact ds0 hd | exact dn hdd rfl | exact dt hdd rfl | (first | lia | omega)) (by first | exact dn hd rfl | exact dt hd rfl | exact dc hd rfl | exact dc0 hd rfl | exact dcn hd rfl | exact ds hd rfl | exact ds0 hd | exact dn hdd rfl | exact dt hdd rfl | (first | lia | omega)) (by first | exact dn hd rfl | exact dt hd rfl | exact dc hd rfl | exact dc0 hd rfl | exact dcn hd rfl | exact ds hd rfl | exact ds0 hd | exact dn hdd rfl | exact dt hdd rfl | (first | lia | omega)) fun u' L' G' t' nl' ng' nt' y3 y4 y5 b0 b1 b2 b3 b4 => ?_
      rw [List.append_assoc] at b2 b3
      exact hK u' L' G' t' nl' ng' nt' y3 y4 y5 (by first | exact dn hd rfl | exact dt hd rfl | exact dc hd rfl | exact dc0 hd rfl | exact dcn hd rfl | exact ds hd rfl | exact ds0 hd | exact dn hdd rfl | exact dt hdd rfl | (first | lia | omega)) b1 b2 b3 b4
    have keep : h.lab = [] → RMap G u (cs ++ h.lab) := fun e => by rw [e, List.append_nil]; exact hG
    cases h with
    | lam l xs q =>
      obtain ⟨l0, l1⟩ := hlab l (.head _)
      refine c_fresh C (by first | exact dn hd rfl | exact dt hd rfl | exact dc hd rfl | exact dc0 hd rfl | exact dcn hd rfl | exact ds hd rfl | exact ds0 hd | exact dn hdd rfl | exact dt hdd rfl | (first | lia | omega)) ?_
      refine And.intro (by (first | lia | omega)) ?_
      refine br_intro (fun e => ?_) (fun e => ?_)
      · obtain ⟨x, hx⟩ := Option.isSome_iff_exists.mp e
        conv => whnf
        refine someP_i hx ?_
        refine And.intro (by (first | lia | omega)) ?_
        exact tail (u + 1) (putD G l (.int (u + 1))) (putD t (u + 1) x) (ng + 1) (nt + 1) _ (by first | exact dn hd rfl | exact dt hd rfl | exact dc hd rfl | exact dc0 hd rfl | exact dcn hd rfl | exact ds hd rfl | exact ds0 hd | exact dn hdd rfl | exact dt hdd rfl | (first | lia | omega)) (hL.mono (by first | exact dn hd rfl | exact dt hd rfl | exact dc hd rfl | exact dc0 hd rfl | exact dcn hd rfl | exact ds hd rfl | exact ds0 hd | exact dn hdd rfl | exact dt hdd rfl | (first | lia | omega))) (hG.put hu) (hT.some' hu l1 hG hx) (Nat.le_refl _) (Nat.le_refl _)
      · have hx : t l = none := by
          cases q : t l with
          | none => rfl
          | some _ => rw [q] at e; cases e
        exact tail (u + 1) (putD G l (.int (u + 1))) t (ng + 1) nt _ (by first | exact dn hd rfl | exact dt hd rfl | exact dc hd rfl | exact dc0 hd rfl | exact dcn hd rfl | exact ds hd rfl | exact ds0 hd | exact dn hdd rfl | exact dt hdd rfl | (first | lia | omega)) (hL.mono (by first | exact dn hd rfl | exact dt hd rfl | exact dc hd rfl | exact dc0 hd rfl | exact dcn hd rfl | exact ds hd rfl | exact ds0 hd | exact dn hdd rfl | exact dt hdd rfl | (first | lia | omega))) (hG.put hu) (hT.none' hu l1 hG hx) (Nat.le_refl _) (Nat.le_succ _)
    | _ =>
      exact tail u G t ng nt _ hu hL (keep rfl) hT (Nat.le_succ _) (Nat.le_succ _)

theorem c_renaming (C : Calls P) {c0 c1 c2 c3 c4 c5 c6 : Cell} (hd : 1 ≤ d) (h : k (.p .none) [c0, c1, c2, c3, c4, c5, c6, .inst 11 [.c 8, .c 9], .dict (fun _ => none) 0, .dict (fun _ => none) 0]) : P d 48 [.c 7] [c0, c1, c2, c3, c4, c5, c6, .inst 11 []] k := by
  obtain ⟨d, rfl⟩ : ∃ e, d = e + 1 := ⟨d - 1, by (first | lia | omega)⟩
  refine C.by' (fi := f48) rfl rfl ?_
  refine And.intro (Nat.le_of_ble_eq_true rfl) ?_
  refine And.intro (Nat.le_of_ble_eq_true rfl) ?_
  exact h

theorem c_renumbered (C : Calls P) {ds : List Int} {a b : Int} {t0 : DF} {nt : Nat} {t : T} (ht : t.wf) (hz : t.sz ≤ 1000) (hlab : In200 (labs t)) (h0 : ∀ z, 200 < z → t0 z = none) (hnt : nt ≤ 1000) (hd : 5 ≤ d)
    (h : ∀ u L G t' nt', nt' ≤ 3000 → 200 ≤ u → RMap L u (bnds t) → RMap G u (labs t) → Ttl t' t0 G u → k (.p (enc (ren (turnH L G) t))) (WS ds a b u t' nt')) : P d 18 [.p (enc t), .c 2] (WS ds a b 200 t0 nt) k := by
  obtain ⟨d, rfl⟩ : ∃ e, d = e + 1 := ⟨d - 1, by (first | lia | omega)⟩
  have hlim : lim = 1048576 := rfl
  refine C.drop ?_
  refine C.by' (fi := f18) rfl rfl ?_
  refine c_renaming C (by first | exact dn hd rfl | exact dt hd rfl | exact dc hd rfl | exact dc0 hd rfl | exact dcn hd rfl | exact ds hd rfl | exact ds0 hd | exact dn hdd rfl | exact dt hdd rfl | (first | lia | omega)) ?_
  refine And.intro (rfl) ?_
  refine c_all C ht hz (by first | exact dn hd rfl | exact dt hd rfl | exact dc hd rfl | exact dc0 hd rfl | exact dcn hd rfl | exact ds hd rfl | exact ds0 hd | exact dn hdd rfl | exact dt hdd rfl | (first | lia | omega)) ?_
  have hp := pre_len t
  refine And.intro (by rw [List.length_map]; (first | lia | omega)) ?_
  refine rn_loop C (by first | exact dn hd rfl | exact dt hd rfl | exact dc hd rfl | exact dc0 hd rfl | exact dcn hd rfl | exact ds hd rfl | exact ds0 hd | exact dn hdd rfl | exact dt hdd rfl | (first | lia | omega)) (pre t) 200 (fun _ => none) (fun _ => none) t0 0 0 nt [] [] _ _ _ _ _ (fun w hw => ⟨pre_wf t ht w hw, fun l hl => hlab l ?_⟩) (Int.le_refl _) (RMap.nil _) (RMap.nil _) ⟨fun _ _ => rfl, h0, fun _ _ e => by cases e⟩ (by first | exact dn hd rfl | exact dt hd rfl | exact dc hd rfl | exact dc0 hd rfl | exact dcn hd rfl | exact ds hd rfl | exact ds0 hd | exact dn hdd rfl | exact dt hdd rfl | (first | lia | omega)) (by first | exact dn hd rfl | exact dt hd rfl | exact dc hd rfl | exact dc0 hd rfl | exact dcn hd rfl | exact ds hd rfl | exact ds0 hd | exact dn hdd rfl | exact dt hdd rfl | (first | lia | omega)) (by first | exact dn hd rfl | exact dt hd rfl | exact dc hd rfl | exact dc0 hd rfl | exact dcn hd rfl | exact ds hd rfl | exact ds0 hd | exact dn hdd rfl | exact dt hdd rfl | (first | lia | omega)) fun u' L' G' t' nl' ng' nt' y3 y4 y5 b0 b1 b2 b3 b4 => ?_
  · rw [← pre_lab]
    exact List.mem_flatMap.mpr ⟨w, hw, hl⟩
  · rw [List.nil_append, pre_bs] at b2
    rw [List.nil_append, pre_lab] at b3
    refine c_rebuilt (σ := RS ds a b u' t' nt' L' nl' G' ng') (dt := 2) C (Nat.le_of_ble_eq_true rfl) (by rfl) (turnH_ok b2 b3) (fun {t σ' d k} hd ht hσ hk => c_turned (L := L') (G := G') (nl := nl') (ng := ng') C (by rw [hσ 7 (Nat.le_of_ble_eq_true rfl)]; rfl) (by rw [hσ 8 (Nat.le_of_ble_eq_true rfl)]; rfl) (by rw [hσ 9 (Nat.le_of_ble_eq_true rfl)]; rfl) b2 b3 ht hd hk) ht hz (by first | exact dn hd rfl | exact dt hd rfl | exact dc hd rfl | exact dc0 hd rfl | exact dcn hd rfl | exact ds hd rfl | exact ds0 hd | exact dn hdd rfl | exact dt hdd rfl | (first | lia | omega)) (by first | exact dn hd rfl | exact dt hd rfl | exact dc hd rfl | exact dc0 hd rfl | exact dcn hd rfl | exact ds hd rfl | exact ds0 hd | exact dn hdd rfl | exact dt hdd rfl | (first | lia | omega)) ?_
    refine ⟨WS ds a b u' t' nt', [.inst 11 [.c 8, .c 9], .dict L' nl', .dict G' ng'], rfl, rfl, fun i c fs e => ?_, .inl ⟨trivial, h u' L' G' t' nt' (by first | exact dn hd rfl | exact dt hd rfl | exact dc hd rfl | exact dc0 hd rfl | exact dcn hd rfl | exact ds hd rfl | exact ds0 hd | exact dn hdd rfl | exact dt hdd rfl | (first | lia | omega)) b1 b2 b3 b4⟩⟩
    match i, e with
    | 0, e => cases e
    | 1, e => cases e
    | 2, e =>
      cases e
      refine .inr fun x hx => ?_
      simp only [List.mem_cons, List.not_mem_nil, or_false] at hx
      rcases hx with rfl | rfl | rfl | rfl | rfl
      · exact (by decide : 3 < 7)
      · trivial
      · exact (by decide : 5 < 7)
      · exact (by decide : 6 < 7)
      · trivial
    | 3, e => exact .inl e
    | 4, e => cases e
    | 5, e => cases e
    | 6, e => cases e
    | n + 7, e => cases e
end
end Mine
end
section
open PySem PySem.W PyProof.Rows Builtin Builtin.ObjectAttr
set_option Elab.async false
set_option maxRecDepth 100000
namespace Mine

/-! ## titles -/
/-- titles so far: strings, none above 200 -/
noncomputable def TT (t : DF) : Prop := (∀ z, 200 < z → t z = none) ∧ ∀ z p, t z = some p → ∃ s, p = .str s ∧ PyData.strOk s = true
theorem TT.none : TT fun _ => none := ⟨fun _ _ => rfl, fun _ _ e => (by cases e)⟩
theorem TT.put {t : DF} {l : Int} {s : Str} (h : TT t) (hl : l ≤ 200) (hs : PyData.strOk s = true) : TT (putD t l (.str s)) := by
  refine ⟨fun z hz => ?_, fun z p e => ?_⟩
  · unfold putD; rw [if_neg (by first | exact dn hd rfl | exact dt hd rfl | exact dc hd rfl | exact dc0 hd rfl | exact dcn hd rfl | exact ds hd rfl | exact ds0 hd | exact dn hdd rfl | exact dt hdd rfl | (first | lia | omega))]; exact h.1 z hz
  · unfold putD at e
    split at e
    · cases e; exact ⟨s, rfl, hs⟩
    · exact h.2 z p e
theorem t_ok (n : Int) : PyData.strOk (Txt.mul (Str.ofString "t") n) = true := by
  unfold PyData.strOk
  rw [← Array.all_toList, show Str.ofString "t" = ⟨#[116]⟩ from by rfl, mul_one_list, List.all_eq_true]
  intro x hx
  rw [List.eq_of_mem_replicate hx]; rfl
noncomputable def tit (t : DF) (l : Int) : PV := (t l).getD (.str (Str.ofString ""))

section
variable {P : Nat → CP} {σ R : Sig} {d : Nat} {k : XV → Sig → Prop}

theorem c_table (C : Calls P) {c0 c1 : Cell} (hd : 1 ≤ d) (h : k (.p .none) [c0, c1, .inst 12 [], .inst 13 [.p (.lst []), .c 4], .dict (fun _ => none) 0]) : P d 52 [.c 3] [c0, c1, .inst 12 [], .inst 13 []] k := by
  obtain ⟨d, rfl⟩ : ∃ e, d = e + 1 := ⟨d - 1, by (first | lia | omega)⟩
  refine C.by' (fi := f52) rfl rfl ?_
  refine And.intro (Nat.le_of_ble_eq_true rfl) ?_
  refine And.intro (Nat.le_of_ble_eq_true rfl) ?_
  exact h
theorem c_names (C : Calls P) {ds : List Int} {a b : Int} (hd : 2 ≤ d) (h : k (.p .none) (WS ds a b 0 (fun _ => none) 0)) : P d 56 [.c 2] [cl ds, cl [a, b], .inst 12 []] k := by
  obtain ⟨d, rfl⟩ : ∃ e, d = e + 1 := ⟨d - 1, by (first | lia | omega)⟩
  refine C.by' (fi := f56) rfl rfl ?_
  refine c_table C (by first | exact dn hd rfl | exact dt hd rfl | exact dc hd rfl | exact dc0 hd rfl | exact dcn hd rfl | exact ds hd rfl | exact ds0 hd | exact dn hdd rfl | exact dt hdd rfl | (first | lia | omega)) ?_
  refine And.intro (rfl) ?_
  refine And.intro (Nat.le_of_ble_eq_true rfl) ?_
  refine And.intro (Nat.le_of_ble_eq_true rfl) ?_
  refine And.intro (Nat.le_of_ble_eq_true rfl) ?_
  refine And.intro (Nat.le_of_ble_eq_true rfl) ?_
  refine And.intro (Nat.le_of_ble_eq_true rfl) ?_
  exact h
theorem c_set_title (C : Calls P) {ds : List Int} {a b u l : Int} {t : DF} {nt : Nat} {s : Str} (ht : TT t) (hl : l ≤ 200) (hs : PyData.strOk s = true) (hn : nt ≤ 100000) (hd : 1 ≤ d) (h : ∀ t' nt', nt' ≤ nt + 1 → TT t' → k (.p .none) (WS ds a b u t' nt')) :
    P d 58 [.c 2, .p (.int l), .p (.str s)] (WS ds a b u t nt) k := by
  obtain ⟨d, rfl⟩ : ∃ e, d = e + 1 := ⟨d - 1, by (first | lia | omega)⟩
  have hlim : lim = 1048576 := rfl
  refine C.by' (fi := f58) rfl rfl ?_
  refine br_intro (fun e => ?_) (fun e => ?_)
  · refine And.intro (by (first | lia | omega)) ?_
    exact h (putD t l (.str s)) (nt + 1) (Nat.le_refl _) (ht.put hl hs)
  · exact h t nt (Nat.le_succ _) ht
theorem c_title_of (C : Calls P) {ds : List Int} {a b u l : Int} {t : DF} {nt : Nat} (hd : 1 ≤ d) (h : k (.p (tit t l)) (WS ds a b u t nt)) : P d 59 [.c 2, .p (.int l)] (WS ds a b u t nt) k := by
  obtain ⟨d, rfl⟩ : ∃ e, d = e + 1 := ⟨d - 1, by (first | lia | omega)⟩
  refine C.by' (fi := f59) rfl rfl ?_
  exact h
end

/-! ## what the renaming does to a tree -/
section
variable {L G : DF} {u : Int} {bs cs : List Int}
theorem turn_nums (hL : RMap L u bs) (h : Hd) : (turnH L G h).nums = h.nums.map (lk L) := by
  cases h with
  | lam l xs r =>
    simp only [turnH, Hd.nums, List.map_append]
    by_cases q : 0 ≤ r
    · rw [if_pos q, if_pos q, if_pos (hL.lk_nonneg q)]; rfl
    · rw [if_neg q, if_neg q]; rfl
  | _ => rfl
theorem turn_bs (hL : RMap L u bs) (h : Hd) : (turnH L G h).bs = h.bs.map (lk L) := by
  cases h with
  | lam l xs r =>
    simp only [turnH, Hd.bs, List.map_append]
    by_cases q : 0 ≤ r
    · rw [if_pos q, if_pos q, if_pos (hL.lk_nonneg q)]; rfl
    · rw [if_neg q, if_neg q]; rfl
  | _ => rfl
theorem turn_lab (h : Hd) : (turnH L G h).lab = h.lab.map (lk G) := by cases h <;> rfl
theorem turn_kind (h : Hd) : (turnH L G h).kind = h.kind := by cases h <;> rfl
theorem turn_c3D (hL : RMap L u bs) (h : Hd) : (turnH L G h).c3D = h.c3D := by
  cases h with
  | lam l xs r =>
    simp only [turnH, Hd.c3D]
    by_cases q : 0 ≤ r
    · rw [if_pos q, decide_eq_true q, decide_eq_true (hL.lk_nonneg q)]
    · rw [if_neg q, decide_eq_false q]; rfl
  | _ => rfl
mutual
theorem ren_nums (hL : RMap L u bs) : ∀ t : T, nums (ren (turnH L G) t) = (nums t).map (lk L)
  | .node h ps => by rw [ren, nums, nums, turn_nums hL, List.map_append, rens_nums hL ps]
theorem rens_nums (hL : RMap L u bs) : ∀ ps : List T, numss (rens (turnH L G) ps) = (numss ps).map (lk L)
  | [] => rfl
  | t :: r => by rw [rens, numss, numss, ren_nums hL t, rens_nums hL r, List.map_append]
end
mutual
theorem ren_bnds (hL : RMap L u bs) : ∀ t : T, bnds (ren (turnH L G) t) = (bnds t).map (lk L)
  | .node h ps => by rw [ren, bnds, bnds, turn_bs hL, List.map_append, rens_bnds hL ps]
theorem rens_bnds (hL : RMap L u bs) : ∀ ps : List T, bndss (rens (turnH L G) ps) = (bndss ps).map (lk L)
  | [] => rfl
  | t :: r => by rw [rens, bndss, bndss, ren_bnds hL t, rens_bnds hL r, List.map_append]
end
mutual
theorem ren_labs : ∀ t : T, labs (ren (turnH L G) t) = (labs t).map (lk G)
  | .node h ps => by rw [ren, labs, labs, turn_lab, List.map_append, rens_labs ps]
theorem rens_labs : ∀ ps : List T, labss (rens (turnH L G) ps) = (labss ps).map (lk G)
  | [] => rfl
  | t :: r => by rw [rens, labss, labss, ren_labs t, rens_labs r, List.map_append]
end
mutual
theorem ren_bar (hL : RMap L u bs) : ∀ t : T, barD (ren (turnH L G) t) = barD t
  | .node h ps => by rw [ren, barD, barD, turn_kind, turn_nums hL, turn_lab, turn_c3D hL, rens_bar hL ps, List.length_map, List.isEmpty_map]
theorem rens_bar (hL : RMap L u bs) : ∀ ps : List T, barDs (rens (turnH L G) ps) = barDs ps
  | [] => rfl
  | t :: r => by rw [rens, barDs, barDs, ren_bar hL t, rens_bar hL r]
end
mutual
theorem ren_sz (F : Hd → Hd) : ∀ t : T, (ren F t).sz = t.sz
  | .node h ps => by rw [ren, T.sz, T.sz, rens_sz F ps]
theorem rens_sz (F : Hd → Hd) : ∀ ps : List T, szs (rens F ps) = szs ps
  | [] => rfl
  | t :: r => by rw [rens, szs, szs, ren_sz F t, rens_sz F r]
end
mutual
theorem ren_wf {F : Hd → Hd} (hF : ∀ h n, Hd.ok h n → Hd.ok (F h) n) : ∀ t : T, t.wf → (ren F t).wf
  | .node h ps, ht => by
    rw [T.wf] at ht
    rw [ren, T.wf, rens_map, List.length_map, ← rens_map]
    exact ⟨hF _ _ ht.1, rens_wf hF ps ht.2⟩
theorem rens_wf {F : Hd → Hd} (hF : ∀ h n, Hd.ok h n → Hd.ok (F h) n) : ∀ ps : List T, wfs ps → wfs (rens F ps)
  | [], _ => trivial
  | t :: r, ht => by
    rw [wfs] at ht
    rw [rens, wfs]
    exact ⟨ren_wf hF t ht.1, rens_wf hF r ht.2⟩
end
theorem RMap.new (h : RMap L u bs) {n : Int} (hn : n ∈ bs) : 200 < lk L n := by
  obtain ⟨p, hp⟩ := Option.isSome_iff_exists.mp ((h.dom n).mpr hn)
  obtain ⟨v, rfl, a, _⟩ := h.val n p hp
  unfold lk
  rw [hp]; exact a
theorem RMap.free (h : RMap L u bs) {n : Int} (hn : n ∉ bs) : lk L n = n := by
  unfold lk
  cases e : L n with
  | none => rfl
  | some p => exact absurd ((h.dom n).mp (by rw [e]; rfl)) hn
theorem RMap.inj' (h : RMap L u bs) {x y : Int} (hx : x ≤ 200) (hy : y ≤ 200) (e : lk L x = lk L y) : x = y := by
  by_cases p : x ∈ bs
  · by_cases q : y ∈ bs
    · obtain ⟨a, ha⟩ := Option.isSome_iff_exists.mp ((h.dom x).mpr p)
      obtain ⟨b, hb⟩ := Option.isSome_iff_exists.mp ((h.dom y).mpr q)
      obtain ⟨v, rfl, _, _⟩ := h.val x a ha
      obtain ⟨w, rfl, _, _⟩ := h.val y b hb
      unfold lk at e
      rw [ha, hb] at e
      dsimp only at e
      subst e
      exact h.inj x y v ha hb
    · have := h.new p
      rw [h.free q] at e
      (first | lia | omega)
  · by_cases q : y ∈ bs
    · have := h.new q
      rw [h.free p] at e
      (first | lia | omega)
    · rw [h.free p, h.free q] at e
      exact e
theorem pairing_map {a : List Int} (h : RMap L u bs) (ha : In200 a) : Pairing a (a.map (lk L)) ∧ Pairing (a.map (lk L)) a := by
  have key : ∀ i j : Nat, i < a.length → j < i → (a[i]? = a[j]? ↔ (a.map (lk L))[i]? = (a.map (lk L))[j]?) := fun i j hi hj => by
    have hj' : j < a.length := by (first | lia | omega)
    rw [List.getElem?_map, List.getElem?_map, List.getElem?_eq_getElem hi, List.getElem?_eq_getElem hj']
    simp only [Option.map_some, Option.some_inj]
    exact ⟨fun e => by rw [e], fun e => h.inj' (ha _ (List.getElem_mem hi)).2 (ha _ (List.getElem_mem hj')).2 e⟩
  exact ⟨key, fun i j hi hj => (key i j (by rwa [List.length_map] at hi) hj).symm⟩
theorem ren_alike {t : T} (hL : RMap L u (bnds t)) (hG : RMap G u (labs t)) (ht : TB t) : Alike t (ren (turnH L G) t) ∧ Alike (ren (turnH L G) t) t := by
  unfold Alike
  rw [ren_bar hL, ren_nums hL, ren_labs]
  exact ⟨⟨rfl, (pairing_map hL ht.1).1, (pairing_map hG ht.2).1⟩, ⟨rfl, (pairing_map hL ht.1).2, (pairing_map hG ht.2).2⟩⟩
end
end Mine
end
section
open PySem PySem.W PyProof.Rows Builtin Builtin.ObjectAttr
set_option Elab.async false
set_option maxRecDepth 100000
namespace Mine

theorem everyTwo_map {α β : Type} (f : α → β) : ∀ l : List α, everyTwo (l.map f) = (everyTwo l).map f
  | [] => rfl
  | [_] => rfl
  | a :: b :: r => by rw [List.map_cons, List.map_cons, everyTwo, everyTwo, List.map_cons, everyTwo_map f r]
theorem everyTwo_mem {α : Type} : ∀ {l : List α} {x : α}, x ∈ everyTwo l → x ∈ l
  | [a], _, h => h
  | a :: b :: r, x, h => by
    rw [everyTwo] at h
    rcases List.mem_cons.mp h with rfl | h
    · exact .head _
    · exact .tail _ (.tail _ (everyTwo_mem h))
theorem everyTwo_len {α : Type} : ∀ l : List α, (everyTwo l).length ≤ l.length
  | [] => Nat.le_refl _
  | [_] => Nat.le_refl _
  | a :: b :: r => by have := everyTwo_len r; rw [everyTwo, List.length_cons, List.length_cons, List.length_cons]; (first | lia | omega)

section
variable {P : Nat → CP} {σ R : Sig} {d : Nat} {k : XV → Sig → Prop}

/-- the labels get titles -/
theorem title_loop (C : Calls P) (hd : 1 ≤ d) {ds : List Int} {a b u : Int} {n₀ : Nat} : ∀ (ls : List Int) (t : DF) (nt : Nat) (x7 x8 x1 x2 x4 x5 x6 : Option XV) (r : Locs) (K : Fl → Locs → Sig → Prop), In200 ls → TT t → nt + ls.length ≤ 1000 →
    (∀ t' nt' y7, nt' ≤ nt + ls.length → TT t' → K .next (x1 :: x2 :: x4 :: some (.c 2) :: x5 :: x6 :: x8 :: y7 :: r) (WS ds a b u t' nt')) →
    forP 7 (fun L σ' k => vcSs (P d) n₀ (loopAt 5 b13) L σ' k) (ls.map .int) (x1 :: x2 :: x4 :: some (.c 2) :: x5 :: x6 :: x8 :: x7 :: r) (WS ds a b u t nt) K := by
  intro ls
  induction ls with
  | nil =>
    intro t nt x7 x8 x1 x2 x4 x5 x6 r K hl hT hn hK
    exact hK t nt x7 (Nat.le_refl _) hT
  | cons l r ih =>
    intro t nt x7 x8 x1 x2 x4 x5 x6 rr K hl hT hn hK
    rw [List.length_cons] at hn hK
    obtain ⟨l0, l1⟩ := hl l (.head _)
    refine And.intro (⟨by decide, l0, by (first | lia | omega)⟩) ?_
    refine c_set_title C hT l1 (t_ok l) (by first | exact dn hd rfl | exact dt hd rfl | exact dc hd rfl | exact dc0 hd rfl | exact dcn hd rfl | exact ds hd rfl | exact ds0 hd | exact dn hdd rfl | exact dt hdd rfl | (first | lia | omega)) hd fun t' nt' h1 h2 => ?_
    refine And.intro (trivial) ?_
    refine ih t' nt' _ _ _ _ _ _ _ _ K (fun x hx => hl x (.tail _ hx)) h2 (by first | exact dn hd rfl | exact dt hd rfl | exact dc hd rfl | exact dc0 hd rfl | exact dcn hd rfl | exact ds hd rfl | exact ds0 hd | exact dn hdd rfl | exact dt hdd rfl | (first | lia | omega)) fun t'' nt'' y7 h3 h4 => ?_
    exact hK t'' nt'' y7 (by first | exact dn hd rfl | exact dt hd rfl | exact dc hd rfl | exact dc0 hd rfl | exact dcn hd rfl | exact ds hd rfl | exact ds0 hd | exact dn hdd rfl | exact dt hdd rfl | (first | lia | omega)) h4

/-- all that is known once the second node stands -/
structure Sit (t : T) (L G t0 t' : DF) (u : Int) : Prop where
  ok : TOk 22 t
  lo : RMap L u (bnds t)
  la : RMap G u (labs t)
  ti : Ttl t' t0 G u
  tt : TT t0
  le : 200 ≤ u
theorem Sit.tit {t : T} {L G t0 t' : DF} {u : Int} (S : Sit t L G t0 t' u) {l : Int} (hl : l ∈ labs t) : tit t' (lk G l) = tit t' l ∧ ∃ s, tit t' l = .str s ∧ PyData.strOk s = true := by
  have h200 := S.ok.2.2.2 l hl
  obtain ⟨p, hp⟩ := Option.isSome_iff_exists.mp ((S.la.dom l).mpr hl)
  obtain ⟨v, rfl, _, _⟩ := S.la.val l p hp
  have e1 := S.ti.new l v hp
  have e2 := S.ti.old l h200.2
  have e3 : lk G l = v := by unfold lk; rw [hp]
  refine ⟨?_, ?_⟩
  · unfold Mine.tit
    rw [e3, e1, e2]
  · unfold Mine.tit
    rw [e2]
    cases q : t0 l with
    | none => exact ⟨Str.ofString "", rfl, by unfold PyData.strOk; rw [← Array.all_toList, show Str.ofString "" = ⟨#[]⟩ from by rfl]; rfl⟩
    | some p =>
      obtain ⟨s, rfl, hs⟩ := S.tt.2 l p q
      exact ⟨s, rfl, hs⟩
theorem toPys_strs : ∀ {ls : List PV}, (∀ x ∈ ls, ∃ s, x = .str s ∧ PyData.strOk s = true) → ∃ ds, toPy.toPys ls = some ds ∧ PyData.canLayAll0 ds = true ∧ PyData.depthAll ds = 0
  | [], _ => ⟨[], rfl, rfl, rfl⟩
  | x :: r, h => by
    obtain ⟨s, rfl, hs⟩ := h x (.head _)
    obtain ⟨ds, a, b, c⟩ := toPys_strs fun y hy => h y (.tail _ hy)
    refine ⟨.str s :: ds, ?_, ?_, ?_⟩
    · rw [toPy.toPys, a]; rfl
    · rw [PyData.canLayAll0, PyData.canLay0, hs, b]; rfl
    · rw [PyData.depthAll, PyData.depth, c]; rfl
theorem eqP_strs {ls : List PV} {k : Bool → Prop} (h : ∀ x ∈ ls, ∃ s, x = .str s ∧ PyData.strOk s = true) (hk : k true) : eqP (.lst ls) (.lst ls) k := by
  cases ls with
  | nil => exact hk
  | cons x r =>
    obtain ⟨ds, a, b, c⟩ := toPys_strs h
    have e : toPy (.lst (x :: r)) = some (.list ds) := by rw [toPy, a]; rfl
    have l0 : PyData.canLay0 (.list ds) = true := by rw [PyData.canLay0]; exact b
    have sh : PySem.SeqAt.shaped (.list ds) = true := by
      unfold PySem.SeqAt.shaped
      rw [l0, Bool.true_and, decide_eq_true_eq, PyData.depth, c]; decide
    refine datP_i e e sh sh ?_
    rw [eqv_refl _ l0]
    exact hk

/-- the locals of the law once the second node stands -/
noncomputable def LL (x0 x7 x14 x15 x16 x17 x18 x19 : Option XV) (t r : T) : Locs :=
  [x0, some (.c 0), some (.c 1), some (.c 2), some (.p (enc t)), some (.p (shp t)), some (.p (iv (labs t))), x7, some (.p (enc r)), some (.p (shp r)), some (.p (iv (nums t))), some (.p (iv (bnds t))),
    some (.p (.tup [iv (nums r), iv (labs r)])), some (.p (iv (bnds r))), x14, x15, x16, x17, x18, x19]

theorem third_loop (C : Calls P) (hd : 60 ≤ d) {t r : T} (ht : t.wf) (hz : t.sz ≤ 22) (hr : r.wf) (hrz : r.sz ≤ 22) {n₀ : Nat} : ∀ (xs : List PV) (ds : List Int) (x0 x7 x14 x15 x16 x17 x18 x19 : Option XV) (K : Fl → Locs → Sig → Prop), Deck ds →
    (∀ ds y15 y16, Deck ds → K .next (LL x0 x7 x14 y15 y16 x17 x18 x19 t r) (cl ds :: R)) →
    forP 15 (fun L σ' k => vcSs (P d) n₀ (loopAt 13 b13) L σ' k) xs (LL x0 x7 x14 x15 x16 x17 x18 x19 t r) (cl ds :: R) K := by
  intro xs
  induction xs with
  | nil =>
    intro ds x0 x7 x14 x15 x16 x17 x18 x19 K hD hK
    exact hK ds x15 x16 hD
  | cons x q ih =>
    intro ds x0 x7 x14 x15 x16 x17 x18 x19 K hD hK
    refine c_one C hD (by simp) (by decide) (by first | exact dn hd rfl | exact dt hd rfl | exact dc hd rfl | exact dc0 hd rfl | exact dcn hd rfl | exact ds hd rfl | exact ds0 hd | exact dn hdd rfl | exact dt hdd rfl | (first | lia | omega)) fun y ds hy hD => ?_
    obtain ⟨n, rfl, n0⟩ : ∃ n : Int, y = .int n ∧ 0 ≤ n := by
      simp only [List.mem_cons, List.not_mem_nil, or_false] at hy
      rcases hy with rfl | rfl | rfl | rfl | rfl | rfl | rfl | rfl <;> exact ⟨_, rfl, by decide⟩
    refine c_one C hD (by simp) (by decide) (by first | exact dn hd rfl | exact dt hd rfl | exact dc hd rfl | exact dc0 hd rfl | exact dcn hd rfl | exact ds hd rfl | exact ds0 hd | exact dn hdd rfl | exact dt hdd rfl | (first | lia | omega)) fun y ds hy hD => ?_
    obtain ⟨m, rfl, m0⟩ : ∃ n : Int, y = .int n ∧ 0 ≤ n := by
      simp only [List.mem_cons, List.not_mem_nil, or_false] at hy
      rcases hy with rfl | rfl | rfl | rfl <;> exact ⟨_, rfl, by decide⟩
    refine c_otherwise C n0 m0 r.sz (Nat.le_refl _) hr (by first | exact dn hd rfl | exact dt hd rfl | exact dc hd rfl | exact dc0 hd rfl | exact dcn hd rfl | exact ds hd rfl | exact ds0 hd | exact dn hdd rfl | exact dt hdd rfl | (first | lia | omega)) (by first | exact dn hd rfl | exact dt hd rfl | exact dc hd rfl | exact dc0 hd rfl | exact dcn hd rfl | exact ds hd rfl | exact ds0 hd | exact dn hdd rfl | exact dt hdd rfl | (first | lia | omega)) hD fun w ds hw hwz hD => ?_
    refine c_core C ht hw (by first | exact dn hd rfl | exact dt hd rfl | exact dc hd rfl | exact dc0 hd rfl | exact dcn hd rfl | exact ds hd rfl | exact ds0 hd | exact dn hdd rfl | exact dt hdd rfl | (first | lia | omega)) (by first | exact dn hd rfl | exact dt hd rfl | exact dc hd rfl | exact dc0 hd rfl | exact dcn hd rfl | exact ds hd rfl | exact ds0 hd | exact dn hdd rfl | exact dt hdd rfl | (first | lia | omega)) (by first | exact dn hd rfl | exact dt hd rfl | exact dc hd rfl | exact dc0 hd rfl | exact dcn hd rfl | exact ds hd rfl | exact ds0 hd | exact dn hdd rfl | exact dt hdd rfl | (first | lia | omega)) fun b1 hb1 => ?_
    refine c_shape C w.sz (Nat.le_refl _) hw (by first | exact dn hd rfl | exact dt hd rfl | exact dc hd rfl | exact dc0 hd rfl | exact dcn hd rfl | exact ds hd rfl | exact ds0 hd | exact dn hdd rfl | exact dt hdd rfl | (first | lia | omega)) (by first | exact dn hd rfl | exact dt hd rfl | exact dc hd rfl | exact dc0 hd rfl | exact dcn hd rfl | exact ds hd rfl | exact ds0 hd | exact dn hdd rfl | exact dt hdd rfl | (first | lia | omega)) ?_
    refine c_same C ht hw (by first | exact dn hd rfl | exact dt hd rfl | exact dc hd rfl | exact dc0 hd rfl | exact dcn hd rfl | exact ds hd rfl | exact ds0 hd | exact dn hdd rfl | exact dt hdd rfl | (first | lia | omega)) (by first | exact dn hd rfl | exact dt hd rfl | exact dc hd rfl | exact dc0 hd rfl | exact dcn hd rfl | exact ds hd rfl | exact ds0 hd | exact dn hdd rfl | exact dt hdd rfl | (first | lia | omega)) (by first | exact dn hd rfl | exact dt hd rfl | exact dc hd rfl | exact dc0 hd rfl | exact dcn hd rfl | exact ds hd rfl | exact ds0 hd | exact dn hdd rfl | exact dt hdd rfl | (first | lia | omega)) fun b2 hb2 => ?_
    have e : b1 = b2 := Bool.eq_iff_iff.mpr (hb1.trans hb2.symm)
    subst e
    refine br_intro (fun q => ?_) (fun q => ?_)
    · exfalso
      revert q
      cases b1 <;> decide
    · exact ih ds x0 x7 x14 _ _ x17 x18 x19 K hD hK

theorem alike_loc : Alike (.node (.loc 0) []) (.node (.loc 5) []) := ⟨rfl, fun i j hi hj => by simp [nums, Hd.nums, numss] at hi; (first | lia | omega), fun i j hi hj => by simp [labs, Hd.lab, labss] at hi⟩
theorem not_alike_seq : ¬ Alike (.node .seq [.node (.loc 1) [], .node (.loc 2) []]) (.node .seq [.node (.loc 3) [], .node (.loc 3) []]) := fun h => by
  have := h.2.1 1 0 (by decide) (by decide)
  revert this
  decide

theorem law_D (C : Calls P) (hd : 60 ≤ d) {t : T} {L G t0 t' : DF} {u : Int} (S : Sit t L G t0 t' u) {ds : List Int} {a b : Int} {nt n₀ : Nat} (hD : Deck ds) {x0 x7 x14 x15 x16 x17 x18 x19 : Option XV}
    (h : ∀ σ, k (.p (.bool true)) σ) : vcSs (P d) n₀ (dropS 12 b13) (LL x0 x7 x14 x15 x16 x17 x18 x19 t (ren (turnH L G) t)) (WS ds a b u t' nt) (retK k) := by
  have hlim : lim = 1048576 := rfl
  have hl := labs_len _ (Nat.le_refl t.sz)
  have hz := S.ok.2.1
  have fin : ∀ (σ : Sig) (x15 x16 : Option XV), vcSs (P d) n₀ (dropS 14 b13) (LL x0 x7 x14 x15 x16 x17 x18 x19 t (ren (turnH L G) t)) σ (retK k) := by
    intro σ x15 x16
    refine And.intro (⟨by decide, rfl⟩) ?_
    refine And.intro (⟨by decide, rfl⟩) ?_
    refine c_core (t := .node (.loc 0) []) (u := .node (.loc 5) []) C ⟨⟨rfl, by decide⟩, trivial⟩ ⟨⟨rfl, by decide⟩, trivial⟩ (by decide) (by decide) (by first | exact dn hd rfl | exact dt hd rfl | exact dc hd rfl | exact dc0 hd rfl | exact dcn hd rfl | exact ds hd rfl | exact ds0 hd | exact dn hdd rfl | exact dt hdd rfl | (first | lia | omega)) fun r hr => ?_
    have e := hr.mpr alike_loc
    subst e
    refine And.intro (⟨by decide, rfl⟩) ?_
    refine And.intro (⟨by decide, rfl⟩) ?_
    refine And.intro (⟨by decide, rfl⟩) ?_
    refine And.intro (⟨by decide, rfl⟩) ?_
    refine And.intro (⟨by decide, rfl⟩) ?_
    refine And.intro (⟨by decide, rfl⟩) ?_
    refine c_core (t := .node .seq [.node (.loc 1) [], .node (.loc 2) []]) (u := .node .seq [.node (.loc 3) [], .node (.loc 3) []]) C ⟨trivial, ⟨⟨rfl, by decide⟩, trivial⟩, ⟨⟨rfl, by decide⟩, trivial⟩, trivial⟩ ⟨trivial, ⟨⟨rfl, by decide⟩, trivial⟩, ⟨⟨rfl, by decide⟩, trivial⟩, trivial⟩ (by decide) (by decide) (by first | exact dn hd rfl | exact dt hd rfl | exact dc hd rfl | exact dc0 hd rfl | exact dcn hd rfl | exact ds hd rfl | exact ds0 hd | exact dn hdd rfl | exact dt hdd rfl | (first | lia | omega)) fun r hr => ?_
    have e : r = false := by
      cases r with
      | false => rfl
      | true => exact absurd (hr.mp rfl) not_alike_seq
    subst e
    exact h _
  have hr := ren_wf (turnH_ok S.lo S.la) t S.ok.1
  have hrz := ren_sz (turnH L G) t
  have e1 : (labs (ren (turnH L G) t)).length = (labs t).length := by rw [ren_labs, List.length_map]
  have tails : (labs (ren (turnH L G) t)).map (tit t') = (labs t).map (tit t') := by
    rw [ren_labs, List.map_map]
    exact List.map_congr_left fun l hl => (S.tit hl).1
  refine And.intro (by decide) ?_
  refine And.intro (by rw [List.length_map]; (first | lia | omega)) ?_
  refine compP_map PV.int (tit t') (labs (ren (turnH L G) t)) (fun n hn k hk => ?_) ?_
  · exact c_title_of C (by first | exact dn hd rfl | exact dt hd rfl | exact dc hd rfl | exact dc0 hd rfl | exact dcn hd rfl | exact ds hd rfl | exact ds0 hd | exact dn hdd rfl | exact dt hdd rfl | (first | lia | omega)) hk
  rw [tails]
  refine And.intro (by rw [List.length_map]; (first | lia | omega)) ?_
  refine compP_map PV.int (tit t') (labs t) (fun n hn k hk => ?_) ?_
  · exact c_title_of C (by first | exact dn hd rfl | exact dt hd rfl | exact dc hd rfl | exact dc0 hd rfl | exact dcn hd rfl | exact ds hd rfl | exact ds0 hd | exact dn hdd rfl | exact dt hdd rfl | (first | lia | omega)) hk
  refine cmp_ne (eqP_strs (fun x hx => ?_) ?_)
  · obtain ⟨l, hl, rfl⟩ := List.mem_map.mp hx
    exact (S.tit hl).2
  refine And.intro (by decide) ?_
  refine And.intro (⟨.inl rfl, by decide, by decide⟩) ?_
  refine And.intro (by decide) ?_
  exact third_loop C hd S.ok.1 hz hr (by first | exact dn hd rfl | exact dt hd rfl | exact dc hd rfl | exact dc0 hd rfl | exact dcn hd rfl | exact ds hd rfl | exact ds0 hd | exact dn hdd rfl | exact dt hdd rfl | (first | lia | omega)) _ ds _ _ _ _ _ _ _ _ _ hD fun ds y15 y16 hD => fin _ y15 y16

theorem compIfP_none {test : PV → Sig → (Bool → Sig → Prop) → Prop} {body : PV → Sig → (PV → Sig → Prop) → Prop} : ∀ {l : List PV} {k : List PV → Sig → Prop}, (∀ x ∈ l, ∀ k : Bool → Sig → Prop, k false σ → test x σ k) → k [] σ → compIfP test body l σ k
  | [], _, _, h => h
  | x :: r, k, ht, h => ht x (.head _) _ (compIfP_none (fun y hy => ht y (.tail _ hy)) h)

theorem met_loop (C : Calls P) {t : T} {L G t0 t' : DF} {u : Int} (S : Sit t L G t0 t' u) {n₀ : Nat} : ∀ (m s : Nat) (x0 x7 x14 x15 x16 x17 x18 x19 : Option XV) (K : Fl → Locs → Sig → Prop), s + m = (nums t).length →
    (∀ y14, K .next (LL x0 x7 y14 x15 x16 x17 x18 x19 t (ren (turnH L G) t)) σ) →
    forP 14 (fun L σ' k => vcSs (P d) n₀ (loopAt 11 b13) L σ' k) ((List.range' s m).map fun (j : Nat) => PV.int (j : Int)) (LL x0 x7 x14 x15 x16 x17 x18 x19 t (ren (turnH L G) t)) σ K := by
  have hlim : lim = 1048576 := rfl
  have hl := nums_len _ (Nat.le_refl t.sz) S.ok.1
  have hz := S.ok.2.1
  have get : ∀ {l : List Int} {i : Nat} {v : Int}, l[i]? = some v → idx (l.map PV.int) (i : Int) = some (.int v) := fun {l i v} e => by
    rw [idx_n, List.getElem?_map, e]; rfl
  intro m
  induction m with
  | zero =>
    intro s x0 x7 x14 x15 x16 x17 x18 x19 K hs hK
    exact hK x14
  | succ m ih =>
    intro s x0 x7 x14 x15 x16 x17 x18 x19 K hs hK
    rw [List.range'_succ]
    have hs' : s < (nums t).length := by (first | lia | omega)
    obtain ⟨n, g1⟩ : ∃ n, (nums t)[s]? = some n := ⟨_, List.getElem?_eq_getElem hs'⟩
    have g2 : (nums (ren (turnH L G) t))[s]? = some (lk L n) := by rw [ren_nums S.lo, List.getElem?_map, g1]; rfl
    have hn := S.ok.2.2.1 n (List.mem_of_getElem? g1)
    conv => whnf
    refine ⟨by show s ≤ lim; (first | lia | omega), someP_i (get g1) ?_⟩
    conv => whnf
    refine someP_i (toInts_iv _) ?_
    refine And.intro (by decide) ?_
    conv => whnf
    refine ⟨by show s ≤ lim; (first | lia | omega), someP_i (get g2) ?_⟩
    refine br_intro (fun q => ?_) (fun q => ?_)
    · exfalso
      by_cases hb : n ∈ bnds t
      · have := S.lo.new hb
        rw [decide_eq_true hb, decide_eq_true this] at q
        cases q
      · have := S.lo.free hb
        rw [decide_eq_false hb, decide_eq_false (by (first | lia | omega) : ¬ (200 : Int) < lk L n)] at q
        cases q
    · conv => whnf
      refine ⟨by show s ≤ lim; (first | lia | omega), someP_i (get g1) ?_⟩
      conv => whnf
      refine someP_i (toInts_iv _) ?_
      refine br_intro (fun q => ?_) (fun q => ?_)
      · have hb : n ∉ bnds t := by simpa using q
        have e := S.lo.free hb
        refine And.intro (by decide) ?_
        conv => whnf
        refine ⟨by show s ≤ lim; (first | lia | omega), someP_i (get g2) ?_⟩
        conv => whnf
        refine ⟨by show s ≤ lim; (first | lia | omega), someP_i (get g1) ?_⟩
        refine br_intro (fun q => ?_) (fun q => ?_)
        · rw [e] at q
          simp at q
        · exact ih (s + 1) x0 x7 _ x15 x16 x17 x18 x19 K (by first | exact dn hd rfl | exact dt hd rfl | exact dc hd rfl | exact dc0 hd rfl | exact dcn hd rfl | exact ds hd rfl | exact ds0 hd | exact dn hdd rfl | exact dt hdd rfl | (first | lia | omega)) hK
      · exact ih (s + 1) x0 x7 _ x15 x16 x17 x18 x19 K (by first | exact dn hd rfl | exact dt hd rfl | exact dc hd rfl | exact dc0 hd rfl | exact dcn hd rfl | exact ds hd rfl | exact ds0 hd | exact dn hdd rfl | exact dt hdd rfl | (first | lia | omega)) hK

theorem law_C (C : Calls P) (hd : 60 ≤ d) {t : T} {L G t0 t' : DF} {u : Int} (S : Sit t L G t0 t' u) {ds : List Int} {a b : Int} {nt n₀ : Nat} (hD : Deck ds) {x0 x7 x14 x15 x16 x17 x18 x19 : Option XV}
    (h : ∀ σ, k (.p (.bool true)) σ) : vcSs (P d) n₀ (dropS 10 b13) (LL x0 x7 x14 x15 x16 x17 x18 x19 t (ren (turnH L G) t)) (WS ds a b u t' nt) (retK k) := by
  have hlim : lim = 1048576 := rfl
  have hz := S.ok.2.1
  have hl := labs_len _ (Nat.le_refl t.sz)
  have hb := bnds_len _ (Nat.le_refl t.sz) S.ok.1
  have hn := nums_len _ (Nat.le_refl t.sz) S.ok.1
  have e1 : (labs (ren (turnH L G) t)).length = (labs t).length := by rw [ren_labs, List.length_map]
  have e2 : (bnds (ren (turnH L G) t)).length = (bnds t).length := by rw [ren_bnds S.lo, List.length_map]
  have new : ∀ x ∈ bnds (ren (turnH L G) t) ++ labs (ren (turnH L G) t), 200 < x := by
    intro x hx
    rcases List.mem_append.mp hx with hx | hx
    · rw [ren_bnds S.lo] at hx
      obtain ⟨y, hy, rfl⟩ := List.mem_map.mp hx
      exact S.lo.new hy
    · rw [ren_labs] at hx
      obtain ⟨y, hy, rfl⟩ := List.mem_map.mp hx
      exact S.la.new hy
  refine And.intro (by decide) ?_
  refine And.intro (by rw [List.length_map, List.length_map]; (first | lia | omega)) ?_
  refine And.intro (by rw [List.length_append, List.length_map, List.length_map]; (first | lia | omega)) ?_
  rw [← List.map_append]
  refine compIfP_none (fun x hx k hk => ?_) ?_
  · obtain ⟨y, hy, rfl⟩ := List.mem_map.mp hx
    conv => whnf
    rw [decide_eq_false (by have := new y hy; (first | lia | omega))]
    exact hk
  refine And.intro (by rw [List.length_map]; (first | lia | omega)) ?_
  refine And.intro (by rw [List.length_map]; (first | lia | omega)) ?_
  refine br_intro (fun q => ?_) (fun q => ?_)
  · rw [List.length_map, List.length_map, e2] at q
    simp at q
  · refine And.intro (by rw [List.length_map]; (first | lia | omega)) ?_
    refine And.intro (by rw [List.length_map, hlim]; (first | lia | omega)) ?_
    refine And.intro (⟨.inl rfl, by decide, by show ((nums t).map PV.int).length ≤ lim; rw [List.length_map]; (first | lia | omega)⟩) ?_
    rw [List.length_map, rangeL_up]
    refine ⟨by rw [List.length_map, List.length_range']; (first | lia | omega), ?_⟩
    exact met_loop C S (nums t).length 0 _ _ _ _ _ _ _ _ _ (by first | exact dn hd rfl | exact dt hd rfl | exact dc hd rfl | exact dc0 hd rfl | exact dcn hd rfl | exact ds hd rfl | exact ds0 hd | exact dn hdd rfl | exact dt hdd rfl | (first | lia | omega)) fun y14 => law_D C hd S hD h

theorem law_B (C : Calls P) (hd : 60 ≤ d) {t : T} {L G t0 t' : DF} {u : Int} (S : Sit t L G t0 t' u) {ds : List Int} {a b : Int} {nt n₀ : Nat} (hD : Deck ds) {x0 x7 x9 x10 x11 x12 x13 x14 x15 x16 x17 x18 x19 : Option XV}
    (h : ∀ σ, k (.p (.bool true)) σ) : vcSs (P d) n₀ (dropS 7 b13) [x0, some (.c 0), some (.c 1), some (.c 2), some (.p (enc t)), some (.p (shp t)), some (.p (iv (labs t))), x7, some (.p (enc (ren (turnH L G) t))), x9, x10, x11, x12, x13, x14, x15, x16, x17, x18, x19] (WS ds a b u t' nt) (retK k) := by
  have hlim : lim = 1048576 := rfl
  have hz := S.ok.2.1
  have hr := ren_wf (turnH_ok S.lo S.la) t S.ok.1
  have hrz := ren_sz (turnH L G) t
  have al := ren_alike S.lo S.la S.ok.2.2
  refine c_shape C _ (Nat.le_refl _) hr (by first | exact dn hd rfl | exact dt hd rfl | exact dc hd rfl | exact dc0 hd rfl | exact dcn hd rfl | exact ds hd rfl | exact ds0 hd | exact dn hdd rfl | exact dt hdd rfl | (first | lia | omega)) (by first | exact dn hd rfl | exact dt hd rfl | exact dc hd rfl | exact dc0 hd rfl | exact dcn hd rfl | exact ds hd rfl | exact ds0 hd | exact dn hdd rfl | exact dt hdd rfl | (first | lia | omega)) ?_
  refine c_numbers C _ (Nat.le_refl _) S.ok.1 (by first | exact dn hd rfl | exact dt hd rfl | exact dc hd rfl | exact dc0 hd rfl | exact dcn hd rfl | exact ds hd rfl | exact ds0 hd | exact dn hdd rfl | exact dt hdd rfl | (first | lia | omega)) (by first | exact dn hd rfl | exact dt hd rfl | exact dc hd rfl | exact dc0 hd rfl | exact dcn hd rfl | exact ds hd rfl | exact ds0 hd | exact dn hdd rfl | exact dt hdd rfl | (first | lia | omega)) ?_
  refine And.intro (by decide) ?_
  refine c_bound C _ (Nat.le_refl _) S.ok.1 (by first | exact dn hd rfl | exact dt hd rfl | exact dc hd rfl | exact dc0 hd rfl | exact dcn hd rfl | exact ds hd rfl | exact ds0 hd | exact dn hdd rfl | exact dt hdd rfl | (first | lia | omega)) (by first | exact dn hd rfl | exact dt hd rfl | exact dc hd rfl | exact dc0 hd rfl | exact dcn hd rfl | exact ds hd rfl | exact ds0 hd | exact dn hdd rfl | exact dt hdd rfl | (first | lia | omega)) ?_
  refine c_shape C _ (Nat.le_refl _) S.ok.1 (by first | exact dn hd rfl | exact dt hd rfl | exact dc hd rfl | exact dc0 hd rfl | exact dcn hd rfl | exact ds hd rfl | exact ds0 hd | exact dn hdd rfl | exact dt hdd rfl | (first | lia | omega)) (by first | exact dn hd rfl | exact dt hd rfl | exact dc hd rfl | exact dc0 hd rfl | exact dcn hd rfl | exact ds hd rfl | exact ds0 hd | exact dn hdd rfl | exact dt hdd rfl | (first | lia | omega)) ?_
  obtain ⟨hh, pp⟩ := t
  have sh := shaped_shp (t := .node hh pp) (by first | exact dn hd rfl | exact dt hd rfl | exact dc hd rfl | exact dc0 hd rfl | exact dcn hd rfl | exact ds hd rfl | exact ds0 hd | exact dn hdd rfl | exact dt hdd rfl | (first | lia | omega))
  conv => whnf
  refine ⟨shpD (.node hh pp), shpD (.node hh pp), ⟨⟨toPy_shp (.node hh pp), toPy_shp (.node hh pp)⟩, sh, sh⟩, ?_⟩
  rw [eqv_refl _ (lay_shp _)]
  refine c_same C S.ok.1 hr (by first | exact dn hd rfl | exact dt hd rfl | exact dc hd rfl | exact dc0 hd rfl | exact dcn hd rfl | exact ds hd rfl | exact ds0 hd | exact dn hdd rfl | exact dt hdd rfl | (first | lia | omega)) (by first | exact dn hd rfl | exact dt hd rfl | exact dc hd rfl | exact dc0 hd rfl | exact dcn hd rfl | exact ds hd rfl | exact ds0 hd | exact dn hdd rfl | exact dt hdd rfl | (first | lia | omega)) (by first | exact dn hd rfl | exact dt hd rfl | exact dc hd rfl | exact dc0 hd rfl | exact dcn hd rfl | exact ds hd rfl | exact ds0 hd | exact dn hdd rfl | exact dt hdd rfl | (first | lia | omega)) fun r hr1 => ?_
  have e := hr1.mpr al.1
  subst e
  refine c_core C S.ok.1 hr (by first | exact dn hd rfl | exact dt hd rfl | exact dc hd rfl | exact dc0 hd rfl | exact dcn hd rfl | exact ds hd rfl | exact ds0 hd | exact dn hdd rfl | exact dt hdd rfl | (first | lia | omega)) (by first | exact dn hd rfl | exact dt hd rfl | exact dc hd rfl | exact dc0 hd rfl | exact dcn hd rfl | exact ds hd rfl | exact ds0 hd | exact dn hdd rfl | exact dt hdd rfl | (first | lia | omega)) (by first | exact dn hd rfl | exact dt hd rfl | exact dc hd rfl | exact dc0 hd rfl | exact dcn hd rfl | exact ds hd rfl | exact ds0 hd | exact dn hdd rfl | exact dt hdd rfl | (first | lia | omega)) fun r hr1 => ?_
  have e := hr1.mpr al.1
  subst e
  refine c_core C hr S.ok.1 (by first | exact dn hd rfl | exact dt hd rfl | exact dc hd rfl | exact dc0 hd rfl | exact dcn hd rfl | exact ds hd rfl | exact ds0 hd | exact dn hdd rfl | exact dt hdd rfl | (first | lia | omega)) (by first | exact dn hd rfl | exact dt hd rfl | exact dc hd rfl | exact dc0 hd rfl | exact dcn hd rfl | exact ds hd rfl | exact ds0 hd | exact dn hdd rfl | exact dt hdd rfl | (first | lia | omega)) (by first | exact dn hd rfl | exact dt hd rfl | exact dc hd rfl | exact dc0 hd rfl | exact dcn hd rfl | exact ds hd rfl | exact ds0 hd | exact dn hdd rfl | exact dt hdd rfl | (first | lia | omega)) fun r hr1 => ?_
  have e := hr1.mpr al.2
  subst e
  refine c_numbers C _ (Nat.le_refl _) hr (by first | exact dn hd rfl | exact dt hd rfl | exact dc hd rfl | exact dc0 hd rfl | exact dcn hd rfl | exact ds hd rfl | exact ds0 hd | exact dn hdd rfl | exact dt hdd rfl | (first | lia | omega)) (by first | exact dn hd rfl | exact dt hd rfl | exact dc hd rfl | exact dc0 hd rfl | exact dcn hd rfl | exact ds hd rfl | exact ds0 hd | exact dn hdd rfl | exact dt hdd rfl | (first | lia | omega)) ?_
  refine c_bound C _ (Nat.le_refl _) hr (by first | exact dn hd rfl | exact dt hd rfl | exact dc hd rfl | exact dc0 hd rfl | exact dcn hd rfl | exact ds hd rfl | exact ds0 hd | exact dn hdd rfl | exact dt hdd rfl | (first | lia | omega)) (by first | exact dn hd rfl | exact dt hd rfl | exact dc hd rfl | exact dc0 hd rfl | exact dcn hd rfl | exact ds hd rfl | exact ds0 hd | exact dn hdd rfl | exact dt hdd rfl | (first | lia | omega)) ?_
  exact law_C C hd S hD h

theorem law_A (C : Calls P) (hd : 60 ≤ d) {t : T} (ht : TOk 22 t) {ds : List Int} {a b : Int} {n₀ : Nat} (hD : Deck ds) {x0 x5 x6 x7 x8 x9 x10 x11 x12 x13 x14 x15 x16 x17 x18 x19 : Option XV}
    (h : ∀ σ, k (.p (.bool true)) σ) : vcSs (P d) n₀ (dropS 3 b13) [x0, some (.c 0), some (.c 1), some (.c 2), some (.p (enc t)), x5, x6, x7, x8, x9, x10, x11, x12, x13, x14, x15, x16, x17, x18, x19] (WS ds a b 200 (fun _ => none) 0) (retK k) := by
  have hlim : lim = 1048576 := rfl
  obtain ⟨hw, hz, hN, hL⟩ := ht
  have hl := labs_len _ (Nat.le_refl t.sz)
  refine c_shape C _ (Nat.le_refl _) hw (by first | exact dn hd rfl | exact dt hd rfl | exact dc hd rfl | exact dc0 hd rfl | exact dcn hd rfl | exact ds hd rfl | exact ds0 hd | exact dn hdd rfl | exact dt hdd rfl | (first | lia | omega)) (by first | exact dn hd rfl | exact dt hd rfl | exact dc hd rfl | exact dc0 hd rfl | exact dcn hd rfl | exact ds hd rfl | exact ds0 hd | exact dn hdd rfl | exact dt hdd rfl | (first | lia | omega)) ?_
  refine c_numbers C _ (Nat.le_refl _) hw (by first | exact dn hd rfl | exact dt hd rfl | exact dc hd rfl | exact dc0 hd rfl | exact dcn hd rfl | exact ds hd rfl | exact ds0 hd | exact dn hdd rfl | exact dt hdd rfl | (first | lia | omega)) (by first | exact dn hd rfl | exact dt hd rfl | exact dc hd rfl | exact dc0 hd rfl | exact dcn hd rfl | exact ds hd rfl | exact ds0 hd | exact dn hdd rfl | exact dt hdd rfl | (first | lia | omega)) ?_
  refine And.intro (by decide) ?_
  refine And.intro (by rw [List.length_map]; (first | lia | omega)) ?_
  conv => whnf
  have e2 := everyTwo_len (labs t)
  rw [everyTwo_map]
  refine ⟨by rw [List.length_map]; (first | lia | omega), ?_⟩
  refine title_loop C (by first | exact dn hd rfl | exact dt hd rfl | exact dc hd rfl | exact dc0 hd rfl | exact dcn hd rfl | exact ds hd rfl | exact ds0 hd | exact dn hdd rfl | exact dt hdd rfl | (first | lia | omega)) (everyTwo (labs t)) _ 0 _ _ _ _ _ _ _ _ _ (fun x hx => hL x (everyTwo_mem hx)) TT.none (by first | exact dn hd rfl | exact dt hd rfl | exact dc hd rfl | exact dc0 hd rfl | exact dcn hd rfl | exact ds hd rfl | exact ds0 hd | exact dn hdd rfl | exact dt hdd rfl | (first | lia | omega)) fun t0 nt0 y7 hn0 hT => ?_
  refine c_renumbered C hw (by first | exact dn hd rfl | exact dt hd rfl | exact dc hd rfl | exact dc0 hd rfl | exact dcn hd rfl | exact ds hd rfl | exact ds0 hd | exact dn hdd rfl | exact dt hdd rfl | (first | lia | omega)) hL hT.1 (by first | exact dn hd rfl | exact dt hd rfl | exact dc hd rfl | exact dc0 hd rfl | exact dcn hd rfl | exact ds hd rfl | exact ds0 hd | exact dn hdd rfl | exact dt hdd rfl | (first | lia | omega)) (by first | exact dn hd rfl | exact dt hd rfl | exact dc hd rfl | exact dc0 hd rfl | exact dcn hd rfl | exact ds hd rfl | exact ds0 hd | exact dn hdd rfl | exact dt hdd rfl | (first | lia | omega)) fun u L G t' nt' q0 q1 q2 q3 q4 => ?_
  exact law_B C hd ⟨⟨hw, hz, hN, hL⟩, q2, q3, q4, hT, q1⟩ hD h

theorem c_law (C : Calls P) {l : List Int} (hl : l.length ≤ 63) (hd : 100 ≤ d) (h : ∀ σ, k (.p (.bool true)) σ) : P d 13 [.p (iv l)] [] k := by
  obtain ⟨d, rfl⟩ : ∃ e, d = e + 1 := ⟨d - 1, by (first | lia | omega)⟩
  have hlim : lim = 1048576 := rfl
  refine C.by' (fi := f13) rfl rfl ?_
  refine c_deck C (by first | exact dn hd rfl | exact dt hd rfl | exact dc hd rfl | exact dc0 hd rfl | exact dcn hd rfl | exact ds hd rfl | exact ds0 hd | exact dn hdd rfl | exact dt hdd rfl | (first | lia | omega)) (by first | exact dn hd rfl | exact dt hd rfl | exact dc hd rfl | exact dc0 hd rfl | exact dcn hd rfl | exact ds hd rfl | exact ds0 hd | exact dn hdd rfl | exact dt hdd rfl | (first | lia | omega)) fun ds hD => ?_
  refine c_names C (by first | exact dn hd rfl | exact dt hd rfl | exact dc hd rfl | exact dc0 hd rfl | exact dcn hd rfl | exact ds hd rfl | exact ds0 hd | exact dn hdd rfl | exact dt hdd rfl | (first | lia | omega)) ?_
  refine And.intro (rfl) ?_
  refine And.intro (Nat.le_of_ble_eq_true rfl) ?_
  refine c_new1 C (by first | exact dn hd rfl | exact dt hd rfl | exact dc hd rfl | exact dc0 hd rfl | exact dcn hd rfl | exact ds hd rfl | exact ds0 hd | exact dn hdd rfl | exact dt hdd rfl | (first | lia | omega)) ?_
  conv => whnf
  refine node_of2 C d 2 [1, 2, 0] _ _ _ (by first | exact dn hd rfl | exact dt hd rfl | exact dc hd rfl | exact dc0 hd rfl | exact dcn hd rfl | exact ds hd rfl | exact ds0 hd | exact dn hdd rfl | exact dt hdd rfl | (first | lia | omega)) ⟨ds, 2, 1, rfl, hD, by decide, by decide, by decide, by decide⟩ (by decide) (by unfold In200; decide) (by decide) fun body σ hb G => ?_
  obtain ⟨ds, a, b, rfl, hD, -, -, -, -⟩ := G
  refine And.intro (⟨by decide, rfl⟩) ?_
  refine law_A (t := .node (.lam 1 [1] 2) [body]) C (by first | exact dn hd rfl | exact dt hd rfl | exact dc hd rfl | exact dc0 hd rfl | exact dcn hd rfl | exact ds hd rfl | exact ds0 hd | exact dn hdd rfl | exact dt hdd rfl | (first | lia | omega)) ?_ hD h
  refine .node' (fun x hx => by rw [List.mem_singleton.mp hx]; exact hb.wt) ⟨rfl, by decide, by decide, by decide⟩ (by unfold In200; decide) (by unfold In200; decide) ?_
  have := hb.2.1
  rw [szs, szs]; (first | lia | omega)
end
end Mine
end
section
open PySem PySem.W PyProof.Rows Builtin Builtin.ObjectAttr
set_option Elab.async false
set_option maxRecDepth 100000
namespace Mine

noncomputable def gcOk (K : Frag) (i : Nat) : Bool := match gconst i, nsIn K mainGlobals (gname i) with
  | some n, some (some (.int m _)) => n == m
  | _, _ => false
noncomputable def fnsOk (K : Frag) (f : Nat) : Bool := (match fnInfo f with | some fi => fnOk K f fi | none => true) && fnIn K (fnAddr f) && (30 ≤ f || nsIn K mainGlobals (fnName f) == some (some (.ref (fnAddr f))))
/-- the demands on the written part, one by one -/
noncomputable def chunk (K : Frag) (g : Nat) : Bool :=
  if g < 15 then clsOk K g && (List.range 41).all (attrOk K g)
  else if g < 26 then ckOk K (g - 15)
  else if g < 27 then clOk K && (biNames.all fun x => nsIn K mainGlobals x == some none)
  else if g < 40 then gcOk K (g - 27)
  else if g < 68 then isiOk K (g - 40)
  else fnsOk K (g - 68)
noncomputable def chunks (K : Frag) (n m : Nat) : Bool := (List.range' n m).all (chunk K)

theorem fnInfo_lt {f : Nat} {fi : FnInfo} (h : fnInfo f = some fi) : f < 71 := by
  refine Decidable.byContradiction fun hf => ?_
  unfold fnInfo at h
  rw [List.getElem?_eq_none (Nat.not_lt.mp hf)] at h
  cases h
theorem gconst_lt {i : Nat} {n : Int} (h : gconst i = some n) : i < 13 := (List.getElem?_eq_some_iff.mp h).1
theorem facts_of {K : Frag} (h : ∀ g, g < 139 → chunk K g = true) : Facts K := by
  have fn : ∀ f, f < 71 → fnsOk K f = true := fun f hf => by
    have := h (68 + f) (by (first | lia | omega))
    unfold chunk at this
    rw [if_neg (by (first | lia | omega)), if_neg (by (first | lia | omega)), if_neg (by (first | lia | omega)), if_neg (by (first | lia | omega)), if_neg (by (first | lia | omega)), Nat.add_sub_cancel_left] at this
    exact this
  refine ⟨fun c hc => ?_, fun c hc => ?_, ?_, fun c hc a ha => ?_, fun f fi hf => ?_, fun f hf => ?_, fun f hf => ?_, fun c hc => ?_, fun x hx => ?_, fun i n hi => ?_⟩
  · have := h c (by (first | lia | omega))
    unfold chunk at this
    rw [if_pos hc, Bool.and_eq_true] at this
    exact this.1
  · have := h (15 + c) (by (first | lia | omega))
    unfold chunk at this
    rw [if_neg (by (first | lia | omega)), if_pos (by (first | lia | omega)), Nat.add_sub_cancel_left] at this
    exact this
  · have := h 26 (by (first | lia | omega))
    unfold chunk at this
    rw [if_neg (by (first | lia | omega)), if_neg (by (first | lia | omega)), if_pos (by (first | lia | omega)), Bool.and_eq_true] at this
    exact this.1
  · have := h c (by (first | lia | omega))
    unfold chunk at this
    rw [if_pos hc, Bool.and_eq_true] at this
    exact List.all_eq_true.mp this.2 a (List.mem_range.mpr ha)
  · have := fn f (fnInfo_lt hf)
    unfold fnsOk at this
    rw [hf, Bool.and_eq_true, Bool.and_eq_true] at this
    exact this.1.1
  · have := fn f hf
    unfold fnsOk at this
    rw [Bool.and_eq_true, Bool.and_eq_true] at this
    exact this.1.2
  · have := fn f (by (first | lia | omega))
    unfold fnsOk at this
    rw [Bool.and_eq_true, Bool.and_eq_true, decide_eq_false (by (first | lia | omega) : ¬ 30 ≤ f), Bool.false_or, beq_iff_eq] at this
    exact this.2
  · have := h (40 + c) (by (first | lia | omega))
    unfold chunk at this
    rw [if_neg (by (first | lia | omega)), if_neg (by (first | lia | omega)), if_neg (by (first | lia | omega)), if_neg (by (first | lia | omega)), if_pos (by (first | lia | omega)), Nat.add_sub_cancel_left] at this
    exact this
  · have := h 26 (by (first | lia | omega))
    unfold chunk at this
    rw [if_neg (by (first | lia | omega)), if_neg (by (first | lia | omega)), if_pos (by (first | lia | omega)), Bool.and_eq_true] at this
    exact beq_iff_eq.mp (List.all_eq_true.mp this.2 x hx)
  · have := h (27 + i) (by have := gconst_lt hi; (first | lia | omega))
    unfold chunk at this
    rw [if_neg (by (first | lia | omega)), if_neg (by (first | lia | omega)), if_neg (by (first | lia | omega)), if_pos (by have := gconst_lt hi; (first | lia | omega)), Nat.add_sub_cancel_left] at this
    unfold gcOk at this
    rw [hi] at this
    split at this
    · rename_i n' m t e1 e2
      cases e1
      rw [beq_iff_eq] at this
      exact ⟨t, by rw [e2, this]⟩
    · cases this
theorem facts_chunks {K : Frag} (h0 : chunks K 0 15 = true) (h1 : chunks K 15 25 = true) (h2 : chunks K 40 14 = true) (h3 : chunks K 54 14 = true) (h4 : chunks K 68 6 = true) (h5 : chunks K 74 4 = true) (h6 : chunks K 78 4 = true)
    (h7 : chunks K 82 14 = true) (h8 : chunks K 96 14 = true) (h9 : chunks K 110 14 = true) (h10 : chunks K 124 15 = true) : Facts K := by
  have g : ∀ {n m : Nat}, chunks K n m = true → ∀ g, n ≤ g → g < n + m → chunk K g = true := fun h g h1 h2 => List.all_eq_true.mp h g (by rw [List.mem_range'_1]; (first | lia | omega))
  refine facts_of fun i hi => ?_
  by_cases q0 : i < 15
  · exact g h0 i (by (first | lia | omega)) (by (first | lia | omega))
  by_cases q1 : i < 40
  · exact g h1 i (by (first | lia | omega)) (by (first | lia | omega))
  by_cases q2 : i < 54
  · exact g h2 i (by (first | lia | omega)) (by (first | lia | omega))
  by_cases q3 : i < 68
  · exact g h3 i (by (first | lia | omega)) (by (first | lia | omega))
  by_cases q4 : i < 74
  · exact g h4 i (by (first | lia | omega)) (by (first | lia | omega))
  by_cases q5 : i < 78
  · exact g h5 i (by (first | lia | omega)) (by (first | lia | omega))
  by_cases q6 : i < 82
  · exact g h6 i (by (first | lia | omega)) (by (first | lia | omega))
  by_cases q7 : i < 96
  · exact g h7 i (by (first | lia | omega)) (by (first | lia | omega))
  by_cases q8 : i < 110
  · exact g h8 i (by (first | lia | omega)) (by (first | lia | omega))
  by_cases q9 : i < 124
  · exact g h9 i (by (first | lia | omega)) (by (first | lia | omega))
  · exact g h10 i (by (first | lia | omega)) (by (first | lia | omega))
end Mine
end
section
open PySem PySem.W PyProof.Rows Builtin Builtin.ObjectAttr
set_option Elab.async false
set_option maxRecDepth 100000
namespace Mine

theorem ints_well {P : Params} {h : Heap} {φ : Fz} : ∀ {l : List Int} {vs : List Value}, WellAll P h vs (ofPys (l.map .int)) → RVs φ (l.map .int) vs
  | [], _, w => by
    cases w
    exact .nil
  | i :: r, _, w => by
    cases w with
    | cons a b =>
      cases a with
      | int _ t => exact .cons (.int i t) (ints_well b)

theorem walk {K : Frag} {w : World} {s₁ : Shared} {mg mb : Str → Option Value} {fa a : Addr} {l : List Int} {name : Str} (X : K.In s₁.heap) (F : Facts K)
    (hg : s₁.heap.Ns mainGlobals mg) (hb : s₁.heap.Ns builtinsNs mb) (hbb : ∀ x : Str, x ≠ "__name__" → mb x = bootBuiltins x) (hn : s₁.heap.NoLimit) (hs : s₁.heap.NoSeer)
    (hname : name = fnName 13) (hmg : mg name = some (.ref fa)) (hl : l.length ≤ 63) (hw : Well w.params s₁.heap (.ref a) (ofPy (.list (l.map .int)))) {Q : Value → Shared → Prop} {E : Value → Shared → Prop}
    (h : ∀ s', (∀ b o, s₁.heap.get? b = some o → s'.heap.get? b = some o) → s'.os = s₁.os → s'.gens = s₁.gens → Q (.bool true) s') : wpAny (model pw w) callerA (call (.ref fa) [.ref a]) Q E s₁ := by
  have hfa : fa = fnAddr 13 := by
    have := mg_of X hg (F.fns 13 (by decide))
    rw [hname] at hmg
    rw [hmg] at this
    cases this; rfl
  subst hfa
  have B : Base K w s₁ := ⟨X, ⟨mg, hg⟩, ⟨mb, hb, hbb⟩, hn, by obtain ⟨mm, ⟨o, _, _, e, _⟩, _⟩ := hs.mods; exact ⟨o, e⟩, F⟩
  have R : Rel w s₁ [] (fun b => s₁.heap.get? b) [] s₁ := ⟨⟨s₁.heap, s₁.toks, rfl⟩, fun _ _ e => e, fun _ _ e => e, rfl, fun i p c e => by simp at e, fun p hp => (List.not_mem_nil hp).elim, List.Pairwise.nil⟩
  have V : RXs (fun b => s₁.heap.get? b) [] [.p (iv l)] [.ref a] := by
    refine .cons (.p ?_) .nil
    rw [ofPy] at hw
    cases hw with
    | list e ws => exact .lst e (ints_well ws)
  have c := c_law (P := CallP w s₁) (l := l) (d := 100) (k := fun v _ => v = .p (.bool true)) (calls B) hl (by decide) (fun _ => rfl)
  have c2 := c callerA _ [] s₁ [.ref a] ⟨rfl, by decide, by decide⟩ R V
  refine noE (wpAny_mono (call_of c2) (fun v s' z => ?_) fun _ _ z => z)
  obtain ⟨φ', ρ', σ', x, E', R', Xv, rfl⟩ := z
  cases Xv with
  | p y =>
    cases y
    obtain ⟨hh, tk, e⟩ := R'.rest
    exact h s' (fun b o e => R'.keepB b o e) (by rw [e]) (by rw [e])
end Mine
end
open PySem PySem.W PyProof.Rows
set_option Elab.async true
namespace Mine.holds
theorem tw12903731678505560687 : True := trivial
theorem tw6984558580797708120 : True := trivial
theorem tw2592505985604394677 : True := trivial
theorem tw8798531666740179139 : True := trivial
theorem tw17577069355127563947 : True := trivial
theorem tw13707469988427608658 : True := trivial
theorem tw13963151681077868262 : True := trivial
theorem tw8564859838321607590 : True := trivial
theorem tw14382199399420953348 : True := trivial
theorem tw16936222256475855846 : True := trivial
theorem tw16307857173826011502 : True := trivial
theorem tw14292530296709735706 : True := trivial
theorem tw7830325820478607865 : True := trivial
theorem tw5928035738843709490 : True := trivial
theorem tw5129367969082935005 : True := trivial
theorem tw16854706404461719035 : True := trivial
theorem tw11000299492459777186 : True := trivial
theorem tw15547472964428411946 : True := trivial
theorem tw5820799141153873982 : True := trivial
theorem tw10484992613987793263 : True := trivial
theorem tw16965036409380003723 : True := trivial
theorem tw14040500308302212198 : True := trivial
theorem tw5729686819517467106 : True := trivial
theorem tw9516733595752182287 : True := trivial
theorem tw15917342116762055876 : True := trivial
theorem tw17777092538907434226 : True := trivial
theorem tw14713388646796477685 : True := trivial
theorem tw12408796525097018335 : True := trivial
theorem tw1564655310274925476 : True := trivial
theorem tw17343836025313947904 : True := trivial
theorem tw8094100931723932386 : True := trivial
theorem tw3120580966947583694 : True := trivial
theorem tw502349249091326964 : True := trivial
theorem tw13385420599142869663 : True := trivial
theorem tw8682443996422263743 : True := trivial
theorem tw3643337120674935994 : True := trivial
theorem tw4083477849724071642 : True := trivial
theorem tw17405913651127687548 : True := trivial
theorem tw7044488416437408911 : True := trivial
theorem tw1574943993371324231 : True := trivial
theorem tw16719641618999485920 : True := trivial
theorem tw17622135654871039023 : True := trivial
theorem tw3029007130555694686 : True := trivial
theorem tw16489045964228380844 : True := trivial
theorem tw1066124834946963746 : True := trivial
theorem tw1467441889453914128 : True := trivial
theorem tw1823548288077909227 : True := trivial
theorem tw5858917246580496000 : True := trivial
theorem tw457036756085613805 : True := trivial
theorem tw1255485627580398868 : True := trivial
theorem tw8440079175239025714 : True := trivial
theorem tw3886397583452890388 : True := trivial
theorem tw7196389198934742080 : True := trivial
theorem tw3912065897935574273 : True := trivial
theorem tw16353335624975568903 : True := trivial
theorem tw18119562065370568691 : True := trivial
theorem tw11896979934692212325 : True := trivial
theorem tw7118747031804142146 : True := trivial
theorem tw138917058343750897 : True := trivial
theorem tw1118671588950128205 : True := trivial
theorem tw15815842588268232306 : True := trivial
theorem tw633214176098062392 : True := trivial
theorem tw10726778698580467152 : True := trivial
theorem tw5299285735360832198 : True := trivial
theorem tw12874947805566649939 : True := trivial
theorem tw14840414858554942787 : True := trivial
theorem tw12542415522573167287 : True := trivial
theorem tw3393808461323943489 : True := trivial
theorem tw16874880777962658548 : True := trivial
theorem tw11866763835798034582 : True := trivial
theorem tw12894707530176283173 : True := trivial
theorem tw5149526564703654343 : True := trivial
theorem tw3892464644189294616 : True := trivial
theorem tw10576265454180977796 : True := trivial
theorem tw2796529661445839640 : True := trivial
theorem tw16310655169649194836 : True := trivial
theorem tw4496467784121089108 : True := trivial
theorem tw6567355204694272889 : True := trivial
theorem tw12343754954083223990 : True := trivial
theorem tw341249449185904685 : True := trivial
theorem tw11143411426584264298 : True := trivial
theorem tw2291020835558564570 : True := trivial
theorem tw8451429660923938374 : True := trivial
theorem tw3861000652052826002 : True := trivial
theorem tw12354433232887552844 : True := trivial
theorem tw8086972369959518483 : True := trivial
theorem tw7845095905626073379 : True := trivial
theorem tw803459465643865993 : True := trivial
theorem tw5761173918925751656 : True := trivial
theorem tw10800118078600970322 : True := trivial
theorem tw4876135695594978501 : True := trivial
theorem tw12870647732520690006 : True := trivial
theorem tw205298979940158535 : True := trivial
theorem tw1876284267304334591 : True := trivial
theorem tw6156368199483485970 : True := trivial
theorem tw17714467908841036005 : True := trivial
theorem tw7580357766596436714 : True := trivial
theorem tw9309047703646887916 : True := trivial
theorem tw11723004889028688699 : True := trivial
theorem tw8393340031374782525 : True := trivial
theorem tw4753448620645791293 : True := trivial
theorem tw11612728935029869629 : True := trivial
theorem tw13410058936075673991 : True := trivial
theorem tw4365354059377992696 : True := trivial
theorem tw8466761320254723787 : True := trivial
theorem tw95296551208255155 : True := trivial
theorem tw9345137363995567081 : True := trivial
theorem tw4758407346467626144 : True := trivial
theorem tw15136828946037461428 : True := trivial
theorem tw10101314140783721581 : True := trivial
theorem tw3404786031723526517 : True := trivial
theorem tw226100531749524946 : True := trivial
theorem tw14571696787620697854 : True := trivial
theorem tw4941175383253321342 : True := trivial
theorem tw176346806179393663 : True := trivial
theorem tw3800603833340694319 : True := trivial
theorem tw2435697834123945266 : True := trivial
theorem tw10925421167949951351 : True := trivial
theorem tw8844102623358338796 : True := trivial
theorem tw2307722216263928427 : True := trivial
theorem tw14407948193146954793 : True := trivial
theorem tw11647182259668861994 : True := trivial
theorem tw11672644919066271163 : True := trivial
theorem tw865500838714309513 : True := trivial
theorem tw9732041140710341944 : True := trivial
theorem tw15069508231047163535 : True := trivial
theorem tw2526029391950980958 : True := trivial
theorem tw510843545151586005 : True := trivial
theorem tw2642592217982111355 : True := trivial
theorem tw1686462557126633389 : True := trivial
theorem tw7229227428422136632 : True := trivial
theorem tw6091671356783944267 : True := trivial
theorem tw7214886289036577252 : True := trivial
theorem tw5861611626428175679 : True := trivial
theorem tw14175645179141948239 : True := trivial
theorem tw49517477587746382 : True := trivial
theorem tw14375228850674640113 : True := trivial
theorem tw13926404443759844560 : True := trivial
theorem tw9442118761115461890 : True := trivial
theorem tw13610216015777807193 : True := trivial
theorem tw9370115536473471133 : True := trivial
theorem tw5948040445239067262 : True := trivial
theorem tw11456588863425244825 : True := trivial
theorem tw15942494369296127945 : True := trivial
theorem tw17597196502641442581 : True := trivial
theorem tw10172116743248835179 : True := trivial
theorem tw9072656965561520583 : True := trivial
theorem tw13341946137322399123 : True := trivial
theorem tw16645783556341365226 : True := trivial
theorem tw12933004794989185701 : True := trivial
theorem tw2815148716436586704 : True := trivial
theorem tw3589964763223657672 : True := trivial
theorem tw8006095370074002437 : True := trivial
theorem tw11750193621415288269 : True := trivial
theorem tw5016061194280584464 : True := trivial
theorem tw1032644102275906610 : True := trivial
theorem tw2156681307112010326 : True := trivial
theorem tw10742948130089443177 : True := trivial
theorem tw2682973687022302978 : True := trivial
theorem tw13980644296350529377 : True := trivial
theorem tw13108245259352980691 : True := trivial
theorem tw14320867901091453664 : True := trivial
theorem tw1390413714926744526 : True := trivial
theorem tw17970053310252206215 : True := trivial
theorem tw4717937361131159733 : True := trivial
theorem tw3864012138097595758 : True := trivial
theorem tw4659233104850659043 : True := trivial
theorem tw3579776383272448420 : True := trivial
theorem tw15318030485348112285 : True := trivial
theorem tw10586113085549135516 : True := trivial
theorem tw9157471666820141079 : True := trivial
theorem tw2697976716319701033 : True := trivial
theorem tw1477864382951527211 : True := trivial
theorem tw8571184235532366510 : True := trivial
theorem tw18224010420261798391 : True := trivial
theorem tw2562329033357795767 : True := trivial
theorem tw13208604148985916543 : True := trivial
theorem tw11040456503202229835 : True := trivial
theorem tw16796854770986717008 : True := trivial
theorem tw25128007106566912 : True := trivial
theorem tw8684541073956307770 : True := trivial
theorem tw6099975724469302500 : True := trivial
theorem tw16124510186991490168 : True := trivial
theorem tw15580662879708500073 : True := trivial
theorem tw10176819019813888522 : True := trivial
theorem tw6153587431502396178 : True := trivial
theorem tw5599412692616142259 : True := trivial
theorem tw8827755016177155863 : True := trivial
theorem tw1316056555746827224 : True := trivial
theorem tw13794718551069701317 : True := trivial
theorem tw4648945120126745877 : True := trivial
theorem tw12563481999192008768 : True := trivial
theorem tw16460190508105947759 : True := trivial
theorem tw10876536743886354276 : True := trivial
theorem tw12160635655254385198 : True := trivial
theorem tw8087799500789234286 : True := trivial
theorem tw3937267528351423324 : True := trivial
theorem tw2451063411067222376 : True := trivial
theorem tw4954732016240277505 : True := trivial
theorem tw945861476033566700 : True := trivial
theorem tw4847722943968633838 : True := trivial
theorem tw10833107302637699875 : True := trivial
theorem tw1466284255255076664 : True := trivial
theorem tw1692041494862269998 : True := trivial
theorem tw4463062363840312668 : True := trivial
theorem tw7398177500901678427 : True := trivial
theorem tw14247145606103189434 : True := trivial
theorem tw7145057240379410032 : True := trivial
theorem tw9250495785965993271 : True := trivial
theorem tw14786066558164337950 : True := trivial
theorem tw15912576936540932319 : True := trivial
theorem tw18111983532339849511 : True := trivial
theorem tw11188634580013471280 : True := trivial
theorem tw16497969686579978388 : True := trivial
theorem tw9569093901706499007 : True := trivial
theorem tw17986687872122772584 : True := trivial
theorem tw1599260478150983854 : True := trivial
theorem tw12008902284401382014 : True := trivial
theorem tw12310956151002532635 : True := trivial
theorem tw17154429820679262023 : True := trivial
theorem tw3521771025164786240 : True := trivial
theorem tw16717973427065403112 : True := trivial
theorem tw12828038907145807738 : True := trivial
theorem tw7843051982824379554 : True := trivial
theorem tw13060694101666355058 : True := trivial
theorem tw9890372494799421562 : True := trivial
theorem tw15962101105364567198 : True := trivial
theorem tw11237496202790982473 : True := trivial
theorem tw8336353537208430648 : True := trivial
theorem tw9204624228502610083 : True := trivial
theorem tw5698002777990276889 : True := trivial
theorem tw18348608232412713582 : True := trivial
theorem tw9636209304261665903 : True := trivial
theorem tw16955119412671694080 : True := trivial
theorem tw12322914241283428633 : True := trivial
theorem tw18247421588225774185 : True := trivial
theorem tw98196739984318054 : True := trivial
theorem tw8647606335831114134 : True := trivial
theorem tw3930216773101794901 : True := trivial
theorem tw10447927361281507451 : True := trivial
theorem tw6654929391614583909 : True := trivial
theorem tw17294395744611713098 : True := trivial
theorem tw7840918076549728228 : True := trivial
theorem tw11719447062914956733 : True := trivial
theorem tw1382383790286775375 : True := trivial
theorem tw9518972631687950247 : True := trivial
theorem tw10981351503976158137 : True := trivial
theorem tw15356600547250028879 : True := trivial
theorem tw8351548024695214574 : True := trivial
theorem tw1537896020066966262 : True := trivial
theorem tw1894218108493701880 : True := trivial
theorem tw11968577826497805164 : True := trivial
theorem tw18078616723997116376 : True := trivial
theorem tw2422663375537807432 : True := trivial
theorem tw6392309017659473873 : True := trivial
theorem tw13130249910395747862 : True := trivial
theorem tw5099458221760260784 : True := trivial
theorem tw5372377845621832631 : True := trivial
theorem tw4307185281782297411 : True := trivial
theorem tw7797081563098230675 : True := trivial
theorem tw9042705994701840478 : True := trivial
theorem tw15130863005838362477 : True := trivial
theorem tw13299747515739239509 : True := trivial
theorem tw13602253286356535353 : True := trivial
theorem tw17500814259130102135 : True := trivial
theorem tw18048935380075846325 : True := trivial
theorem tw16179787414501680475 : True := trivial
theorem tw438103235379743935 : True := trivial
theorem tw14399446760240809470 : True := trivial
theorem tw14781169843320478655 : True := trivial
theorem tw13384883100587833847 : True := trivial
theorem tw2045681113551912190 : True := trivial
theorem tw14012504350828624960 : True := trivial
theorem tw4021013208564600997 : True := trivial
theorem tw6396523623945614605 : True := trivial
theorem tw3906943341852370832 : True := trivial
theorem tw17836369818011005632 : True := trivial
theorem tw2207817973478938216 : True := trivial
theorem tw16049930973857864354 : True := trivial
theorem tw7503737395920286060 : True := trivial
theorem tw7129523546110730894 : True := trivial
theorem tw16617498834693519143 : True := trivial
theorem tw9816476011544392670 : True := trivial
theorem tw249549322783861432 : True := trivial
theorem tw12657093848384798476 : True := trivial
theorem tw4949047195023096438 : True := trivial
theorem tw15483027778438257147 : True := trivial
theorem tw6077952519532572301 : True := trivial
theorem tw11342428682859919049 : True := trivial
theorem tw8664197181124272861 : True := trivial
theorem tw5981487413272766262 : True := trivial
theorem tw2990895676391025561 : True := trivial
theorem tw14083959995102712966 : True := trivial
theorem tw12986477188347159440 : True := trivial
theorem tw13635659449475194171 : True := trivial
theorem tw16939745714101447976 : True := trivial
theorem tw609593979267148766 : True := trivial
theorem tw13606275585875862381 : True := trivial
theorem tw8370971151990252235 : True := trivial
theorem tw2170955613840884034 : True := trivial
theorem tw1906216828905148153 : True := trivial
theorem tw18148179280279774915 : True := trivial
theorem tw14453804969608289915 : True := trivial
theorem tw15891902535885273667 : True := trivial
theorem tw16760418933842767799 : True := trivial
theorem tw2395109189467087578 : True := trivial
theorem tw10828986214106111531 : True := trivial
theorem tw12733908048491186811 : True := trivial
theorem tw18232564904221570389 : True := trivial
theorem tw12808162357026388105 : True := trivial
theorem tw11759793716441912868 : True := trivial
theorem tw1446027475299390936 : True := trivial
theorem tw11948265756795587961 : True := trivial
theorem tw9578313353005323182 : True := trivial
theorem tw14271935136423247726 : True := trivial
theorem tw13222035019132090745 : True := trivial
theorem tw4294527259896404283 : True := trivial
theorem tw7389893730484166007 : True := trivial
theorem tw16307742377514257941 : True := trivial
theorem tw17765825090018352961 : True := trivial
theorem tw17476224472650253806 : True := trivial
theorem tw17161602433600048924 : True := trivial
theorem tw10238092577321643331 : True := trivial
theorem tw10675174832548182787 : True := trivial
theorem tw643970753237372892 : True := trivial
theorem tw1122052841429188380 : True := trivial
theorem tw7614240834612533913 : True := trivial
theorem tw119812342931510837 : True := trivial
theorem tw16352401696369536769 : True := trivial
theorem tw6277686843429952581 : True := trivial
theorem tw2892534334438619348 : True := trivial
theorem tw15560663132546256209 : True := trivial
theorem tw3140948191453709154 : True := trivial
theorem tw12371484349939807137 : True := trivial
theorem tw8390211631138850578 : True := trivial
theorem tw15505166088775668588 : True := trivial
theorem tw15665992811038445102 : True := trivial
theorem tw13651502964188933756 : True := trivial
theorem tw9572162887998638646 : True := trivial
theorem tw14691085348537605332 : True := trivial
theorem tw17751544043737166181 : True := trivial
theorem tw9541374612494854641 : True := trivial
theorem tw15750308709622187472 : True := trivial
theorem tw10061326939861387809 : True := trivial
theorem tw2946744036017948005 : True := trivial
theorem tw8067858942452583622 : True := trivial
theorem tw4157549862880800291 : True := trivial
theorem tw11379536335273661636 : True := trivial
theorem tw15969937429085165904 : True := trivial
theorem tw14146095236536434788 : True := trivial
theorem tw16697607604324151607 : True := trivial
theorem tw15027879205694222834 : True := trivial
theorem tw13564983018704479910 : True := trivial
theorem tw6052119553069251325 : True := trivial
theorem tw7753079526450916859 : True := trivial
theorem tw16075053759526825020 : True := trivial
theorem tw8551410553514715252 : True := trivial
theorem tw9188266559522036927 : True := trivial
theorem tw17603585764756365773 : True := trivial
theorem tw2180479604254433311 : True := trivial
theorem tw9866653766423218390 : True := trivial
theorem tw9892031060245448288 : True := trivial
theorem tw5990180441110522300 : True := trivial
theorem tw17274456146704370614 : True := trivial
theorem tw3083665863380995925 : True := trivial
theorem tw17591727778206626035 : True := trivial
theorem tw8168356752963748851 : True := trivial
theorem tw14869886272290788767 : True := trivial
theorem tw17129278960223170533 : True := trivial
theorem tw3964553439336064567 : True := trivial
theorem tw4921510776622977656 : True := trivial
theorem tw17144610094948777349 : True := trivial
theorem tw15414449488493141452 : True := trivial
theorem tw17180457848445815676 : True := trivial
theorem tw13002855754428957212 : True := trivial
theorem tw7698111470863988287 : True := trivial
theorem tw9930548314228155742 : True := trivial
theorem tw18173914834931495973 : True := trivial
theorem tw11653104687496936112 : True := trivial
theorem tw10491065262344570346 : True := trivial
theorem tw8995863869359571168 : True := trivial
theorem tw759334954848157859 : True := trivial
theorem tw10595842591828190984 : True := trivial
theorem tw11322816463052944642 : True := trivial
theorem tw4702539438339769474 : True := trivial
theorem tw16339685495627315695 : True := trivial
theorem tw11922580720104720328 : True := trivial
theorem tw1213666046027356511 : True := trivial
theorem tw12629177860411813126 : True := trivial
theorem tw5082999880386992228 : True := trivial
theorem tw15043986215568586124 : True := trivial
theorem tw17453241218497372113 : True := trivial
theorem tw4500180452004054980 : True := trivial
theorem tw1639197193820686003 : True := trivial
theorem tw10597824574819050199 : True := trivial
theorem tw7548614866355832645 : True := trivial
theorem tw5498966250228494579 : True := trivial
theorem tw43888766806044448 : True := trivial
theorem tw14062913937729191461 : True := trivial
theorem tw6659011806880131911 : True := trivial
theorem tw8754180013910929173 : True := trivial
theorem tw16920389981729717209 : True := trivial
theorem tw12245379355653237008 : True := trivial
theorem tw5857794014393010482 : True := trivial
theorem tw17410980318550716163 : True := trivial
theorem tw3210078786618844196 : True := trivial
theorem tw15654153127513851752 : True := trivial
theorem tw854715265852234644 : True := trivial
theorem tw13306226422529918579 : True := trivial
theorem tw17713024458388692671 : True := trivial
theorem tw18202751451028033538 : True := trivial
theorem tw10274680400919065884 : True := trivial
theorem tw9930108809958083020 : True := trivial
theorem tw5544849529527644617 : True := trivial
theorem tw6816380694822836728 : True := trivial
theorem tw14856189802965030758 : True := trivial
theorem tw15681240381570490794 : True := trivial
theorem tw12135579543755162760 : True := trivial
theorem tw17305823854243098232 : True := trivial
theorem tw5506139502277114011 : True := trivial
theorem tw9486900926456378277 : True := trivial
theorem tw15326264675407861456 : True := trivial
theorem tw3021182021745475625 : True := trivial
theorem tw6278366128872770721 : True := trivial
theorem tw10859938921441162988 : True := trivial
theorem tw4381757428849502282 : True := trivial
theorem tw14977296931134136204 : True := trivial
theorem tw9669028801200983835 : True := trivial
theorem tw16327178926216250526 : True := trivial
theorem tw15402825562841796884 : True := trivial
theorem tw340065925495711556 : True := trivial
theorem tw15369023287827119477 : True := trivial
theorem tw5528465392136904651 : True := trivial
theorem tw12844512283580690746 : True := trivial
theorem tw13837069517616297649 : True := trivial
theorem tw1327240825893404017 : True := trivial
theorem tw12656286432081671464 : True := trivial
theorem tw9367411864662104596 : True := trivial
theorem tw17779192219718171531 : True := trivial
theorem tw14064534554856164141 : True := trivial
theorem tw8703058000478243956 : True := trivial
theorem tw12947342387834907416 : True := trivial
theorem tw14758616802339493627 : True := trivial
theorem tw17119970141882582889 : True := trivial
theorem tw7836771215742511209 : True := trivial
theorem tw17333658333993622836 : True := trivial
theorem tw15462992800728643659 : True := trivial
theorem tw16623480003224712174 : True := trivial
theorem tw12468101337765408714 : True := trivial
theorem tw13101843316239274000 : True := trivial
theorem tw2559866895289228791 : True := trivial
theorem tw11393145000320282179 : True := trivial
theorem tw17115388708904494235 : True := trivial
theorem tw3440516207279462431 : True := trivial
theorem tw10131826271222919291 : True := trivial
theorem tw1833173380454153921 : True := trivial
theorem tw5789515006085545148 : True := trivial
theorem tw14120646005404979616 : True := trivial
theorem tw16478504620199068264 : True := trivial
theorem tw5830490794043118638 : True := trivial
theorem tw4408763645494598628 : True := trivial
theorem tw949623864930693503 : True := trivial
theorem tw13988838218713701972 : True := trivial
theorem tw4079574721724423606 : True := trivial
theorem tw10531532615022067580 : True := trivial
theorem tw7315200287398302464 : True := trivial
theorem tw10894570999934473159 : True := trivial
theorem tw17629714610472425511 : True := trivial
theorem tw11566098377363298415 : True := trivial
theorem tw1569810199879761147 : True := trivial
theorem tw8709608639225018423 : True := trivial
theorem tw5588498093969417903 : True := trivial
theorem tw1389151227800987198 : True := trivial
theorem tw7072470231402172264 : True := trivial
theorem tw6216033271563703469 : True := trivial
theorem tw10090669370351152378 : True := trivial
theorem tw63030109126827207 : True := trivial
theorem tw18306687941130998258 : True := trivial
theorem tw4700713122064472571 : True := trivial
theorem tw13770748048790227772 : True := trivial
theorem tw16801115162389100519 : True := trivial
theorem tw8903297777125119442 : True := trivial
theorem tw17972652523612586680 : True := trivial
theorem tw5300967816669126424 : True := trivial
theorem tw12004703523718567385 : True := trivial
theorem tw15493915963290111440 : True := trivial
theorem tw1508545211966159021 : True := trivial
theorem tw15659084048362614264 : True := trivial
theorem tw14404905868111484630 : True := trivial
theorem tw15477653585598255317 : True := trivial
theorem tw5898628582698610718 : True := trivial
theorem tw15203487316939043196 : True := trivial
theorem tw16494130276040809032 : True := trivial
theorem tw13150661809386230508 : True := trivial
theorem tw632647553328814510 : True := trivial
theorem tw8323465864499181419 : True := trivial
theorem tw3279077582325829838 : True := trivial
theorem tw5015485144833937494 : True := trivial
theorem tw14145908162538725807 : True := trivial
theorem tw6817751937963910627 : True := trivial
theorem tw15762835226273150572 : True := trivial
theorem tw11899092608841805274 : True := trivial
theorem tw10269081998898121243 : True := trivial
theorem tw6107281658776505229 : True := trivial
theorem tw15433894429930974654 : True := trivial
theorem tw18145382148040430673 : True := trivial
theorem tw12179329788657368842 : True := trivial
theorem tw7033360832409044607 : True := trivial
theorem tw11623250428353690138 : True := trivial
theorem tw3050561863661609479 : True := trivial
theorem tw4988333648953938256 : True := trivial
theorem tw9766128667603022514 : True := trivial
theorem tw9019257534274925694 : True := trivial
theorem tw1591614497242882612 : True := trivial
theorem tw2661161477798328453 : True := trivial
theorem tw7058599786907716777 : True := trivial
theorem tw15228004617427520810 : True := trivial
theorem tw15733542881966949079 : True := trivial
theorem tw12969365772584314127 : True := trivial
theorem tw14751579383510745608 : True := trivial
theorem tw1859933618095552875 : True := trivial
theorem tw5274829272982666545 : True := trivial
theorem tw15663057623668237757 : True := trivial
theorem tw10677865647760817919 : True := trivial
theorem tw8801499457356032720 : True := trivial
theorem tw10698829266838348154 : True := trivial
theorem tw15832225096487492747 : True := trivial
theorem tw17609093410855971819 : True := trivial
theorem tw14341210406198164329 : True := trivial
theorem tw17177450906650391178 : True := trivial
theorem tw12158838097934144204 : True := trivial
theorem tw16900590462404453081 : True := trivial
theorem tw18366657443248667141 : True := trivial
theorem tw6995637125483106052 : True := trivial
theorem tw15737558441246748254 : True := trivial
theorem tw4638280614687871961 : True := trivial
theorem tw17087466662150396210 : True := trivial
theorem tw11341941285841758863 : True := trivial
theorem tw14387954076880322906 : True := trivial
theorem tw16492970923048177823 : True := trivial
theorem tw10645105620128953169 : True := trivial
theorem tw15349486494167490861 : True := trivial
theorem tw1272921112123746405 : True := trivial
theorem tw10679687220464918932 : True := trivial
theorem tw151567797773009622 : True := trivial
theorem tw17076291190057227869 : True := trivial
theorem tw12173864343093774118 : True := trivial
theorem tw6260279054860728010 : True := trivial
theorem tw10922428162458310129 : True := trivial
theorem tw17957849646668315286 : True := trivial
theorem tw114758814716574784 : True := trivial
theorem tw5791938023122869331 : True := trivial
theorem tw10807475332292939257 : True := trivial
theorem tw17040301576142915119 : True := trivial
theorem tw15785218014132313688 : True := trivial
theorem tw16342904981530803726 : True := trivial
theorem tw3395405417513978161 : True := trivial
theorem tw10634055019105834221 : True := trivial
theorem tw8943767207682116370 : True := trivial
theorem tw7943873644019274615 : True := trivial
theorem tw10540872416556608339 : True := trivial
theorem tw17955251653903534588 : True := trivial
theorem tw15653146226815964750 : True := trivial
theorem tw9259533211598610082 : True := trivial
theorem tw17988741175759917587 : True := trivial
theorem tw5614056069481967420 : True := trivial
theorem tw18193256452927958525 : True := trivial
theorem tw18428999135246889709 : True := trivial
theorem tw4853776891905718434 : True := trivial
theorem tw4071159065629566091 : True := trivial
theorem tw3874528156674345177 : True := trivial
theorem tw7119377499074729706 : True := trivial
theorem tw244612440521699123 : True := trivial
theorem tw440603731575887600 : True := trivial
theorem tw16740147826971877517 : True := trivial
theorem tw13390067322875170909 : True := trivial
theorem tw14411328915609312922 : True := trivial
theorem tw8686833105990424790 : True := trivial
theorem tw5259053182002985842 : True := trivial
theorem tw3093010850272755244 : True := trivial
theorem tw7221694943082674061 : True := trivial
theorem tw4837283352154931363 : True := trivial
theorem tw13306687922162142720 : True := trivial
theorem tw9573620641467853373 : True := trivial
theorem tw4695128735345963622 : True := trivial
theorem tw9458989268892848673 : True := trivial
theorem tw4731424046490229545 : True := trivial
theorem tw11635385377250757057 : True := trivial
theorem tw11301672597029358359 : True := trivial
theorem tw15395134090581100920 : True := trivial
theorem tw6424660084863691381 : True := trivial
theorem tw1311399786705062619 : True := trivial
theorem tw4998001990490953706 : True := trivial
theorem tw8342685063945909978 : True := trivial
theorem tw5046306585264764695 : True := trivial
theorem tw16315053957116525436 : True := trivial
theorem tw4043779546988386903 : True := trivial
theorem tw15216533652830951187 : True := trivial
theorem tw7399101569421298396 : True := trivial
theorem tw13281364814482169325 : True := trivial
theorem tw6160048708904825675 : True := trivial
theorem tw5295917329084666069 : True := trivial
theorem tw8253004272172430988 : True := trivial
theorem tw12774209864397607762 : True := trivial
theorem tw12528141070781557109 : True := trivial
theorem tw12736823529576279204 : True := trivial
theorem tw6489310206099298910 : True := trivial
theorem tw2090353487450580582 : True := trivial
theorem tw10953125311028157021 : True := trivial
theorem tw5323918697378788693 : True := trivial
theorem tw5274472226630626454 : True := trivial
theorem tw5865623049191206495 : True := trivial
theorem tw10846422607668537096 : True := trivial
theorem tw1562249421467397710 : True := trivial
theorem tw12039203186867382747 : True := trivial
theorem tw9101416567709711282 : True := trivial
theorem tw6395224867365064139 : True := trivial
theorem tw5797237729251604973 : True := trivial
theorem tw11937027079205856637 : True := trivial
theorem tw2406459529592591507 : True := trivial
theorem tw16500857126356320474 : True := trivial
theorem tw9951758437329485127 : True := trivial
theorem tw11252122248351282842 : True := trivial
theorem tw6339512806697972703 : True := trivial
theorem tw9441326970708011783 : True := trivial
theorem tw4057953776094532316 : True := trivial
theorem tw7047203234742669986 : True := trivial
theorem tw3937861406571306486 : True := trivial
theorem tw10896460218351899731 : True := trivial
theorem tw8318332573425277434 : True := trivial
theorem tw3325302716571603560 : True := trivial
theorem tw13899955331829678731 : True := trivial
theorem tw11021121815585206722 : True := trivial
theorem tw8454650750101055009 : True := trivial
theorem tw12803259320963881043 : True := trivial
theorem tw13851224978691574800 : True := trivial
theorem tw6157822632079497950 : True := trivial
theorem tw7925820919135066463 : True := trivial
theorem tw7072116541432516018 : True := trivial
theorem tw6270666701200070447 : True := trivial
theorem tw14325652797173081869 : True := trivial
theorem tw820486334897136409 : True := trivial
theorem tw1714096750540956960 : True := trivial
theorem tw2585008018627690749 : True := trivial
theorem tw5565848844497943877 : True := trivial
theorem tw13526204058760582534 : True := trivial
theorem tw2448847960820234738 : True := trivial
theorem tw6848487089051665640 : True := trivial
theorem tw16438637452659292861 : True := trivial
theorem tw18137404814466565647 : True := trivial
theorem tw17973240255108071979 : True := trivial
theorem tw685045373900649700 : True := trivial
theorem tw16568243084613897719 : True := trivial
theorem tw16141144775947785660 : True := trivial
theorem tw2752272122444995253 : True := trivial
theorem tw9232459349045140238 : True := trivial
theorem tw13860560629476652642 : True := trivial
theorem tw4046193847619289583 : True := trivial
theorem tw15985840036639034899 : True := trivial
theorem tw2781561513384061212 : True := trivial
theorem tw17779774989671706653 : True := trivial
theorem tw8664812251140827045 : True := trivial
theorem tw7991519602905016326 : True := trivial
theorem tw4532548537324856634 : True := trivial
theorem tw7798976556582896058 : True := trivial
theorem tw5020977762268055686 : True := trivial
theorem tw17096001632197288867 : True := trivial
theorem tw14884943140791886255 : True := trivial
theorem tw18020473825885896052 : True := trivial
theorem tw16509688237979914955 : True := trivial
theorem tw7122917452565745793 : True := trivial
theorem tw3259964661353284909 : True := trivial
theorem tw5768325706252814819 : True := trivial
theorem tw5225467491883748592 : True := trivial
theorem tw15398626621386718237 : True := trivial
theorem tw15172879773585053777 : True := trivial
theorem tw8163853742193369449 : True := trivial
theorem tw2322420239649074934 : True := trivial
theorem tw6987646167637998250 : True := trivial
theorem tw4485590747672999114 : True := trivial
theorem tw14506719115837055750 : True := trivial
theorem tw1748184903109754316 : True := trivial
theorem tw9039863090174473464 : True := trivial
theorem tw8239031253751857358 : True := trivial
theorem tw185807328385624810 : True := trivial
theorem tw16898140867199733807 : True := trivial
theorem tw17417429595627488627 : True := trivial
theorem tw13287711867249315789 : True := trivial
theorem tw15305512045591798990 : True := trivial
theorem tw9114018109745100730 : True := trivial
theorem tw14947864908287233490 : True := trivial
theorem tw3081346186701454755 : True := trivial
theorem tw7944191787301449481 : True := trivial
theorem tw4255404306551255506 : True := trivial
theorem tw17533166617710000329 : True := trivial
theorem tw558284623232836049 : True := trivial
theorem tw10843207457187830352 : True := trivial
theorem tw9430090754398894584 : True := trivial
theorem tw16461013251600362008 : True := trivial
theorem tw14642846902033847964 : True := trivial
theorem tw628499413542001115 : True := trivial
theorem tw9638990691586225099 : True := trivial
theorem tw15737458098272848843 : True := trivial
theorem tw17516818768086975123 : True := trivial
theorem tw1974762919298152056 : True := trivial
theorem tw7148457397988735951 : True := trivial
theorem tw8324913547053779211 : True := trivial
theorem tw8277820557490507997 : True := trivial
theorem tw685634667276709000 : True := trivial
theorem tw10255086910947774711 : True := trivial
theorem tw7752820645730282312 : True := trivial
theorem tw8105830805119860317 : True := trivial
theorem tw4636335402390110268 : True := trivial
theorem tw2976685253332725484 : True := trivial
theorem tw12467034654032377186 : True := trivial
theorem tw5768289875352899849 : True := trivial
theorem tw6653297117331982820 : True := trivial
theorem tw10705619171732726748 : True := trivial
theorem tw11502601298335438083 : True := trivial
theorem tw1672651397029140864 : True := trivial
theorem tw12788872388335264594 : True := trivial
theorem tw8501281891715751146 : True := trivial
theorem tw4698078265318845332 : True := trivial
theorem tw14777700561071354170 : True := trivial
theorem tw10071743356415266081 : True := trivial
theorem tw1342200453600437244 : True := trivial
theorem tw6882208769836361136 : True := trivial
theorem tw16527965534346479843 : True := trivial
theorem tw1438057683635843531 : True := trivial
theorem tw2669110664802000394 : True := trivial
theorem tw14374762386000251392 : True := trivial
theorem tw7998808928282977731 : True := trivial
theorem tw1884008505450799693 : True := trivial
theorem tw17822619038779606285 : True := trivial
theorem tw8035951141280138642 : True := trivial
theorem tw16818068004342704306 : True := trivial
theorem tw4624323801304008105 : True := trivial
theorem tw4247038368700228457 : True := trivial
theorem tw13757568721421367004 : True := trivial
theorem tw3579648750931130658 : True := trivial
theorem tw8778671856527934898 : True := trivial
theorem tw16451975095625300501 : True := trivial
theorem tw14747351113905286367 : True := trivial
theorem tw5606170894147618297 : True := trivial
theorem tw8365977135183407358 : True := trivial
theorem tw3522650409621224377 : True := trivial
theorem tw12553914923479104506 : True := trivial
theorem tw4480811336153992742 : True := trivial
theorem tw17585196194217108160 : True := trivial
theorem tw7942442253511216057 : True := trivial
theorem tw3280128972450656526 : True := trivial
theorem tw6852311561904566080 : True := trivial
theorem tw9321796208036801940 : True := trivial
theorem tw7454310139219270035 : True := trivial
theorem tw10532752084560951140 : True := trivial
theorem tw8582828021416564088 : True := trivial
theorem tw7885888744534978006 : True := trivial
theorem tw16139409775219458943 : True := trivial
theorem tw15234514527192182573 : True := trivial
theorem tw6606875086121380550 : True := trivial
theorem tw3378624336152846145 : True := trivial
theorem tw17254660705983429885 : True := trivial
theorem tw576298715544257586 : True := trivial
theorem tw11210861575573996130 : True := trivial
theorem tw7400771686186127474 : True := trivial
theorem tw7873036012977236159 : True := trivial
theorem tw3969078344035082030 : True := trivial
theorem tw2963349702327202441 : True := trivial
theorem tw14083834280242248106 : True := trivial
theorem tw12632932662738783937 : True := trivial
theorem tw14012497318314112844 : True := trivial
theorem tw1986877004247180340 : True := trivial
theorem tw8403075241119356948 : True := trivial
theorem tw16034146489351607153 : True := trivial
theorem tw8115153917610635543 : True := trivial
theorem tw17560821836578072369 : True := trivial
theorem tw5145322182839607373 : True := trivial
theorem tw13945929957867325323 : True := trivial
theorem tw142377125942736700 : True := trivial
theorem tw1092734292537931370 : True := trivial
theorem tw16275521931939539341 : True := trivial
theorem tw15383290158734973844 : True := trivial
theorem tw5065072626821882738 : True := trivial
theorem tw7882509031788189477 : True := trivial
theorem tw9655063701478483099 : True := trivial
theorem tw5194594231098649917 : True := trivial
theorem tw1349225773494744244 : True := trivial
theorem tw9645710685874896286 : True := trivial
theorem tw1085116229181452980 : True := trivial
theorem tw8276148420849259419 : True := trivial
theorem tw14027143162585244968 : True := trivial
theorem tw3626213265524300766 : True := trivial
theorem tw3256209041318659551 : True := trivial
theorem tw9925129770185513386 : True := trivial
theorem tw2360611857689679594 : True := trivial
theorem tw7366336091430424897 : True := trivial
theorem tw10824115321126796680 : True := trivial
theorem tw2084331650109322480 : True := trivial
theorem tw10280545108713110612 : True := trivial
theorem tw5971917068696941547 : True := trivial
theorem tw3529921767576855348 : True := trivial
theorem tw15044018224587446200 : True := trivial
theorem tw5515288863426684154 : True := trivial
theorem tw9979450033012110720 : True := trivial
theorem tw11223929370926572019 : True := trivial
theorem tw188818232081923588 : True := trivial
theorem tw3381435865837020940 : True := trivial
theorem tw13373784697917265674 : True := trivial
theorem tw16532224993992427823 : True := trivial
theorem tw13942211991455542721 : True := trivial
theorem tw9408521175777228426 : True := trivial
theorem tw11311999394344832113 : True := trivial
theorem tw388697424147274848 : True := trivial
theorem tw18119886095736687351 : True := trivial
theorem tw4320952357017371039 : True := trivial
theorem tw7508724833904468189 : True := trivial
theorem tw14666957617077880877 : True := trivial
theorem tw5550945554117203131 : True := trivial
theorem tw12054047105230549088 : True := trivial
theorem tw3518985733565340228 : True := trivial
theorem tw1882270145967814011 : True := trivial
theorem tw14638587884836417943 : True := trivial
theorem tw2395783193375807797 : True := trivial
theorem tw17631178891982236634 : True := trivial
theorem tw14705332336647958153 : True := trivial
theorem tw8110541393458415789 : True := trivial
theorem tw9486143321106344294 : True := trivial
theorem tw13334661261001831826 : True := trivial
theorem tw7154447938429058438 : True := trivial
theorem tw14374977566714605489 : True := trivial
theorem tw9870243511197969610 : True := trivial
theorem tw11223116819087169764 : True := trivial
theorem tw4302478151189881795 : True := trivial
theorem tw17109138141917733902 : True := trivial
theorem tw6072511530176384962 : True := trivial
theorem tw17148229171239856432 : True := trivial
theorem tw11413208387583891290 : True := trivial
theorem tw12004910477815969792 : True := trivial
theorem tw10066566674380323332 : True := trivial
theorem tw6867368441509648312 : True := trivial
theorem tw16887932952891968693 : True := trivial
theorem tw9482088518178012087 : True := trivial
theorem tw15493598328686506898 : True := trivial
theorem tw8102643725754146565 : True := trivial
theorem tw12811986133187580173 : True := trivial
theorem tw6735552807121987811 : True := trivial
theorem tw9855210162650666830 : True := trivial
theorem tw11319453509113102234 : True := trivial
theorem tw12393906311096897308 : True := trivial
theorem tw8789113547377566482 : True := trivial
theorem tw14786868411472786527 : True := trivial
theorem tw12108319297290419529 : True := trivial
theorem tw12584058235822683084 : True := trivial
theorem tw3941031784694168184 : True := trivial
theorem tw2823412116039181319 : True := trivial
theorem tw8615286220620516901 : True := trivial
theorem tw17578941984535166184 : True := trivial
theorem tw16189116650847989039 : True := trivial
theorem tw18071744930768667396 : True := trivial
theorem tw12885456215103715144 : True := trivial
theorem tw10520202591518659360 : True := trivial
theorem tw7877780744568003191 : True := trivial
theorem tw382618885191382838 : True := trivial
theorem tw3594228041056560270 : True := trivial
theorem tw14607219995997415800 : True := trivial
theorem tw5915465848944024539 : True := trivial
theorem tw4772410448533662562 : True := trivial
theorem tw7764760058319942783 : True := trivial
theorem tw12098404996450287289 : True := trivial
theorem tw187104208977503339 : True := trivial
theorem tw16113979670686384644 : True := trivial
theorem tw4286360187039589740 : True := trivial
theorem tw5006882278849481289 : True := trivial
theorem tw10498718156884573365 : True := trivial
theorem tw2980642449514264586 : True := trivial
theorem tw10028576996824322293 : True := trivial
theorem tw17450472940649059298 : True := trivial
theorem tw10217723531806974232 : True := trivial
theorem tw12716235490366440073 : True := trivial
theorem tw1180276462324527112 : True := trivial
theorem tw17888041645453997434 : True := trivial
theorem tw8267156744941353195 : True := trivial
theorem tw17647985033660283594 : True := trivial
theorem tw13806253830398397885 : True := trivial
theorem tw16286308178466712102 : True := trivial
theorem tw840278733503548893 : True := trivial
theorem tw2331653303103277471 : True := trivial
theorem tw8575535491628544125 : True := trivial
theorem tw10684964147190113176 : True := trivial
theorem tw8070350036930755802 : True := trivial
theorem tw5282283922864298156 : True := trivial
theorem tw15987345220168432620 : True := trivial
theorem tw10240100896771907615 : True := trivial
theorem tw11450275943994455990 : True := trivial
theorem tw3930379177928381544 : True := trivial
theorem tw18232178202039898155 : True := trivial
theorem tw16338696359196860668 : True := trivial
theorem tw16035096773351161327 : True := trivial
theorem tw16306134597513423134 : True := trivial
theorem tw7025526114324608931 : True := trivial
theorem tw4197124852483764760 : True := trivial
theorem tw12598803044036537449 : True := trivial
theorem tw146485729390315040 : True := trivial
theorem tw2026074157514601029 : True := trivial
theorem tw6896159741398044905 : True := trivial
theorem tw5747684920607356772 : True := trivial
theorem tw18076910122471374375 : True := trivial
theorem tw7442186320969616419 : True := trivial
theorem tw14149781006570564392 : True := trivial
theorem tw6199686776344378345 : True := trivial
theorem tw7405762614669717487 : True := trivial
theorem tw6382472559528225116 : True := trivial
theorem tw1211747854080251252 : True := trivial
theorem tw12883100574787851859 : True := trivial
theorem tw16878984735049331645 : True := trivial
theorem tw2490583276235294983 : True := trivial
theorem tw13563289320671947111 : True := trivial
theorem tw5619219577263525582 : True := trivial
theorem tw9284948610034456067 : True := trivial
theorem tw14533596452844920548 : True := trivial
theorem tw8715153415118720431 : True := trivial
theorem tw15919173128261314395 : True := trivial
theorem tw3591643451295285226 : True := trivial
theorem tw8999148759028348254 : True := trivial
theorem tw6871585250140865760 : True := trivial
theorem tw2766847245526771718 : True := trivial
theorem tw8217837808669207805 : True := trivial
theorem tw12698916279152862973 : True := trivial
theorem tw6118206324766035986 : True := trivial
theorem tw14537686803440442423 : True := trivial
theorem tw3349518531870832243 : True := trivial
theorem tw5887078386916838634 : True := trivial
theorem tw12370703938092414502 : True := trivial
theorem tw8265603790410846922 : True := trivial
theorem tw4828584280874035930 : True := trivial
theorem tw17932704140315560168 : True := trivial
theorem tw13934561362821362623 : True := trivial
theorem tw6150125375040512561 : True := trivial
theorem tw13338651292558784369 : True := trivial
theorem tw5583946556138506119 : True := trivial
theorem tw915018914566706432 : True := trivial
theorem tw14314133134477209284 : True := trivial
theorem tw6549915499844065949 : True := trivial
theorem tw11775407622660791982 : True := trivial
theorem tw3811385743445658432 : True := trivial
theorem tw14779136984720625096 : True := trivial
theorem tw6357344898813262543 : True := trivial
theorem tw2335221107431800076 : True := trivial
theorem tw12540800736699631050 : True := trivial
theorem tw15270729048626237958 : True := trivial
theorem tw9140063382869304120 : True := trivial
theorem tw14558969323905986741 : True := trivial
theorem tw13758948915013449397 : True := trivial
theorem tw14820496819874337416 : True := trivial
theorem tw12688729033689436754 : True := trivial
theorem tw13200177327426563521 : True := trivial
theorem tw13963158057122002454 : True := trivial
theorem tw15296638952792297585 : True := trivial
theorem tw10467584912128312105 : True := trivial
theorem tw9349497639472619588 : True := trivial
theorem tw17478722589502445978 : True := trivial
theorem tw12056596633878991817 : True := trivial
theorem tw10840139340582571922 : True := trivial
theorem tw18154627943774377348 : True := trivial
theorem tw2167384251425162797 : True := trivial
theorem tw2447010450120073262 : True := trivial
theorem tw3232270311777372273 : True := trivial
theorem tw14432740918813763817 : True := trivial
theorem tw5932082505621288647 : True := trivial
theorem tw4397353207691548035 : True := trivial
theorem tw414146962427189552 : True := trivial
theorem tw1745271027643805418 : True := trivial
theorem tw4422276619278600727 : True := trivial
theorem tw6027180799015181879 : True := trivial
theorem tw9107170298555381705 : True := trivial
theorem tw10587580826675096554 : True := trivial
theorem tw13231272018143031212 : True := trivial
theorem tw276903858454922127 : True := trivial
theorem tw8218819101457601776 : True := trivial
theorem tw5619803957841784048 : True := trivial
theorem tw7766415108573184305 : True := trivial
theorem tw18228655803557992608 : True := trivial
theorem tw5964785641998049897 : True := trivial
theorem tw13356387430892511905 : True := trivial
theorem tw3587991164115205208 : True := trivial
theorem tw10292701021901942622 : True := trivial
theorem tw4952593789767209597 : True := trivial
theorem tw5573000829034448011 : True := trivial
theorem tw14205006904943715905 : True := trivial
theorem tw8413133151647880539 : True := trivial
theorem tw18161101489703310961 : True := trivial
theorem tw9245723823536211039 : True := trivial
theorem tw18328486069260669041 : True := trivial
theorem tw15986765973559043216 : True := trivial
theorem tw12169228651073509009 : True := trivial
theorem tw8087273147054526846 : True := trivial
theorem tw15421342739227911939 : True := trivial
theorem tw4837763867591130413 : True := trivial
theorem tw6166532556598395850 : True := trivial
theorem tw5878047611234877577 : True := trivial
theorem tw6234259597661685125 : True := trivial
theorem tw6460966521098074893 : True := trivial
theorem tw2691182800312180423 : True := trivial
theorem tw2277698456845511444 : True := trivial
theorem tw5635654813233479639 : True := trivial
theorem tw707885073954110949 : True := trivial
theorem tw14222940496449047865 : True := trivial
theorem tw17804031047071762117 : True := trivial
theorem tw129196079805174044 : True := trivial
theorem tw6684128704866281179 : True := trivial
theorem tw7235909688915465346 : True := trivial
theorem tw16281141667863336784 : True := trivial
theorem tw14795748159217239652 : True := trivial
theorem tw11394987932868277362 : True := trivial
theorem tw5774118191818503404 : True := trivial
theorem tw11619669790576578751 : True := trivial
theorem tw17551835440721493442 : True := trivial
theorem tw15817202532040668034 : True := trivial
theorem tw3834328006691320696 : True := trivial
theorem tw11378972443561828832 : True := trivial
theorem tw7255143783654795107 : True := trivial
theorem tw9179076619674111515 : True := trivial
theorem tw11021402016762074336 : True := trivial
theorem tw1304537991673304957 : True := trivial
theorem tw6994989764056351226 : True := trivial
theorem tw7864136953561803568 : True := trivial
theorem tw11568272619759294016 : True := trivial
theorem tw4018041982718015684 : True := trivial
theorem tw4519747625616673805 : True := trivial
theorem tw5418920303086518451 : True := trivial
theorem tw12233832659156577737 : True := trivial
theorem tw1357463484097335404 : True := trivial
theorem tw11365423253905447938 : True := trivial
theorem tw5531990279233569197 : True := trivial
end Mine.holds
set_option maxHeartbeats 0 in
theorem Mine.holds : PySem.Challenge.rw_nt0208_01.Holds := by
  w_on
  o_law
  k_head
  (case hw => w_witness2)
  intro w s₀ s₁ mg mb G Y fa o pm cd doc dV kV ho hd hcd hD hmg hg args vals as hpre hlay hrd hwl hlo
  have KX := kIn_of Y
  refine Ground.open G ?_
  intro T B D TE TW
  have NS := T.seer (by decide +kernel)
  clear hd hcd hD ho D TE TW B
  wrow_args hpre hlay hrd hwl hlo
  all_goals (
    rename_i w1 r0 hI hr hc1 hc2
    refine Mine.walk KX ?F T.g T.b T.builtins T.nolimit NS rfl hmg (by omega) w1 ?_
    (case F => refine Mine.facts_chunks ?_ ?_ ?_ ?_ ?_ ?_ ?_ ?_ ?_ ?_ ?_ <;> as_aux_lemma => kernel_rfl)
    intro s' hk ho hgs
    refine GoodW.toG ⟨.inl ⟨_, .bool true, [], rfl, ?_, .bool true, ?_, ?_⟩, hk, ho, hgs.trans hg⟩)
  all_goals first
    | exact fun _ => ⟨List.nodup_nil, fun _ h => (List.not_mem_nil h).elim⟩
    | exact raisesW_false (by wrow_none_raised)
    | wrow_post
theorem PySem.Challenge.cw_nt0208_01_holds : PySem.Challenge.rw_nt0208_01.Holds :=
  Mine.holds
